import PyProof.Rows.All
import Wide.All
import OpenK.AllK
import Wide.FinOn
import HandS.ForMost
import KE.SortData
import HandS.Lambda
import HandS.Nested
import HandS.HeadHook2
import HandS.Wide
import HandS.TupAny
import KE.DataEq
import HandS.Style
import HandS.List
import HandS.Conv
import HandS.Codes
import HandS.Star
import HandS.Flow
import KE.DataIsa
import HandS.Gcd
import HandS.SortOrd
import HandS.Zip
import KE.GoesEnum
import KE.GoesMore
import KE.KDictZip
import KE.KDictSum
import KE.KDictCopyH
import KE.KDictKeyed
import HandS.TupLen
import HandS.WordsDict
import HandS.Iter
import HandS.Dict
import HandS.Walk
import HandS.Small
import HandS.HeadWalk
import HandS.Head2
import HandS.HeadHook4
import KE.KStateDown
import PySem.Challenge.RW_soundlaws_k21_whole_idle_and_still_laws
set_option Elab.async false
set_option linter.all false
section
set_option Elab.async false
set_option linter.all false
set_option maxRecDepth 100000
/-! Y1: own small syntax and a total semantics of it (data by value, a store of changeable things, errors). Plain Lean, no heap. -/
namespace Y
open PySem

/-- a dict's keys: rows of ints, ints -/
inductive DK where
  | rw (ks : List (List Int)) | iw (ks : List Int)
deriving DecidableEq
/-- data -/
inductive D where
  | non | bl (b : Bool) | int (i : Int) | str (x : Str)
  | tup (xs : List D) | lst (xs : List D)
  | ref (n : Nat) | fn (f : Nat) | clo (l : Nat) (cs : List Nat)
  /-- a dict that nobody writes -/
  | dct (k : DK) (xs : List D)

/-- what stands in the store -/
inductive Cell where
  | lst (xs : List D)
  | var (d : Option D)
  | dct (k : DK) (xs : List D)
abbrev Sto := List Cell

structure Exn where
  cls : Nat
  arg : Option D

inductive Res (α : Type) where
  | ok (a : α) (st : Sto)
  | ex (x : Exn) (st : Sto)
  | no
def Res.bind {α β : Type} (r : Res α) (k : α → Sto → Res β) : Res β := match r with
  | .ok a st => k a st
  | .ex x st => .ex x st
  | .no => .no
@[simp] theorem Res.bind_ok {α β : Type} (a : α) (st : Sto) (k : α → Sto → Res β) : (Res.ok a st).bind k = k a st := id rfl
@[simp] theorem Res.bind_ex {α β : Type} (x : Exn) (st : Sto) (k : α → Sto → Res β) : (Res.ex x st : Res α).bind k = .ex x st := id rfl
@[simp] theorem Res.bind_no {α β : Type} (k : α → Sto → Res β) : (Res.no : Res α).bind k = .no := id rfl
theorem Res.bind_bind {α β γ : Type} (r : Res α) (f : α → Sto → Res β) (g : β → Sto → Res γ) : (r.bind f).bind g = r.bind fun a st => (f a st).bind g := by cases r <;> rfl
/-- a partial pure step -/
def Res.of {α : Type} (o : Option α) (st : Sto) : Res α := match o with
  | some a => .ok a st
  | none => .no
@[simp] theorem Res.of_some {α : Type} (a : α) (st : Sto) : Res.of (some a) st = .ok a st := id rfl
@[simp] theorem Res.of_none {α : Type} (st : Sto) : Res.of (none : Option α) st = .no := id rfl

/-! ### data: without references; as the library's data -/
mutual
def D.nr : D → Bool
  | .non => true | .bl _ => true | .int _ => true | .str _ => true
  | .tup xs => D.nrs xs | .lst xs => D.nrs xs
  | .ref _ => false | .fn _ => true | .clo _ _ => false
  | .dct _ xs => D.nrs xs
def D.nrs : List D → Bool
  | [] => true
  | x :: xs => x.nr && D.nrs xs
end
/-- plain data: no reference, no function, not too deep -/
def D.plN : Nat → D → Bool
  | _, .non => true | _, .bl _ => true | _, .int _ => true | _, .str _ => true
  | n + 1, .tup xs => xs.all (D.plN n) | n + 1, .lst xs => xs.all (D.plN n)
  | _, _ => false
def D.pl (d : D) : Bool := D.plN 40 d
mutual
def D.py : D → PyData
  | .non => .none | .bl b => .bool b | .int i => .int i | .str x => .str x
  | .tup xs => .tuple (D.pys xs) | .lst xs => .list (D.pys xs)
  | _ => .none
def D.pys : List D → List PyData
  | [] => []
  | x :: xs => x.py :: D.pys xs
end
mutual
/-- == of plain data -/
def D.eq : D → D → Bool
  | .non, .non => true
  | .bl a, .bl b => a == b
  | .int a, .int b => a == b
  | .bl a, .int b => decide ((if a then 1 else 0 : Int) = b)
  | .int a, .bl b => decide (a = (if b then 1 else 0 : Int))
  | .str a, .str b => a == b
  | .tup a, .tup b => D.eqs a b
  | .lst a, .lst b => D.eqs a b
  | _, _ => false
def D.eqs : List D → List D → Bool
  | [], [] => true
  | x :: xs, y :: ys => D.eq x y && D.eqs xs ys
  | _, _ => false
end

/-! ### syntax -/
inductive BOp where | add | sub | mul | fdiv | mod | pow
inductive COp where | eq | ne | lt | le | gt | ge | is | isnot | inn | notin
/-- built-in functions of one or two values -/
inductive Bi where | len | int | abs | tuple | list | sum | max | min | all | any | str | repr | sorted | divmod | max2 | min2 | listrange
inductive Ty where | int | bool | str | tuple | list

mutual
inductive E where
  | lit (d : D)
  | var (i : Nat)
  | box (j : Nat)
  | gl (x : Str) (d : D)
  | tup (es : Es)
  | lst (m : Bool) (es : Es)
  | bin (o : BOp) (a b : E)
  | neg (a : E)
  | cmp (o : COp) (a b : E)
  | cmp2 (o p : COp) (a b c : E)
  | not (a : E) | and (a b : E) | or (a b : E) | ite (c a b : E)
  | idx (a i : E)
  | sl (a : E) (lo hi : Oe) | rev (a : E)
  | call (f : Nat) (es ks : Es) (perm : Option (List Nat))
  | vcall (f : E) (es : Es)
  | bi (b : Bi) (es : Es)
  | lstm (es : Es)
  /-- dict(pairs), the keys rows -/
  | dof (es : Es)
  | isa (a : E) (t : Ty)
  | app (r a : E) | ext (r a : E)
  /-- {} (of rows, of ints), d.get(k, x) -/
  | dnew (t : Bool) | dget (d k x : E)
  | lam (l : Nat) (js : List Nat)
  | comp (m : Bool) (own : List Nat) (it : It) (p : Pt) (c : Es) (r : Gs)
inductive Es where
  | nil | cons (e : E) (r : Es) | star (e : E) (r : Es)
inductive Oe where
  | none | some (e : E)
inductive It where
  | val (e : E) | rng (e : E) | rng2 (a b : E) | enum (e : E) | zip (a b : E) | zip3 (a b c : E)
inductive Pt where
  | name (i : Nat) | tup (is : List Nat)
inductive Gs where
  | fin (e : E) | cons (p : Pt) (it : It) (c : Es) (r : Gs)
end
mutual
inductive T where
  | name (i : Nat) | box (j : Nat) | sub (a i : E) | tup (ts : Ts)
inductive Ts where
  | nil | cons (t : T) (r : Ts)
end
mutual
inductive S where
  | asg (t : T) (e : E)
  | ex (e : E)
  | ret (e : E) | retN
  | iff (c : E) (a b : Ss)
  | for_ (p : Pt) (it : It) (b : Ss)
  | whl (c : E) (b : Ss)
  | raise (c : Nat) (es : Es)
  | pass
inductive Ss where
  | nil | cons (s : S) (r : Ss)
end

def Pt.ixs : Pt → List Nat
  | .name i => [i]
  | .tup is => is
/-- names' values, the changeable names' places, where the frame's own things begin -/
structure Env where
  sl : List (Option D)
  bx : List Nat
  bs : Nat
structure Fd where
  np : Nat
  ns : Nat
  bxs : List (Option Nat)
  keep : Bool
  body : Ss
structure Lm where
  np : Nat
  ns : Nat
  body : E
structure Prog where
  fds : List Fd
  lms : List Lm
/-- what a call does -/
structure Cs where
  fn : Nat → List D → Sto → Res D
  clo : Nat → List Nat → List D → Sto → Res D
  /-- turns of a while at most -/
  fuel : Nat

/-! ### values' operations -/
def deref (st : Sto) : D → D
  | .ref n => match st[n]? with
    | some (.lst xs) => .lst xs
    | some (.dct k xs) => .dct k xs
    | _ => .ref n
  | d => d
/-! ### dicts -/
def DK.len : DK → Nat
  | .rw ks => ks.length
  | .iw ks => ks.length
/-- the keys as data -/
def DK.ds : DK → List D
  | .rw ks => ks.map fun w => .tup (w.map .int)
  | .iw ks => ks.map .int
def ints? : List D → Option (List Int)
  | [] => some []
  | .int i :: r => (ints? r).map (i :: ·)
  | _ :: _ => none
/-- where a key stands; none: no such key may be asked for -/
def findK {α : Type} [DecidableEq α] (k : α) : List α → List D → Option D
  | a :: r, x :: xs => if a = k then some x else findK k r xs
  | _, _ => none
def DK.get (k : DK) (xs : List D) (y : D) : Option (Option D) := match k, y with
  | .rw ks, .tup w => (ints? w).map fun w => findK w ks xs
  | .iw ks, .int i => some (findK i ks xs)
  | _, _ => none
def putKs {α : Type} [DecidableEq α] (k : α) (v : D) (ks : List α) (xs : List D) : List α × List D :=
  if ks.any (fun a => decide (a = k)) then (ks, List.zipWith (fun a x => if a = k then v else x) ks xs) else (ks ++ [k], xs ++ [v])
def DK.put (k : DK) (xs : List D) (y v : D) : Option (DK × List D) := match k, y with
  | .rw ks, .tup w => (ints? w).map fun w => (.rw (putKs w v ks xs).1, (putKs w v ks xs).2)
  | .iw ks, .int i => some (.iw (putKs i v ks xs).1, (putKs i v ks xs).2)
  | _, _ => none
def dofL : DK → List D → List D → Option (DK × List D)
  | k, xs, [] => some (k, xs)
  | k, xs, .tup [y, v] :: r => match k.put xs y v with
    | some (k', xs') => dofL k' xs' r
    | none => none
  | _, _, _ :: _ => none
def dofD : List D → Option (DK × List D)
  | [.lst ps] => dofL (.rw []) [] ps
  | _ => none
def litems : D → Option (List D)
  | .lst xs => some xs
  | .tup xs => some xs
  | _ => none
def i64 (i : Int) : Bool := decide (-(2 ^ 64) < i) && decide (i < 2 ^ 64)
def i62 (i : Int) : Bool := decide (-(2 ^ 62) ≤ i) && decide (i < 2 ^ 62)
def line (n : Nat) : Bool := decide (n ≤ sizeLine)
def binD : BOp → D → D → Option D
  | .add, .int a, .int b => some (.int (a + b))
  | .add, .tup a, .tup b => if line (a.length + b.length) then some (.tup (a ++ b)) else none
  | .add, .lst a, .lst b => if line (a.length + b.length) then some (.lst (a ++ b)) else none
  | .add, .str a, .str b => if line (a.length + b.length) then some (.str (a ++ b)) else none
  | .sub, .int a, .int b => some (.int (a - b))
  | .mul, .int a, .int b => if i64 a || i64 b || (decide (a.natAbs < 2 ^ 400000) && decide (b.natAbs < 2 ^ 400000)) then some (.int (a * b)) else none
  | .fdiv, .int a, .int b => if decide (0 < b) && decide (b < 1073741824) then some (.int (a / b)) else none
  | .mod, .int a, .int b => if decide (0 < b) then some (.int (a % b)) else none
  | .pow, .int a, .int b => if decide (0 ≤ b) && decide (b ≤ 1000000) && decide (a.natAbs < 2 ^ 64) then some (.int (a ^ b.toNat)) else none
  | _, _, _ => none
def isNone : D → Bool
  | .non => true
  | _ => false
def allInts : List D → Option (List Int)
  | [] => some []
  | .int i :: r => (allInts r).map (i :: ·)
  | _ :: _ => none
def allBls : List D → Option (List Bool)
  | [] => some []
  | .bl i :: r => (allBls r).map (i :: ·)
  | _ :: _ => none
def ltInts : List Int → List Int → Bool
  | _, [] => false
  | [], _ :: _ => true
  | x :: xs, y :: ys => if x = y then ltInts xs ys else decide (x < y)
def inD (x : D) (xs : List D) : Bool := xs.any fun y => D.eq y x
def cmpD : COp → D → D → Option Bool
  | .eq, a, b => if a.pl && b.pl then some (D.eq a b) else none
  | .ne, a, b => if a.pl && b.pl then some (!D.eq a b) else none
  | .lt, .int a, .int b => some (decide (a < b))
  | .le, .int a, .int b => some (decide (a ≤ b))
  | .gt, .int a, .int b => some (decide (b < a))
  | .ge, .int a, .int b => some (decide (b ≤ a))
  | .is, a, .non => some (isNone a)
  | .isnot, a, .non => some (!isNone a)
  | .is, .bl a, .bl b => some (decide (a = b))
  | .isnot, .bl a, .bl b => some (!decide (a = b))
  | .lt, .tup a, .tup b => match ints? a, ints? b with
    | some x, some y => some (HT.lexLt x y)
    | _, _ => none
  | .inn, a, .dct k xs => (k.get xs a).map Option.isSome
  | .notin, a, .dct k xs => (k.get xs a).map Option.isNone
  | .inn, a, b => match litems b with
    | some xs => if a.pl && xs.all (D.plN 39) then some (inD a xs) else none
    | none => none
  | .notin, a, b => match litems b with
    | some xs => if a.pl && xs.all (D.plN 39) then some (!inD a xs) else none
    | none => none
  | _, _, _ => none
/-- truth of a value -/
def truD : D → Option Bool
  | .bl b => some b
  | .non => some false
  | .int i => some (i != 0)
  | .lst xs => some (!xs.isEmpty)
  | .tup xs => some (!xs.isEmpty)
  | .str x => if line x.length then some ((x.length : Int) != 0) else none
  | _ => none
def atD (xs : List D) (i : Int) : Option D := L2.atI xs i
def idxD : D → D → Option D
  | .lst xs, .int i => atD xs i
  | .tup xs, .int i => atD xs i
  | .dct k xs, y => (k.get xs y).join
  | .str x, .int i => if line x.length then (L2.atI x.cps.toList i).map fun c => .str ⟨#[c]⟩ else none
  | _, _ => none
def cutL {α : Type} (xs : List α) (lo hi : Option Int) : List α := (xs.drop (HT.sIx xs.length 0 lo)).take (HT.sIx xs.length xs.length hi - HT.sIx xs.length 0 lo)
def slD : D → Option Int → Option Int → Option D
  | .lst xs, lo, hi => some (.lst (cutL xs lo hi))
  | .tup xs, lo, hi => some (.tup (cutL xs lo hi))
  | _, _, _ => none
def revD : D → Option D
  | .lst xs => some (.lst xs.reverse)
  | _ => none
/-- insertion, for the sorted list -/
def insL (lt : D → D → Bool) (x : D) : List D → List D
  | [] => [x]
  | y :: ys => if lt x y then x :: y :: ys else y :: insL lt x ys
def sortL (lt : D → D → Bool) : List D → List D
  | [] => []
  | x :: xs => insL lt x (sortL lt xs)
def bLen : List D → Option D
  | [.lst xs] => some (.int xs.length)
  | [.tup xs] => some (.int xs.length)
  | [.str x] => if line x.length then some (.int x.length) else none
  | [.dct k xs] => if k.len = xs.length then some (.int xs.length) else none
  | _ => none
def bInt : List D → Option D
  | [.int i] => some (.int i)
  | [.bl b] => some (.int (if b then 1 else 0))
  | _ => none
def bAbs : List D → Option D
  | [.int i] => some (.int (if i < 0 then -i else i))
  | _ => none
def bTuple : List D → Option D
  | [.lst xs] => some (.tup xs)
  | [.tup xs] => some (.tup xs)
  | _ => none
def bList : List D → Option D
  | [.lst xs] => some (.lst xs)
  | [.tup xs] => some (.lst xs)
  | _ => none
def bSum : List D → Option D
  | [.lst xs] => (allInts xs).map fun ns => .int ns.sum
  | _ => none
def bMax : List D → Option D
  | [.lst xs] => match allInts xs with
    | some (n :: ns) => some (.int (ns.foldl max n))
    | _ => none
  | [.int a, .int b] => some (.int (if b > a then b else a))
  | _ => none
def bMin : List D → Option D
  | [.lst xs] => match allInts xs with
    | some (n :: ns) => some (.int (ns.foldl min n))
    | _ => none
  | [.int a, .int b] => some (.int (if b < a then b else a))
  | _ => none
def bAll : List D → Option D
  | [.lst xs] => (allBls xs).map fun bs => .bl (bs.all id)
  | _ => none
def bAny : List D → Option D
  | [.lst xs] => (allBls xs).map fun bs => .bl (bs.any id)
  | _ => none
def bDivmod : List D → Option D
  | [.int a, .int b] => if decide (0 < b) && decide (b < 1073741824) then some (.tup [.int (a / b), .int (a % b)]) else none
  | _ => none
def bListrange : List D → Option D
  | [.int n] => if i62 n && line n.toNat then some (.lst ((List.range n.toNat).map fun (k : Nat) => D.int k)) else none
  | _ => none
def bRepr : List D → Option D
  | [d] => if d.pl && d.py.showable && line d.py.shown.length then some (.str d.py.shown) else none
  | _ => none
/-- what sorted asks: plain, alike, and tuples with items, no tuples, or the empty one ahead -/
def srtB (xs : List D) : Bool := xs.all (D.plN 39) && (xs.all fun a => xs.all fun b => PySem.W.alike a.py b.py) &&
  ((xs.all fun a => match a with
    | .tup (_ :: _) => true
    | _ => false) || (xs.all fun a => match a with
    | .tup _ => false
    | .non => false
    | _ => true) || ((match xs with
    | .tup [] :: _ => true
    | _ => false) && xs.all fun a => match a with
    | .tup _ => true
    | _ => false))
def leD (a b : D) : Bool := !PySem.W.dataLt b.py a.py
def bSorted : List D → Option D
  | [.lst xs] => if srtB xs then some (.lst (xs.mergeSort leD)) else none
  | [.dct k _] => if srtB k.ds then some (.lst (k.ds.mergeSort leD)) else none
  | _ => none
def biD : Bi → List D → Option D
  | .len => bLen | .int => bInt | .abs => bAbs | .tuple => bTuple | .list => bList | .sum => bSum | .max => bMax | .min => bMin | .all => bAll | .any => bAny
  | .divmod => bDivmod | .max2 => bMax | .min2 => bMin | .listrange => bListrange | .repr => bRepr
  | .str => fun _ => none | .sorted => bSorted
def isaD : D → Ty → Option Bool
  | d, t => if d.pl then some (match d, t with
    | .int _, .int => true | .bl _, .int => true | .bl _, .bool => true | .str _, .str => true | .tup _, .tuple => true | .lst _, .list => true
    | _, _ => false) else none
/-- what a walk walks: data as it is, or a changeable list -/
inductive Src where
  | fix (xs : List D)
  | cell (n len : Nat)

/-- names forgotten -/
def fgt (sl : List (Option D)) : List Nat → List (Option D)
  | [] => sl
  | i :: is => fgt (sl.set i none) is
def Env.fgt (ρ : Env) (is : List Nat) : Env := { ρ with sl := Y.fgt ρ.sl is }
/-- what may be written at n by a frame whose own things begin at base -/
def wrOk (base n : Nat) (d : D) : Bool := decide (base ≤ n) || d.nr
/-- a list of the store -/
def isL (st : Sto) : D → Bool
  | .ref n => match st[n]? with
    | some (.lst _) => true
    | _ => false
  | _ => false
def isDc : D → Bool
  | .dct _ _ => true
  | _ => false
def dgetD (d y z : D) : Option D := match d with
  | .dct k xs => (k.get xs y).map fun o => o.getD z
  | _ => none
def appD (base : Nat) (x y : D) (st : Sto) : Res D := match x with
  | .ref n => (match st[n]? with
    | some (.lst xs) => if line (xs.length + 1) && wrOk base n y then .ok .non (st.set n (.lst (xs ++ [y]))) else .no
    | _ => .no)
  | _ => .no
def extD (base : Nat) (x y : D) (st : Sto) : Res D := match x, y with
  | .ref n, .lst ys => (match st[n]? with
    | some (.lst xs) => if line (xs.length + ys.length) && (decide (base ≤ n) || D.nrs ys) then .ok .non (st.set n (.lst (xs ++ ys))) else .no
    | _ => .no)
  | _, _ => .no
/-! ### evaluation -/
def tru (r : Res D) : Res Bool := r.bind fun x st => .of (truD (deref st x)) st
def loopL (f : D → Sto → Res (List D)) : List D → Sto → Res (List D)
  | [], st => .ok [] st
  | x :: xs, st => (f x st).bind fun a st => (loopL f xs st).bind fun b st => .ok (a ++ b) st
def loopC (f : D → Sto → Res (List D)) (n len : Nat) : Nat → Nat → Sto → Res (List D)
  | 0, _, st => .ok [] st
  | k + 1, i, st => match st[n]? with
    | some (.lst xs) => if xs.length = len then (match xs[i]? with
      | some x => (f x st).bind fun a st => (loopC f n len k (i + 1) st).bind fun b st => .ok (a ++ b) st
      | none => .no) else .no
    | _ => .no
/-- at the end of a walk the list is still as long -/
def endC (n len : Nat) (st : Sto) : Bool := match st[n]? with
  | some (.lst xs) => decide (xs.length = len)
  | _ => false
def walkL (f : D → Sto → Res (List D)) : Src → Sto → Res (List D)
  | .fix xs, st => loopL f xs st
  | .cell n len, st => (loopC f n len len 0 st).bind fun a st => if endC n len st then .ok a st else .no
def srcAt (st : Sto) : Src → Nat → Option D
  | .fix xs, i => xs[i]?
  | .cell n len, i => match st[n]? with
    | some (.lst xs) => if xs.length = len then xs[i]? else none
    | _ => none
def srcEnd (st : Sto) : Src → Nat → Bool
  | .fix xs, i => decide (i = xs.length)
  | .cell n len, i => endC n len st && decide (i = len)
def Src.len : Src → Nat
  | .fix xs => xs.length
  | .cell _ len => len
/-- the same, turn by turn -/
def loopN (f : D → Sto → Res (List D)) (src : Src) : Nat → Nat → Sto → Res (List D)
  | 0, i, st => if srcEnd st src i then .ok [] st else .no
  | k + 1, i, st => match srcAt st src i with
    | some x => (f x st).bind fun a st => (loopN f src k (i + 1) st).bind fun b st => .ok (a ++ b) st
    | none => .no
theorem loopN_fix (f : D → Sto → Res (List D)) : ∀ (xs ys : List D) (st : Sto), loopN f (.fix (ys ++ xs)) xs.length ys.length st = loopL f xs st
  | [], ys, st => by simp [loopN, loopL, srcEnd]
  | x :: xs, ys, st => by
    have h : srcAt st (.fix (ys ++ x :: xs)) ys.length = some x := by simp [srcAt]
    simp only [List.length_cons, loopN, h, loopL]
    congr 1
    funext a st'
    have q := loopN_fix f xs (ys ++ [x]) st'
    simp only [List.append_assoc, List.singleton_append, List.length_append, List.length_singleton] at q
    rw [q]
theorem loopN_cell (f : D → Sto → Res (List D)) (n len : Nat) : ∀ (k i : Nat) (st : Sto), i + k = len → loopN f (.cell n len) k i st = (loopC f n len k i st).bind fun a st => if endC n len st then .ok a st else .no
  | 0, i, st, h => by
    have e : i = len := by omega
    simp [loopN, loopC, srcEnd, e]
  | k + 1, i, st, h => by
    simp only [loopN, loopC, srcAt]
    cases hs : st[n]? with
    | none => rfl
    | some c =>
      cases c with
      | var _ => rfl
      | dct _ _ => rfl
      | lst xs =>
        simp only
        by_cases hl : xs.length = len
        · simp only [if_pos hl]
          cases hx : xs[i]? with
          | none => rfl
          | some x =>
            simp only [Res.bind_bind]
            congr 1
            funext a st'
            rw [loopN_cell f n len k (i + 1) st' (by omega), Res.bind_bind]
            congr 1
            funext b st''
            simp only [Res.bind_ok]
            by_cases he : endC n len st'' = true
            · simp [he]
            · simp [he]
        · simp only [if_neg hl]; rfl
theorem walk_N (f : D → Sto → Res (List D)) (src : Src) (st : Sto) : walkL f src st = loopN f src src.len 0 st := by
  cases src with
  | fix xs =>
    have h := loopN_fix f xs [] st
    simp only [List.nil_append, List.length_nil] at h
    simp only [Src.len, h, walkL]
  | cell n len => simp only [walkL, Src.len, loopN_cell f n len len 0 st (by omega)]
def bindN (sl : List (Option D)) : List Nat → List D → Option (List (Option D))
  | [], [] => some sl
  | i :: is, x :: xs => bindN (sl.set i (some x)) is xs
  | _, _ => none
def bindP (ρ : Env) : Pt → D → Option Env
  | .name i, d => some { ρ with sl := ρ.sl.set i (some d) }
  | .tup is, .tup xs => (bindN ρ.sl is xs).map fun sl => { ρ with sl := sl }
  | _, _ => none
def srcD (st : Sto) : D → Option Src
  | .lst xs => some (.fix xs)
  | .tup xs => some (.fix xs)
  | .ref n => match st[n]? with
    | some (.lst xs) => some (.cell n xs.length)
    | _ => none
  | _ => none
def permD (perm : Option (List Nat)) (xs : List D) : Option (List D) := match perm with
  | none => some xs
  | some p => p.mapM fun i => xs[i]?
def zipT : List D → List D → List D
  | x :: xs, y :: ys => .tup [x, y] :: zipT xs ys
  | _, _ => []
def zipT3 : List D → List D → List D → List D
  | x :: xs, y :: ys, z :: zs => .tup [x, y, z] :: zipT3 xs ys zs
  | _, _, _ => []
def enumT : Nat → List D → List D
  | _, [] => []
  | n, x :: xs => .tup [.int n, x] :: enumT (n + 1) xs

mutual
def evE (C : Cs) (ρ : Env) : E → Sto → Res D
  | .lit d, st => .ok d st
  | .var i, st => match ρ.sl[i]? with
    | some (some d) => .ok d st
    | _ => .no
  | .box j, st => match ρ.bx[j]? with
    | some n => (match st[n]? with
      | some (.var (some d)) => .ok d st
      | _ => .no)
    | none => .no
  | .gl _ d, st => .ok d st
  | .tup es, st => (evEs C ρ es st).bind fun xs st => if line xs.length then .ok (.tup xs) st else .no
  | .lst m es, st => (evEs C ρ es st).bind fun xs st => if line xs.length then (if m then .ok (.ref st.length) (st ++ [.lst xs]) else .ok (.lst xs) st) else .no
  | .bin o a b, st => (evE C ρ a st).bind fun x st => (evE C ρ b st).bind fun y st => .of (binD o (deref st x) (deref st y)) st
  | .neg a, st => (evE C ρ a st).bind fun x st => match x with
    | .int i => .ok (.int (-i)) st
    | _ => .no
  | .cmp o a b, st => (evE C ρ a st).bind fun x st => (evE C ρ b st).bind fun y st => .of ((cmpD o (deref st x) (deref st y)).map D.bl) st
  | .cmp2 o p a b c, st => (evE C ρ a st).bind fun x st => (evE C ρ b st).bind fun y st => (Res.of (cmpD o (deref st x) (deref st y)) st).bind fun k st =>
      if k then (evE C ρ c st).bind fun z st => .of ((cmpD p (deref st y) (deref st z)).map D.bl) st else .ok (.bl false) st
  | .not a, st => (tru (evE C ρ a st)).bind fun k st => .ok (.bl (!k)) st
  | .and a b, st => (evE C ρ a st).bind fun x st => (Res.of (truD (deref st x)) st).bind fun k st => if k then evE C ρ b st else .ok x st
  | .or a b, st => (evE C ρ a st).bind fun x st => (Res.of (truD (deref st x)) st).bind fun k st => if k then .ok x st else evE C ρ b st
  | .ite c a b, st => (tru (evE C ρ c st)).bind fun k st => if k then evE C ρ a st else evE C ρ b st
  | .idx a i, st => (evE C ρ a st).bind fun x st => (evE C ρ i st).bind fun y st => .of (idxD (deref st x) y) st
  | .sl a lo hi, st => (evE C ρ a st).bind fun x st => (evO C ρ lo st).bind fun l st => (evO C ρ hi st).bind fun h st => .of (slD (deref st x) l h) st
  | .rev a, st => (evE C ρ a st).bind fun x st => .of (revD (deref st x)) st
  | .call f es ks perm, st => (evEs C ρ es st).bind fun xs st => (evEs C ρ ks st).bind fun zs st => (Res.of (permD perm (xs ++ zs)) st).bind fun ys st => C.fn f ys st
  | .vcall f es, st => (evE C ρ f st).bind fun g st => (evEs C ρ es st).bind fun xs st => match g with
    | .clo l cs => C.clo l cs xs st
    | _ => .no
  | .bi b es, st => (evEs C ρ es st).bind fun xs st => .of (biD b (xs.map (deref st))) st
  | .lstm es, st => (evEs C ρ es st).bind fun xs st => match bList (xs.map (deref st)) with
    | some (.lst ys) => if line ys.length then .ok (.ref st.length) (st ++ [.lst ys]) else .no
    | _ => .no
  | .dof es, st => (evEs C ρ es st).bind fun xs st => match dofD (xs.map (deref st)) with
    | some (k, ys) => .ok (.ref st.length) (st ++ [.dct k ys])
    | none => .no
  | .isa a t, st => (evE C ρ a st).bind fun x st => .of ((isaD (deref st x) t).map D.bl) st
  | .app r a, st => (evE C ρ r st).bind fun x st => if isL st x then (evE C ρ a st).bind fun y st => appD ρ.bs x y st else .no
  | .ext r a, st => (evE C ρ r st).bind fun x st => if isL st x then (evE C ρ a st).bind fun y st => extD ρ.bs x y st else .no
  | .dnew t, st => .ok (.ref st.length) (st ++ [.dct (if t then .rw [] else .iw []) []])
  | .dget d k x, st => (evE C ρ d st).bind fun a st => if isDc (deref st a) then (evE C ρ k st).bind fun y st => (evE C ρ x st).bind fun z st => .of (dgetD (deref st a) y z) st else .no
  | .lam l js, st => .of ((js.mapM fun j => ρ.bx[j]?).map fun cs => .clo l cs) st
  | .comp m own it p c r, st => ((evI C ρ it st).bind fun src st => walkL (fun d st => match bindP (ρ.fgt own) p d with
    | some ρ' => (evC C ρ' c st).bind fun k st => if k then evG C ρ' r st else .ok [] st
    | none => .no) src st).bind fun xs st => if line xs.length then (if m then .ok (.ref st.length) (st ++ [.lst xs]) else .ok (.lst xs) st) else .no
def evO (C : Cs) (ρ : Env) : Oe → Sto → Res (Option Int)
  | .none, st => .ok none st
  | .some e, st => (evE C ρ e st).bind fun x st => match x with
    | .int i => .ok (some i) st
    | _ => .no
def evEs (C : Cs) (ρ : Env) : Es → Sto → Res (List D)
  | .nil, st => .ok [] st
  | .cons e r, st => (evE C ρ e st).bind fun x st => (evEs C ρ r st).bind fun xs st => .ok (x :: xs) st
  | .star e r, st => (evE C ρ e st).bind fun x st => match litems (deref st x) with
    | some ys => (evEs C ρ r st).bind fun xs st => .ok (ys ++ xs) st
    | none => .no
def evI (C : Cs) (ρ : Env) : It → Sto → Res Src
  | .val e, st => (evE C ρ e st).bind fun x st => .of (srcD st x) st
  | .rng e, st => (evE C ρ e st).bind fun x st => match x with
    | .int n => if i62 n then .ok (.fix ((List.range n.toNat).map fun (k : Nat) => D.int k)) st else .no
    | _ => .no
  | .rng2 a b, st => (evE C ρ a st).bind fun x st => (evE C ρ b st).bind fun y st => match x, y with
    | .int m, .int n => if i62 m && i62 n then .ok (.fix ((List.range (n - m).toNat).map fun (k : Nat) => .int (m + k))) st else .no
    | _, _ => .no
  | .enum e, st => (evE C ρ e st).bind fun x st => match x with
    | .tup xs => .ok (.fix (enumT 0 xs)) st
    | .lst xs => .ok (.fix (enumT 0 xs)) st
    | _ => .no
  | .zip a b, st => (evE C ρ a st).bind fun x st => (evE C ρ b st).bind fun y st => match x, y with
    | .tup xs, .tup ys => .ok (.fix (zipT xs ys)) st
    | .lst xs, .lst ys => .ok (.fix (zipT xs ys)) st
    | _, _ => .no
  | .zip3 a b c, st => (evE C ρ a st).bind fun x st => (evE C ρ b st).bind fun y st => (evE C ρ c st).bind fun z st => match litems x, litems y, litems z with
    | some xs, some ys, some zs => .ok (.fix (zipT3 xs ys zs)) st
    | _, _, _ => .no
def evG (C : Cs) (ρ : Env) : Gs → Sto → Res (List D)
  | .fin e, st => (evE C ρ e st).bind fun x st => .ok [x] st
  | .cons p it c r, st => (evI C ρ it st).bind fun src st => walkL (fun d st => match bindP (ρ.fgt p.ixs) p d with
    | some ρ' => (evC C ρ' c st).bind fun k st => if k then evG C ρ' r st else .ok [] st
    | none => .no) src st
def evC (C : Cs) (ρ : Env) : Es → Sto → Res Bool
  | .nil, st => .ok true st
  | .cons e r, st => (tru (evE C ρ e st)).bind fun k st => if k then evC C ρ r st else .ok false st
  | .star _ _, _ => .no
end

/-! ### statements -/
inductive Fl where
  | nx (ρ : Env) (st : Sto)
  | rt (d : D) (st : Sto)
  | ex (x : Exn) (ρ : Env) (st : Sto)
  | no
def Res.fl {α : Type} (r : Res α) (ρ : Env) (k : α → Sto → Fl) : Fl := match r with
  | .ok a st => k a st
  | .ex x st => .ex x ρ st
  | .no => .no
@[simp] theorem Res.fl_ok {α : Type} (a : α) (ρ : Env) (st : Sto) (k : α → Sto → Fl) : (Res.ok a st).fl ρ k = k a st := id rfl
@[simp] theorem Res.fl_ex {α : Type} (x : Exn) (ρ : Env) (st : Sto) (k : α → Sto → Fl) : (Res.ex x st : Res α).fl ρ k = .ex x ρ st := id rfl
@[simp] theorem Res.fl_no {α : Type} (ρ : Env) (k : α → Sto → Fl) : (Res.no : Res α).fl ρ k = .no := id rfl
def Fl.then (f : Fl) (k : Env → Sto → Fl) : Fl := match f with
  | .nx ρ st => k ρ st
  | f => f
@[simp] theorem Fl.then_nx (ρ : Env) (st : Sto) (k : Env → Sto → Fl) : (Fl.nx ρ st).then k = k ρ st := id rfl
@[simp] theorem Fl.then_rt (d : D) (st : Sto) (k : Env → Sto → Fl) : (Fl.rt d st).then k = .rt d st := id rfl
@[simp] theorem Fl.then_ex (x : Exn) (ρ : Env) (st : Sto) (k : Env → Sto → Fl) : (Fl.ex x ρ st).then k = .ex x ρ st := id rfl
@[simp] theorem Fl.then_no (k : Env → Sto → Fl) : Fl.no.then k = .no := id rfl
def setI (base : Nat) (o i d : D) (st : Sto) : Res Unit := match o with
  | .ref n => (match st[n]? with
    | some (.lst xs) => (match i with
      | .int k => (match L2.ixN xs.length k with
        | some j => if wrOk base n d then .ok () (st.set n (.lst (xs.set j d))) else .no
        | none => .no)
      | _ => .no)
    | some (.dct k xs) => (match k.put xs i d with
      | some (k', xs') => if wrOk base n d && decide (xs.length < sizeLine) then .ok () (st.set n (.dct k' xs')) else .no
      | none => .no)
    | _ => .no)
  | _ => .no
mutual
def asT (C : Cs) : T → D → Env → Sto → Res Env
  | .name i, d, ρ, st => .ok { ρ with sl := ρ.sl.set i (some d) } st
  | .box j, d, ρ, st => match ρ.bx[j]? with
    | some n => (match st[n]? with
      | some (.var _) => .ok ρ (st.set n (.var (some d)))
      | _ => .no)
    | none => .no
  | .sub a i, d, ρ, st => (evE C ρ a st).bind fun x st => (evE C ρ i st).bind fun y st => (setI ρ.bs x y d st).bind fun _ st => .ok ρ st
  | .tup ts, d, ρ, st => match d with
    | .tup xs => asTs C ts xs ρ st
    | _ => .no
def asTs (C : Cs) : Ts → List D → Env → Sto → Res Env
  | .nil, [], ρ, st => .ok ρ st
  | .cons t r, x :: xs, ρ, st => (asT C t x ρ st).bind fun ρ st => asTs C r xs ρ st
  | _, _, _, _ => .no
end
def forL (f : D → Env → Sto → Fl) : List D → Env → Sto → Fl
  | [], ρ, st => .nx ρ st
  | x :: xs, ρ, st => (f x ρ st).then fun ρ st => forL f xs ρ st
def forC (f : D → Env → Sto → Fl) (n len : Nat) : Nat → Nat → Env → Sto → Fl
  | 0, _, ρ, st => .nx ρ st
  | k + 1, i, ρ, st => match st[n]? with
    | some (.lst xs) => if xs.length = len then (match xs[i]? with
      | some x => (f x ρ st).then fun ρ st => forC f n len k (i + 1) ρ st
      | none => .no) else .no
    | _ => .no
def forS (f : D → Env → Sto → Fl) : Src → Env → Sto → Fl
  | .fix xs, ρ, st => forL f xs ρ st
  | .cell n len, ρ, st => (forC f n len len 0 ρ st).then fun ρ st => if endC n len st then .nx ρ st else .no
def forN (f : D → Env → Sto → Fl) (src : Src) : Nat → Nat → Env → Sto → Fl
  | 0, i, ρ, st => if srcEnd st src i then .nx ρ st else .no
  | k + 1, i, ρ, st => match srcAt st src i with
    | some x => (f x ρ st).then fun ρ st => forN f src k (i + 1) ρ st
    | none => .no
theorem Fl.then_then (r : Fl) (f g : Env → Sto → Fl) : (r.then f).then g = r.then fun ρ st => (f ρ st).then g := by cases r <;> rfl
theorem forN_fix (f : D → Env → Sto → Fl) : ∀ (xs ys : List D) (ρ : Env) (st : Sto), forN f (.fix (ys ++ xs)) xs.length ys.length ρ st = forL f xs ρ st
  | [], ys, ρ, st => by simp [forN, forL, srcEnd]
  | x :: xs, ys, ρ, st => by
    have h : srcAt st (.fix (ys ++ x :: xs)) ys.length = some x := by simp [srcAt]
    simp only [List.length_cons, forN, h, forL]
    congr 1
    funext ρ' st'
    have q := forN_fix f xs (ys ++ [x]) ρ' st'
    simp only [List.append_assoc, List.singleton_append, List.length_append, List.length_singleton] at q
    rw [q]
theorem forN_cell (f : D → Env → Sto → Fl) (n len : Nat) : ∀ (k i : Nat) (ρ : Env) (st : Sto), i + k = len → forN f (.cell n len) k i ρ st = (forC f n len k i ρ st).then fun ρ st => if endC n len st then .nx ρ st else .no
  | 0, i, ρ, st, h => by
    have e : i = len := by omega
    simp [forN, forC, srcEnd, e]
  | k + 1, i, ρ, st, h => by
    simp only [forN, forC, srcAt]
    cases hs : st[n]? with
    | none => rfl
    | some c =>
      cases c with
      | var _ => rfl
      | dct _ _ => rfl
      | lst xs =>
        simp only
        by_cases hl : xs.length = len
        · simp only [if_pos hl]
          cases hx : xs[i]? with
          | none => rfl
          | some x =>
            simp only [Fl.then_then]
            congr 1
            funext ρ' st'
            rw [forN_cell f n len k (i + 1) ρ' st' (by omega)]
        · simp only [if_neg hl]; rfl
theorem for_N (f : D → Env → Sto → Fl) (src : Src) (ρ : Env) (st : Sto) : forS f src ρ st = forN f src src.len 0 ρ st := by
  cases src with
  | fix xs =>
    have h := forN_fix f xs [] ρ st
    simp only [List.nil_append, List.length_nil] at h
    simp only [Src.len, h, forS]
  | cell n len => simp only [forS, Src.len, forN_cell f n len len 0 ρ st (by omega)]
def whlN (t : Env → Sto → Res Bool) (f : Env → Sto → Fl) : Nat → Env → Sto → Fl
  | 0, _, _ => .no
  | k + 1, ρ, st => (t ρ st).fl ρ fun b st => if b then (f ρ st).then fun ρ st => whlN t f k ρ st else .nx ρ st
mutual
def evS (C : Cs) : S → Env → Sto → Fl
  | .asg t e, ρ, st => (evE C ρ e st).fl ρ fun d st => (asT C t d ρ st).fl ρ fun ρ st => .nx ρ st
  | .ex e, ρ, st => (evE C ρ e st).fl ρ fun _ st => .nx ρ st
  | .ret e, ρ, st => (evE C ρ e st).fl ρ fun d st => .rt d st
  | .retN, _, st => .rt .non st
  | .iff c a b, ρ, st => (tru (evE C ρ c st)).fl ρ fun k st => if k then evSs C a ρ st else evSs C b ρ st
  | .for_ p it b, ρ, st => (evI C ρ it st).fl ρ fun src st => (forS (fun d ρ st => match bindP ρ p d with
      | some ρ => evSs C b ρ st
      | none => .no) src ρ st)
  | .whl c b, ρ, st => whlN (fun ρ st => tru (evE C ρ c st)) (evSs C b) C.fuel ρ st
  | .raise c es, ρ, st => (evEs C ρ es st).fl ρ fun xs st => match xs with
      | [] => .ex ⟨c, none⟩ ρ st
      | [d] => if d.nr then .ex ⟨c, some d⟩ ρ st else .no
      | _ => .no
  | .pass, ρ, st => .nx ρ st
def evSs (C : Cs) : Ss → Env → Sto → Fl
  | .nil, ρ, st => .nx ρ st
  | .cons s r, ρ, st => (evS C s ρ st).then fun ρ st => evSs C r ρ st
end
theorem bindP_bx {ρ ρ' : Env} {p : Pt} {e : D} (h : bindP ρ p e = some ρ') : ρ'.bx = ρ.bx ∧ ρ'.bs = ρ.bs := by
  unfold bindP at h
  split at h
  · cases h; exact ⟨rfl, rfl⟩
  · obtain ⟨sl, _, rfl⟩ := Option.map_eq_some_iff.mp h
    exact ⟨rfl, rfl⟩
  · cases h
theorem bind_inv {α β : Type} {r : Res α} {f : α → Sto → Res β} {v : β} {st : Sto} (h : r.bind f = .ok v st) : ∃ u s, r = .ok u s ∧ f u s = .ok v st := by
  cases r with
  | ok u s => exact ⟨u, s, rfl, h⟩
  | ex _ _ => cases h
  | no => cases h
mutual
theorem asT_bx {C : Cs} : ∀ (t : T) {d : D} {ρ ρ' : Env} {st st' : Sto}, asT C t d ρ st = .ok ρ' st' → ρ'.bx = ρ.bx ∧ ρ'.bs = ρ.bs
  | .name i, _, _, _, _, _, h => by simp only [asT] at h; cases h; exact ⟨rfl, rfl⟩
  | .box j, _, ρ, _, st, _, h => by
    simp only [asT] at h
    split at h
    · split at h
      · cases h; exact ⟨rfl, rfl⟩
      · cases h
    · cases h
  | .sub a i, _, _, _, _, _, h => by
    simp only [asT] at h
    obtain ⟨_, _, _, h⟩ := bind_inv h
    obtain ⟨_, _, _, h⟩ := bind_inv h
    obtain ⟨_, _, _, h⟩ := bind_inv h
    cases h; exact ⟨rfl, rfl⟩
  | .tup ts, d, _, _, _, _, h => by
    cases d <;> simp only [asT] at h <;> first | exact asTs_bx ts h | cases h
theorem asTs_bx {C : Cs} : ∀ (t : Ts) {ds : List D} {ρ ρ' : Env} {st st' : Sto}, asTs C t ds ρ st = .ok ρ' st' → ρ'.bx = ρ.bx ∧ ρ'.bs = ρ.bs
  | .nil, [], _, _, _, _, h => by simp only [asTs] at h; cases h; exact ⟨rfl, rfl⟩
  | .nil, _ :: _, _, _, _, _, h => by simp [asTs] at h
  | .cons _ _, [], _, _, _, _, h => by simp [asTs] at h
  | .cons t r, x :: xs, _, _, _, _, h => by
    simp only [asTs] at h
    obtain ⟨ρ1, st1, h1, h⟩ := bind_inv h
    obtain ⟨a1, a2⟩ := asT_bx t h1
    obtain ⟨b1, b2⟩ := asTs_bx r h
    exact ⟨b1.trans a1, b2.trans a2⟩
end
theorem fl_inv {α : Type} {r : Res α} {ρ ρ' : Env} {k : α → Sto → Fl} {st' : Sto} (h : r.fl ρ k = .nx ρ' st') : ∃ a s, r = .ok a s ∧ k a s = .nx ρ' st' := by
  cases r with
  | ok a s => exact ⟨a, s, rfl, h⟩
  | ex _ _ => cases h
  | no => cases h
theorem then_inv {f : Fl} {k : Env → Sto → Fl} {ρ' : Env} {st' : Sto} (h : f.then k = .nx ρ' st') : ∃ ρ s, f = .nx ρ s ∧ k ρ s = .nx ρ' st' := by
  cases f with
  | nx ρ s => exact ⟨ρ, s, rfl, h⟩
  | rt _ _ => cases h
  | ex _ _ _ => cases h
  | no => cases h
theorem forN_bx {f : D → Env → Sto → Fl} {src : Src} (hf : ∀ {d : D} {ρ ρ' : Env} {st st' : Sto}, f d ρ st = .nx ρ' st' → ρ'.bx = ρ.bx ∧ ρ'.bs = ρ.bs) : ∀ (k i : Nat) {ρ ρ' : Env} {st st' : Sto}, forN f src k i ρ st = .nx ρ' st' → ρ'.bx = ρ.bx ∧ ρ'.bs = ρ.bs
  | 0, i, ρ, _, st, _, h => by
    simp only [forN] at h
    split at h
    · cases h; exact ⟨rfl, rfl⟩
    · cases h
  | k + 1, i, ρ, _, st, _, h => by
    simp only [forN] at h
    split at h
    · obtain ⟨ρ1, st1, h1, h2⟩ := then_inv h
      obtain ⟨a1, a2⟩ := hf h1
      obtain ⟨b1, b2⟩ := forN_bx hf k (i + 1) h2
      exact ⟨b1.trans a1, b2.trans a2⟩
    · cases h
theorem whlN_bx {t : Env → Sto → Res Bool} {f : Env → Sto → Fl} (hf : ∀ {ρ ρ' : Env} {st st' : Sto}, f ρ st = .nx ρ' st' → ρ'.bx = ρ.bx ∧ ρ'.bs = ρ.bs) : ∀ (k : Nat) {ρ ρ' : Env} {st st' : Sto}, whlN t f k ρ st = .nx ρ' st' → ρ'.bx = ρ.bx ∧ ρ'.bs = ρ.bs
  | 0, _, _, _, _, h => by cases h
  | k + 1, ρ, _, st, _, h => by
    simp only [whlN] at h
    obtain ⟨b, st1, _, h⟩ := fl_inv h
    cases b with
    | false => cases h; exact ⟨rfl, rfl⟩
    | true =>
      obtain ⟨ρ1, st2, h1, h2⟩ := then_inv h
      obtain ⟨a1, a2⟩ := hf h1
      obtain ⟨b1, b2⟩ := whlN_bx hf k h2
      exact ⟨b1.trans a1, b2.trans a2⟩
mutual
theorem evS_bx {C : Cs} : ∀ (s : S) {ρ ρ' : Env} {st st' : Sto}, evS C s ρ st = .nx ρ' st' → ρ'.bx = ρ.bx ∧ ρ'.bs = ρ.bs
  | .asg t e, _, _, _, _, h => by
    simp only [evS] at h
    obtain ⟨_, _, _, h⟩ := fl_inv h
    obtain ⟨_, _, h1, h⟩ := fl_inv h
    cases h; exact asT_bx t h1
  | .ex e, _, _, _, _, h => by
    simp only [evS] at h
    obtain ⟨_, _, _, h⟩ := fl_inv h
    cases h; exact ⟨rfl, rfl⟩
  | .ret e, _, _, _, _, h => by
    simp only [evS] at h
    obtain ⟨_, _, _, h⟩ := fl_inv h
    cases h
  | .retN, _, _, _, _, h => by simp only [evS] at h; cases h
  | .iff c a b, _, _, _, _, h => by
    simp only [evS] at h
    obtain ⟨k, _, _, h⟩ := fl_inv h
    cases k with
    | true => exact evSs_bx a h
    | false => exact evSs_bx b h
  | .for_ p it b, _, _, _, _, h => by
    simp only [evS] at h
    obtain ⟨src, _, _, h⟩ := fl_inv h
    rw [for_N] at h
    refine forN_bx (fun {d ρ ρ' st st'} hh => ?_) _ _ h
    split at hh
    · rename_i hb
      obtain ⟨a1, a2⟩ := bindP_bx hb
      obtain ⟨b1, b2⟩ := evSs_bx b hh
      exact ⟨b1.trans a1, b2.trans a2⟩
    · cases hh
  | .whl c b, _, _, _, _, h => by
    simp only [evS] at h
    exact whlN_bx (fun hh => evSs_bx b hh) _ h
  | .raise _ es, _, _, _, _, h => by
    simp only [evS] at h
    obtain ⟨xs, _, _, h⟩ := fl_inv h
    split at h
    · cases h
    · split at h <;> cases h
    · cases h
  | .pass, _, _, _, _, h => by simp only [evS] at h; cases h; exact ⟨rfl, rfl⟩
theorem evSs_bx {C : Cs} : ∀ (s : Ss) {ρ ρ' : Env} {st st' : Sto}, evSs C s ρ st = .nx ρ' st' → ρ'.bx = ρ.bx ∧ ρ'.bs = ρ.bs
  | .nil, _, _, _, _, h => by simp only [evSs] at h; cases h; exact ⟨rfl, rfl⟩
  | .cons s r, _, _, _, _, h => by
    simp only [evSs] at h
    obtain ⟨ρ1, st1, h1, h2⟩ := then_inv h
    obtain ⟨a1, a2⟩ := evS_bx s h1
    obtain ⟨b1, b2⟩ := evSs_bx r h2
    exact ⟨b1.trans a1, b2.trans a2⟩
end
/-! ### calls -/
mutual
/-- no reference to what is the frame's own -/
def D.old (base : Nat) : D → Bool
  | .tup xs => D.olds base xs | .lst xs => D.olds base xs | .dct _ xs => D.olds base xs
  | .ref n => decide (n < base) | .clo _ cs => cs.all fun c => decide (c < base)
  | _ => true
def D.olds (base : Nat) : List D → Bool
  | [] => true
  | x :: xs => x.old base && D.olds base xs
end
mutual
/-- lists of the frame's own by value -/
def frz (base : Nat) (st : Sto) : D → Option D
  | .tup xs => (frzs base st xs).map .tup
  | .lst xs => (frzs base st xs).map .lst
  | .dct k xs => (frzs base st xs).map (.dct k)
  | .ref n => if n < base then some (.ref n) else match st[n]? with
    | some (.lst xs) => if D.nrs xs then some (.lst xs) else none
    | some (.dct k xs) => if D.nrs xs then some (.dct k xs) else none
    | _ => none
  | .clo l cs => if cs.all fun c => decide (c < base) then some (.clo l cs) else none
  | d => some d
def frzs (base : Nat) (st : Sto) : List D → Option (List D)
  | [] => some []
  | x :: xs => match frz base st x, frzs base st xs with
    | some y, some ys => some (y :: ys)
    | _, _ => none
end
def fin (keep : Bool) (base : Nat) (d : D) (st : Sto) : Res D :=
  if keep then match d with
    | .ref n => (match st[n]? with
      | some (.lst xs) => if decide (base ≤ n) && D.nrs xs then .ok (.ref base) (st.take base ++ [.lst xs]) else .no
      | some (.dct k xs) => if decide (base ≤ n) && D.nrs xs then .ok (.ref base) (st.take base ++ [.dct k xs]) else .no
      | _ => .no)
    | _ => .no
  else if d.nr then .ok d (st.take base) else match frz base st d with
    | some d => .ok d (st.take base)
    | none => .no
def runFd (C : Cs) (fd : Fd) (args : List D) (st : Sto) : Res D :=
  if args.length = fd.np then
    match evSs C fd.body ⟨fgt (args.map some ++ List.replicate (fd.ns - fd.np) none) (fd.bxs.filterMap id), List.range' st.length fd.bxs.length, st.length⟩
      (st ++ fd.bxs.map fun b => .var (match b with
        | some i => args[i]?
        | none => none)) with
    | .nx _ st' => fin fd.keep st.length .non st'
    | .rt d st' => fin fd.keep st.length d st'
    | .ex x _ st' => .ex x (st'.take st.length)
    | .no => .no
  else .no
def runLm (C : Cs) (lm : Lm) (cs : List Nat) (args : List D) (st : Sto) : Res D :=
  if args.length = lm.np then
    match evE C ⟨(args.map some ++ List.replicate (lm.ns - lm.np) none), cs, st.length⟩ lm.body st with
    | .ok d st' => fin false st.length d st'
    | .ex x st' => .ex x (st'.take st.length)
    | .no => .no
  else .no
/-- calls that go at most so deep -/
def calls (P : Prog) : Nat → Cs
  | 0 => ⟨fun _ _ _ => .no, fun _ _ _ _ => .no, 0⟩
  | n + 1 => ⟨fun f args st => match P.fds[f]? with
      | some fd => runFd (calls P n) fd args st
      | none => .no,
    fun l cs args st => match P.lms[l]? with
      | some lm => runLm (calls P n) lm cs args st
      | none => .no,
    n + 1⟩
end Y
end
section
set_option Elab.async false
set_option linter.all false
set_option maxRecDepth 100000
set_option maxHeartbeats 1000000
set_option autoImplicit false
/-! Y2: how own data stand in the abstract heap. -/
namespace Y
open PySem PySem.Spec PyProof.Rows L2 LamX NdefX

/-! ### plain data as the library's data -/
mutual
theorem py_plain : ∀ (d : D) (n : Nat), D.plN n d = true → d.py.plain = true ∧ d.py.depth ≤ n
  | .non, n, _ => ⟨rfl, by simp [D.py, PyData.depth]⟩
  | .bl _, n, _ => ⟨rfl, by simp [D.py, PyData.depth]⟩
  | .int _, n, _ => ⟨rfl, by simp [D.py, PyData.depth]⟩
  | .str _, n, _ => ⟨rfl, by simp [D.py, PyData.depth]⟩
  | .tup xs, 0, h => by simp [D.plN] at h
  | .tup xs, n + 1, h => by
    have q := pys_plain xs n (by simpa [D.plN] using h)
    refine ⟨?_, ?_⟩
    · simp only [D.py, PyData.plain]; exact q.1
    · simp only [D.py, PyData.depth]; have := q.2; omega
  | .lst xs, 0, h => by simp [D.plN] at h
  | .lst xs, n + 1, h => by
    have q := pys_plain xs n (by simpa [D.plN] using h)
    refine ⟨?_, ?_⟩
    · simp only [D.py, PyData.plain]; exact q.1
    · simp only [D.py, PyData.depth]; have := q.2; omega
  | .ref _, n, h => by cases n <;> simp [D.plN] at h
  | .fn _, n, h => by cases n <;> simp [D.plN] at h
  | .clo _ _, n, h => by cases n <;> simp [D.plN] at h
  | .dct _ _, n, h => by cases n <;> simp [D.plN] at h
theorem pys_plain : ∀ (xs : List D) (n : Nat), (∀ x ∈ xs, D.plN n x = true) → PyData.plainAll (D.pys xs) = true ∧ PyData.depthAll (D.pys xs) ≤ n
  | [], n, _ => ⟨rfl, by simp [D.pys, PyData.depthAll]⟩
  | x :: xs, n, h => by
    have q1 := py_plain x n (h x (by simp))
    have q2 := pys_plain xs n (fun y hy => h y (by simp [hy]))
    refine ⟨?_, ?_⟩
    · simp only [D.pys, PyData.plainAll, Bool.and_eq_true]; exact ⟨q1.1, q2.1⟩
    · simp only [D.pys, PyData.depthAll]; have := q1.2; have := q2.2; omega
end
mutual
theorem eq_py : ∀ (a b : D) (n m : Nat), D.plN n a = true → D.plN m b = true → PyData.eqv a.py b.py = D.eq a b
  | .tup xs, .tup ys, 0, _, h, _ => by simp [D.plN] at h
  | .tup xs, .tup ys, _ + 1, 0, _, h => by simp [D.plN] at h
  | .tup xs, .tup ys, n + 1, m + 1, h1, h2 => by
    simp only [D.py, PyData.eqv, D.eq]
    exact eqs_py xs ys n m (by simpa [D.plN] using h1) (by simpa [D.plN] using h2)
  | .lst xs, .lst ys, 0, _, h, _ => by simp [D.plN] at h
  | .lst xs, .lst ys, _ + 1, 0, _, h => by simp [D.plN] at h
  | .lst xs, .lst ys, n + 1, m + 1, h1, h2 => by
    simp only [D.py, PyData.eqv, D.eq]
    exact eqs_py xs ys n m (by simpa [D.plN] using h1) (by simpa [D.plN] using h2)
  | .bl a, .int b, _, _, _, _ => by simp only [D.py, PyData.eqv, D.eq]; exact (Bool.beq_eq_decide_eq _ _)
  | .int a, .bl b, _, _, _, _ => by simp only [D.py, PyData.eqv, D.eq]; exact (Bool.beq_eq_decide_eq _ _)
  | .ref _, _, n, _, h, _ => by cases n <;> simp [D.plN] at h
  | .fn _, _, n, _, h, _ => by cases n <;> simp [D.plN] at h
  | .clo _ _, _, n, _, h, _ => by cases n <;> simp [D.plN] at h
  | .dct _ _, _, n, _, h, _ => by cases n <;> simp [D.plN] at h
  | _, .ref _, _, n, _, h => by cases n <;> simp [D.plN] at h
  | _, .fn _, _, n, _, h => by cases n <;> simp [D.plN] at h
  | _, .clo _ _, _, n, _, h => by cases n <;> simp [D.plN] at h
  | _, .dct _ _, _, n, _, h => by cases n <;> simp [D.plN] at h
  | .non, .non, _, _, _, _ => rfl
  | .non, .bl _, _, _, _, _ => rfl
  | .non, .int _, _, _, _, _ => rfl
  | .non, .str _, _, _, _, _ => rfl
  | .non, .tup _, _, _, _, _ => by simp only [D.py, PyData.eqv, D.eq]
  | .non, .lst _, _, _, _, _ => by simp only [D.py, PyData.eqv, D.eq]
  | .bl _, .non, _, _, _, _ => rfl
  | .bl _, .bl _, _, _, _, _ => rfl
  | .bl _, .str _, _, _, _, _ => rfl
  | .bl _, .tup _, _, _, _, _ => by simp only [D.py, PyData.eqv, D.eq]
  | .bl _, .lst _, _, _, _, _ => by simp only [D.py, PyData.eqv, D.eq]
  | .int _, .non, _, _, _, _ => rfl
  | .int _, .int _, _, _, _, _ => rfl
  | .int _, .str _, _, _, _, _ => rfl
  | .int _, .tup _, _, _, _, _ => by simp only [D.py, PyData.eqv, D.eq]
  | .int _, .lst _, _, _, _, _ => by simp only [D.py, PyData.eqv, D.eq]
  | .str _, .non, _, _, _, _ => rfl
  | .str _, .bl _, _, _, _, _ => rfl
  | .str _, .int _, _, _, _, _ => rfl
  | .str _, .str _, _, _, _, _ => rfl
  | .str _, .tup _, _, _, _, _ => by simp only [D.py, PyData.eqv, D.eq]
  | .str _, .lst _, _, _, _, _ => by simp only [D.py, PyData.eqv, D.eq]
  | .tup _, .non, _, _, _, _ => by simp only [D.py, PyData.eqv, D.eq]
  | .tup _, .bl _, _, _, _, _ => by simp only [D.py, PyData.eqv, D.eq]
  | .tup _, .int _, _, _, _, _ => by simp only [D.py, PyData.eqv, D.eq]
  | .tup _, .str _, _, _, _, _ => by simp only [D.py, PyData.eqv, D.eq]
  | .tup _, .lst _, _, _, _, _ => by simp only [D.py, PyData.eqv, D.eq]
  | .lst _, .non, _, _, _, _ => by simp only [D.py, PyData.eqv, D.eq]
  | .lst _, .bl _, _, _, _, _ => by simp only [D.py, PyData.eqv, D.eq]
  | .lst _, .int _, _, _, _, _ => by simp only [D.py, PyData.eqv, D.eq]
  | .lst _, .str _, _, _, _, _ => by simp only [D.py, PyData.eqv, D.eq]
  | .lst _, .tup _, _, _, _, _ => by simp only [D.py, PyData.eqv, D.eq]
theorem eqs_py : ∀ (xs ys : List D) (n m : Nat), (∀ x ∈ xs, D.plN n x = true) → (∀ y ∈ ys, D.plN m y = true) → PyData.eqvAll (D.pys xs) (D.pys ys) = D.eqs xs ys
  | [], [], _, _, _, _ => rfl
  | [], _ :: _, _, _, _, _ => by simp only [D.pys, PyData.eqvAll, D.eqs]
  | _ :: _, [], _, _, _, _ => by simp only [D.pys, PyData.eqvAll, D.eqs]
  | x :: xs, y :: ys, n, m, h1, h2 => by
    simp only [D.pys, PyData.eqvAll, D.eqs]
    rw [eq_py x y n m (h1 x (by simp)) (h2 y (by simp)), eqs_py xs ys n m (fun z hz => h1 z (by simp [hz])) (fun z hz => h2 z (by simp [hz]))]
end

/-! ### what stands where -/
/-- the link: the written part, the functions' addresses, the lambdas' texts, the code tables -/
structure Lk where
  K : PySem.W.Frag
  nf : Nat
  F : Nat → Addr
  lok : Nat → Str → Arguments → Expr → Scope → Prop
  lfr : Nat → List Str
  tabs : List (Addr × Str)
  ow : List (Nat × Addr)

def lamO (f : Addr) (q : Str) (params : Arguments) (body : Expr) (scope : Scope) (cl : List (Str × Addr)) (c' : Addr) : HO := .ext fun h => ∃ pm ctv, h.get? f = some (PySem.W.kla_obj "<lambda>" q params body scope cl pm c' ctv)
def CellO (c : Addr) (o : Obj) : HO := .ext fun h => h.get? c = some o
/-- where the store's things stand (none: a running frame's own cell) -/
structure Mu where
  m : List (Option Addr)
  /-- lists that are being filled: nobody knows of them -/
  hot : List Addr
  /-- the cells of changeable names -/
  vc : List (Nat × Addr)
def Mu.no (μ : Mu) (a : Addr) : Prop := some a ∉ μ.m ∧ a ∉ μ.hot
def Mu.cut (μ : Mu) (n : Nat) : Mu := ⟨μ.m.take n, μ.hot, μ.vc⟩
def Mu.push (μ : Mu) (p : Addr) : Mu := ⟨μ.m ++ [some p], μ.hot, μ.vc⟩
theorem Mu.no.cut {μ : Mu} {a : Addr} (n : Nat) (h : μ.no a) : (μ.cut n).no a := ⟨fun z => h.1 (List.mem_of_mem_take z), h.2⟩
/-- a list, a tuple that nobody writes -/
def LsAt (K : PySem.W.Frag) (H : Hp) (μ : Mu) (a : Addr) (vs : List V) : Prop := (μ.no a ∧ Rd H a (.lst vs)) ∨
    ∃ (o : Obj) (its : Array Value) (n : Nat), K.lookup a = some o ∧ o.cls = .type "list" ∧ o.dict = none ∧ o.data = .seq its n ∧ its.size ≤ sizeLine ∧ Vals vs its.toList
def TpAt (K : PySem.W.Frag) (H : Hp) (μ : Mu) (a : Addr) (vs : List V) : Prop := μ.no a ∧ H a = some (.tup vs)
theorem LsAt.sql {K : PySem.W.Frag} {H : Hp} {μ : Mu} {a : Addr} {vs : List V} (h : LsAt K H μ a vs) : SqL K H a vs := h.imp (·.2) id
theorem TpAt.sqt {K : PySem.W.Frag} {H : Hp} {μ : Mu} {a : Addr} {vs : List V} (h : TpAt K H μ a vs) : SqT K H a vs := .inl (.inl h.2)

/-- a dict's description -/
def DK.ho (k : DK) (vs : List V) : HO := match k with
  | .rw ks => .dT ((ks.map fun w => w.map Sum.inl).zip vs)
  | .iw ks => .dK ((ks.map Sum.inl).zip vs)
theorem DK.ho_ne (k : DK) (vs : List V) (ps : Array Value) : k.ho vs ≠ .tbl ps := by cases k <;> exact fun z => by cases z
/-- a dict that nobody writes -/
def DcAt (H : Hp) (μ : Mu) (a : Addr) (k : DK) (vs : List V) : Prop := μ.no a ∧ H a = some (k.ho vs) ∧ k.len = vs.length
/-- the cell of a changeable name -/
def CAt (Z : Lk) (μ : Mu) (n : Nat) (c : Addr) : Prop := n < μ.m.length ∧ ((n, c) ∈ μ.vc ∨ (n, c) ∈ Z.ow)

mutual
inductive Rep (Z : Lk) (H : Hp) (μ : Mu) : V → D → Prop
  | non : Rep Z H μ .non .non
  | bl (b : Bool) : Rep Z H μ (.bl b) (.bl b)
  | int (i : Int) : Rep Z H μ (.int i) (.int i)
  | str (x : Str) : Rep Z H μ (.str x) (.str x)
  | tup {a : Addr} {vs : List V} {xs : List D} : TpAt Z.K H μ a vs → Reps Z H μ vs xs → Rep Z H μ (.ref a) (.tup xs)
  | lst {a : Addr} {vs : List V} {xs : List D} : LsAt Z.K H μ a vs → Reps Z H μ vs xs → Rep Z H μ (.ref a) (.lst xs)
  | dct {a : Addr} {k : DK} {vs : List V} {xs : List D} : DcAt H μ a k vs → Reps Z H μ vs xs → Rep Z H μ (.ref a) (.dct k xs)
  | ref {a : Addr} {n : Nat} : μ.m[n]? = some (some a) → Rep Z H μ (.ref a) (.ref n)
  | fn {f : Nat} : f < Z.nf → Rep Z H μ (.ref (Z.F f)) (.fn f)
  | clo {f c' : Addr} {l : Nat} {cs : List Nat} {q : Str} {params : Arguments} {body : Expr} {scope : Scope} {cl : List (Str × Addr)} : Z.lok l q params body scope → μ.no f → μ.no c' → H f = some (lamO f q params body scope cl c') → H c' = some (CodeO c' q) →
      cs.length = (Z.lfr l).length → (∀ (k : Nat) (y : Str) (n : Nat), (Z.lfr l)[k]? = some y → cs[k]? = some n → ∃ c, cl.lookup y = some c ∧ CAt Z μ n c) →
      (∀ y c, cl.lookup y = some c → y ∈ Z.lfr l) → (∀ x y c, cl.lookup x = some c → cl.lookup y = some c → x = y) → Rep Z H μ (.ref f) (.clo l cs)
inductive Reps (Z : Lk) (H : Hp) (μ : Mu) : List V → List D → Prop
  | nil : Reps Z H μ [] []
  | cons {v : V} {vs : List V} {d : D} {ds : List D} : Rep Z H μ v d → Reps Z H μ vs ds → Reps Z H μ (v :: vs) (d :: ds)
end

/-- from one moment to a later one -/
structure Ext (μ : Mu) (H : Hp) (μ' : Mu) (H' : Hp) : Prop where
  keep : ∀ b o, μ.no b → (∀ ps, o ≠ .tbl ps) → H b = some o → H' b = some o
  mono : ∀ b, H' b = none → H b = none
  pre : ∃ m, μ'.m = μ.m ++ m ∧ ∀ b, some b ∈ m → H b = none
  hot : ∀ b, b ∈ μ'.hot → b ∈ μ.hot ∨ H b = none
  vc : ∀ p, p ∈ μ.vc → p ∈ μ'.vc
theorem Ext.refl (μ : Mu) (H : Hp) : Ext μ H μ H := ⟨fun _ _ _ _ h => h, fun _ h => h, ⟨[], by simp, by simp⟩, fun _ h => .inl h, fun _ h => h⟩
theorem Ext.nmem {μ μ' : Mu} {H H' : Hp} (e : Ext μ H μ' H') {b : Addr} {o : HO} (hb : μ.no b) (h : H b = some o) : μ'.no b := by
  obtain ⟨m, e1, hm⟩ := e.pre
  refine ⟨fun z => ?_, fun z => ?_⟩
  · rw [e1] at z
    rcases List.mem_append.mp z with z | z
    · exact hb.1 z
    · rw [hm b z] at h; cases h
  · rcases e.hot b z with z | z
    · exact hb.2 z
    · rw [z] at h; cases h
theorem Ext.trans {μ μ1 μ2 : Mu} {H H1 H2 : Hp} (a : Ext μ H μ1 H1) (b : Ext μ1 H1 μ2 H2) : Ext μ H μ2 H2 := by
  obtain ⟨m1, e1, h1⟩ := a.pre
  obtain ⟨m2, e2, h2⟩ := b.pre
  refine ⟨fun c o hc ho h => b.keep c o (a.nmem hc h) ho (a.keep c o hc ho h), fun c h => a.mono c (b.mono c h), ⟨m1 ++ m2, by rw [e2, e1, List.append_assoc], fun c hc => ?_⟩, fun c hc => ?_, fun p hp => b.vc p (a.vc p hp)⟩
  · rcases List.mem_append.mp hc with z | z
    · exact h1 c z
    · exact a.mono c (h2 c z)
  · rcases b.hot c hc with z | z
    · exact a.hot c z
    · exact .inr (a.mono c z)
theorem Ext.at {μ μ' : Mu} {H H' : Hp} (e : Ext μ H μ' H') {n : Nat} {oa : Option Addr} (h : μ.m[n]? = some oa) : μ'.m[n]? = some oa := by
  obtain ⟨m, e1, _⟩ := e.pre
  rw [e1, List.getElem?_append_left (List.getElem?_eq_some_iff.mp h).1]; exact h
theorem upd_none {H : Hp} {p b : Addr} {o : HO} (h : L2.upd H p o b = none) : H b = none := by
  unfold L2.upd at h; split at h
  · cases h
  · exact h
theorem Ext.lay {μ : Mu} {H : Hp} {p : Addr} {o : HO} (hp : H p = none) : Ext μ H μ (L2.upd H p o) :=
  ⟨fun b u _ _ h => by rw [upd_ne (ne_of_none h hp)]; exact h, fun b h => upd_none h, ⟨[], by simp, by simp⟩, fun _ h => .inl h, fun _ h => h⟩
/-- a thing of the store is written -/
theorem Ext.wr {μ : Mu} {H : Hp} {p : Addr} {o : HO} (hp : some p ∈ μ.m) : Ext μ H μ (L2.upd H p o) :=
  ⟨fun b u hb _ h => by rw [upd_ne (fun e => hb.1 (by rw [e]; exact hp))]; exact h, fun b h => upd_none h, ⟨[], by simp, by simp⟩, fun _ h => .inl h, fun _ h => h⟩
/-- a list that is being filled is written -/
theorem Ext.fill {μ : Mu} {H : Hp} {p : Addr} {o : HO} (hp : p ∈ μ.hot) : Ext μ H μ (L2.upd H p o) :=
  ⟨fun b u hb _ h => by rw [upd_ne (fun e => hb.2 (by rw [e]; exact hp))]; exact h, fun b h => upd_none h, ⟨[], by simp, by simp⟩, fun _ h => .inl h, fun _ h => h⟩
theorem Ext.new {μ : Mu} {H : Hp} {p : Addr} {o : HO} (hp : H p = none) : Ext μ H (μ.push p) (L2.upd H p o) :=
  ⟨fun b u _ _ h => by rw [upd_ne (ne_of_none h hp)]; exact h, fun b h => upd_none h, ⟨[some p], rfl, fun b hb => by simp at hb; subst hb; exact hp⟩, fun _ h => .inl h, fun _ h => h⟩
/-- a list begins to be filled -/
theorem Ext.heat {μ : Mu} {H : Hp} {p : Addr} {o : HO} (hp : H p = none) : Ext μ H ⟨μ.m, p :: μ.hot, μ.vc⟩ (L2.upd H p o) :=
  ⟨fun b u _ _ h => by rw [upd_ne (ne_of_none h hp)]; exact h, fun b h => upd_none h, ⟨[], by simp, by simp⟩, fun b hb => by
    rcases List.mem_cons.mp hb with z | z
    · subst z; exact .inr hp
    · exact .inl z, fun _ h => h⟩
/-- it is filled -/
theorem Ext.cool {μ : Mu} {H : Hp} {p : Addr} : Ext ⟨μ.m, p :: μ.hot, μ.vc⟩ H μ H := ⟨fun _ _ _ _ h => h, fun _ h => h, ⟨[], by simp, by simp⟩, fun b hb => .inl (by simp [hb]), fun _ h => h⟩

theorem LsAt.ext {K : PySem.W.Frag} {μ μ' : Mu} {H H' : Hp} {a : Addr} {vs : List V} (e : Ext μ H μ' H') (h : LsAt K H μ a vs) : LsAt K H' μ' a vs := by
  rcases h with ⟨hn, h | ⟨o, h⟩⟩ | h
  · exact .inl ⟨e.nmem hn h, .inl (e.keep _ _ hn (fun _ z => by cases z) h)⟩
  · exact .inl ⟨e.nmem hn h, .inr ⟨o, e.keep _ _ hn (fun _ z => by cases z) h⟩⟩
  · exact .inr h
theorem TpAt.ext {K : PySem.W.Frag} {μ μ' : Mu} {H H' : Hp} {a : Addr} {vs : List V} (e : Ext μ H μ' H') (h : TpAt K H μ a vs) : TpAt K H' μ' a vs := ⟨e.nmem h.1 h.2, e.keep _ _ h.1 (fun _ z => by cases z) h.2⟩
theorem DcAt.ext {μ μ' : Mu} {H H' : Hp} {a : Addr} {k : DK} {vs : List V} (e : Ext μ H μ' H') (h : DcAt H μ a k vs) : DcAt H' μ' a k vs := ⟨e.nmem h.1 h.2.1, e.keep _ _ h.1 (k.ho_ne vs) h.2.1, h.2.2⟩
theorem lamO_ne {f : Addr} {q : Str} {params : Arguments} {body : Expr} {scope : Scope} {cl : List (Str × Addr)} {c' : Addr} (ps : Array Value) : lamO f q params body scope cl c' ≠ .tbl ps := fun z => by unfold lamO at z; cases z
theorem CellO_ne {c : Addr} {o : Obj} (ps : Array Value) : CellO c o ≠ .tbl ps := fun z => by unfold CellO at z; cases z
variable {Z : Lk} {H H' : Hp} {μ μ' : Mu}
theorem Ext.len (e : Ext μ H μ' H') : μ.m.length ≤ μ'.m.length := by
  obtain ⟨m, e1, _⟩ := e.pre
  rw [e1]; simp
theorem CAt.ext {n : Nat} {c : Addr} (e : Ext μ H μ' H') (h : CAt Z μ n c) : CAt Z μ' n c := ⟨Nat.lt_of_lt_of_le h.1 e.len, h.2.imp (e.vc _) id⟩
mutual
theorem Rep.ext (e : Ext μ H μ' H') : ∀ {v : V} {d : D}, Rep Z H μ v d → Rep Z H' μ' v d
  | _, _, .non => .non
  | _, _, .bl b => .bl b
  | _, _, .int i => .int i
  | _, _, .str x => .str x
  | _, _, .tup h r => .tup (h.ext e) (Reps.ext e r)
  | _, _, .lst h r => .lst (h.ext e) (Reps.ext e r)
  | _, _, .dct h r => .dct (h.ext e) (Reps.ext e r)
  | _, _, .ref h => .ref (e.at h)
  | _, _, .fn h => .fn h
  | _, _, .clo h1 n1 n2 h2 h3 h4 h5 h6 h7 => .clo h1 (e.nmem n1 h2) (e.nmem n2 h3) (e.keep _ _ n1 lamO_ne h2) (e.keep _ _ n2 codeO_ne h3) h4
      (fun k y n a b => by obtain ⟨c, p, q⟩ := h5 k y n a b; exact ⟨c, p, q.ext e⟩) h6 h7
theorem Reps.ext (e : Ext μ H μ' H') : ∀ {vs : List V} {ds : List D}, Reps Z H μ vs ds → Reps Z H' μ' vs ds
  | _, _, .nil => .nil
  | _, _, .cons h r => .cons (h.ext e) (Reps.ext e r)
end
theorem Reps.length : ∀ {vs : List V} {ds : List D}, Reps Z H μ vs ds → vs.length = ds.length
  | _, _, .nil => rfl
  | _, _, .cons _ r => by simp [Reps.length r]
theorem Reps.get : ∀ {vs : List V} {ds : List D} {i : Nat} {d : D}, Reps Z H μ vs ds → ds[i]? = some d → ∃ v, vs[i]? = some v ∧ Rep Z H μ v d
  | _, _, _, _, .nil, h => by simp at h
  | _, _, 0, _, .cons h _, e => by simp at e; subst e; exact ⟨_, rfl, h⟩
  | _, _, i + 1, d, .cons _ r, e => by
    obtain ⟨v, h1, h2⟩ := Reps.get (i := i) (d := d) r (by simpa using e)
    exact ⟨v, by simpa using h1, h2⟩
theorem Reps.getV : ∀ {vs : List V} {ds : List D} {i : Nat} {v : V}, Reps Z H μ vs ds → vs[i]? = some v → ∃ d, ds[i]? = some d ∧ Rep Z H μ v d
  | _, _, _, _, .nil, h => by simp at h
  | _, _, 0, _, .cons h _, e => by simp at e; subst e; exact ⟨_, rfl, h⟩
  | _, _, i + 1, d, .cons _ r, e => by
    obtain ⟨v, h1, h2⟩ := Reps.getV (i := i) (v := d) r (by simpa using e)
    exact ⟨v, by simpa using h1, h2⟩
theorem Reps.append : ∀ {vs ws : List V} {ds es : List D}, Reps Z H μ vs ds → Reps Z H μ ws es → Reps Z H μ (vs ++ ws) (ds ++ es)
  | _, _, _, _, .nil, s => s
  | _, _, _, _, .cons h r, s => .cons h (Reps.append r s)
theorem Reps.set {v : V} {d : D} (q : Rep Z H μ v d) : ∀ {vs : List V} {ds : List D} (i : Nat), Reps Z H μ vs ds → Reps Z H μ (vs.set i v) (ds.set i d)
  | _, _, _, .nil => .nil
  | _, _, 0, .cons _ r => .cons q r
  | _, _, i + 1, .cons h r => .cons h (Reps.set q i r)
theorem Reps.take : ∀ {vs : List V} {ds : List D} (n : Nat), Reps Z H μ vs ds → Reps Z H μ (vs.take n) (ds.take n)
  | _, _, 0, _ => by simpa using .nil
  | _, _, _ + 1, .nil => by simpa using .nil
  | _, _, n + 1, .cons h r => .cons h (Reps.take n r)
theorem Reps.drop : ∀ {vs : List V} {ds : List D} (n : Nat), Reps Z H μ vs ds → Reps Z H μ (vs.drop n) (ds.drop n)
  | _, _, 0, r => r
  | _, _, _ + 1, .nil => .nil
  | _, _, n + 1, .cons _ r => Reps.drop n r
theorem Reps.reverse {vs : List V} {ds : List D} (h : Reps Z H μ vs ds) : Reps Z H μ vs.reverse ds.reverse := by
  have : ∀ {vs : List V} {ds : List D}, Reps Z H μ vs ds → Reps Z H μ vs.reverse ds.reverse := by
    intro vs ds
    induction vs generalizing ds with
    | nil => intro h; cases h; exact .nil
    | cons v vs ih => intro h; cases h with
      | cons h r => rw [List.reverse_cons, List.reverse_cons]; exact (ih r).append (.cons h .nil)
  exact this h
theorem Reps.ints : ∀ {vs : List V} {xs : List D} {ns : List Int}, Reps Z H μ vs xs → allInts xs = some ns → vs = ns.map V.int
  | _, _, _, .nil, h => by simp [allInts] at h; subst h; rfl
  | _, _, ns, .cons (d := .int i) q r, h => by
    simp only [allInts, Option.map_eq_some_iff] at h
    obtain ⟨ms, h1, rfl⟩ := h
    cases q
    rw [Reps.ints r h1]; rfl
  | _, _, _, .cons (d := .non) _ _, h => by simp [allInts] at h
  | _, _, _, .cons (d := .bl _) _ _, h => by simp [allInts] at h
  | _, _, _, .cons (d := .str _) _ _, h => by simp [allInts] at h
  | _, _, _, .cons (d := .tup _) _ _, h => by simp [allInts] at h
  | _, _, _, .cons (d := .lst _) _ _, h => by simp [allInts] at h
  | _, _, _, .cons (d := .ref _) _ _, h => by simp [allInts] at h
  | _, _, _, .cons (d := .fn _) _ _, h => by simp [allInts] at h
  | _, _, _, .cons (d := .clo _ _) _ _, h => by simp [allInts] at h
  | _, _, _, .cons (d := .dct _ _) _ _, h => by simp [allInts] at h
theorem Reps.bls : ∀ {vs : List V} {xs : List D} {ns : List Bool}, Reps Z H μ vs xs → allBls xs = some ns → vs = ns.map V.bl
  | _, _, _, .nil, h => by simp [allBls] at h; subst h; rfl
  | _, _, ns, .cons (d := .bl i) q r, h => by
    simp only [allBls, Option.map_eq_some_iff] at h
    obtain ⟨ms, h1, rfl⟩ := h
    cases q
    rw [Reps.bls r h1]; rfl
  | _, _, _, .cons (d := .non) _ _, h => by simp [allBls] at h
  | _, _, _, .cons (d := .int _) _ _, h => by simp [allBls] at h
  | _, _, _, .cons (d := .str _) _ _, h => by simp [allBls] at h
  | _, _, _, .cons (d := .tup _) _ _, h => by simp [allBls] at h
  | _, _, _, .cons (d := .lst _) _ _, h => by simp [allBls] at h
  | _, _, _, .cons (d := .ref _) _ _, h => by simp [allBls] at h
  | _, _, _, .cons (d := .fn _) _ _, h => by simp [allBls] at h
  | _, _, _, .cons (d := .clo _ _) _ _, h => by simp [allBls] at h
  | _, _, _, .cons (d := .dct _ _) _ _, h => by simp [allBls] at h

/-! ### references -/
mutual
theorem Rep.old : ∀ {v : V} {d : D}, Rep Z H μ v d → d.old μ.m.length = true
  | _, _, .non => rfl
  | _, _, .bl b => rfl
  | _, _, .int i => rfl
  | _, _, .str x => rfl
  | _, _, .tup h r => by simp only [D.old]; exact Reps.old r
  | _, _, .lst h r => by simp only [D.old]; exact Reps.old r
  | _, _, .dct h r => by simp only [D.old]; exact Reps.old r
  | _, _, .ref h => by simp only [D.old, decide_eq_true_eq]; exact (List.getElem?_eq_some_iff.mp h).1
  | _, _, .fn h => rfl
  | _, _, .clo (l := l) (cs := cs) h1 n1 n2 h2 h3 h4 h5 h6 h7 => by
    simp only [D.old, List.all_eq_true, decide_eq_true_eq]
    intro n hn
    obtain ⟨k, hk, e⟩ := List.mem_iff_getElem.mp hn
    obtain ⟨c, _, q⟩ := h5 k ((Z.lfr l)[k]'(by omega)) n (List.getElem?_eq_getElem (by omega)) (by rw [← e]; exact List.getElem?_eq_getElem hk)
    exact q.1
theorem Reps.old : ∀ {vs : List V} {ds : List D}, Reps Z H μ vs ds → D.olds μ.m.length ds = true
  | _, _, .nil => rfl
  | _, _, .cons h r => by simp only [D.olds, Bool.and_eq_true]; exact ⟨h.old, Reps.old r⟩
end
mutual
theorem old_nr : ∀ (d : D) (n : Nat), d.nr = true → d.old n = true
  | .non, _, _ => rfl | .bl _, _, _ => rfl | .int _, _, _ => rfl | .str _, _, _ => rfl | .fn _, _, _ => rfl
  | .ref _, _, h => by simp [D.nr] at h
  | .clo _ _, _, h => by simp [D.nr] at h
  | .tup xs, n, h => by simp only [D.old]; exact olds_nr xs n (by simpa [D.nr] using h)
  | .lst xs, n, h => by simp only [D.old]; exact olds_nr xs n (by simpa [D.nr] using h)
  | .dct _ xs, n, h => by simp only [D.old]; exact olds_nr xs n (by simpa [D.nr] using h)
theorem olds_nr : ∀ (xs : List D) (n : Nat), D.nrs xs = true → D.olds n xs = true
  | [], _, _ => rfl
  | x :: xs, n, h => by
    simp only [D.nrs, Bool.and_eq_true] at h
    simp only [D.olds, Bool.and_eq_true]; exact ⟨old_nr x n h.1, olds_nr xs n h.2⟩
end
mutual
theorem old_mono : ∀ (d : D) {n m : Nat}, n ≤ m → d.old n = true → d.old m = true
  | .non, _, _, _, _ => rfl | .bl _, _, _, _, _ => rfl | .int _, _, _, _, _ => rfl | .str _, _, _, _, _ => rfl | .fn _, _, _, _, _ => rfl
  | .ref _, _, _, h, q => by simp only [D.old, decide_eq_true_eq] at q ⊢; omega
  | .clo _ _, _, _, h, q => by simp only [D.old, List.all_eq_true, decide_eq_true_eq] at q ⊢; exact fun x hx => Nat.lt_of_lt_of_le (q x hx) h
  | .tup xs, _, _, h, q => by simp only [D.old] at q ⊢; exact olds_mono xs h q
  | .lst xs, _, _, h, q => by simp only [D.old] at q ⊢; exact olds_mono xs h q
  | .dct _ xs, _, _, h, q => by simp only [D.old] at q ⊢; exact olds_mono xs h q
theorem olds_mono : ∀ (xs : List D) {n m : Nat}, n ≤ m → D.olds n xs = true → D.olds m xs = true
  | [], _, _, _, _ => rfl
  | x :: xs, _, _, h, q => by
    simp only [D.olds, Bool.and_eq_true] at q ⊢; exact ⟨old_mono x h q.1, olds_mono xs h q.2⟩
end
/-- what has no reference beyond n stands while the store is cut there -/
theorem TpAt.cut {K : PySem.W.Frag} {a : Addr} {vs : List V} (n : Nat) (h : TpAt K H μ a vs) : TpAt K H (μ.cut n) a vs := ⟨h.1.cut n, h.2⟩
theorem LsAt.cut {K : PySem.W.Frag} {a : Addr} {vs : List V} (n : Nat) (h : LsAt K H μ a vs) : LsAt K H (μ.cut n) a vs := h.imp (fun q => ⟨q.1.cut n, q.2⟩) id
theorem DcAt.cut {a : Addr} {k : DK} {vs : List V} (n : Nat) (h : DcAt H μ a k vs) : DcAt H (μ.cut n) a k vs := ⟨h.1.cut n, h.2⟩
mutual
theorem Rep.cut (n : Nat) : ∀ {v : V} {d : D}, Rep Z H μ v d → d.old n = true → Rep Z H (μ.cut n) v d
  | _, _, .non, _ => .non
  | _, _, .bl b, _ => .bl b
  | _, _, .int i, _ => .int i
  | _, _, .str x, _ => .str x
  | _, _, .tup h r, q => .tup (h.cut n) (Reps.cut n r (by simpa only [D.old] using q))
  | _, _, .lst h r, q => .lst (h.cut n) (Reps.cut n r (by simpa only [D.old] using q))
  | _, _, .dct h r, q => .dct (h.cut n) (Reps.cut n r (by simpa only [D.old] using q))
  | _, _, .ref (n := m) h, q => .ref (by
    simp only [D.old, decide_eq_true_eq] at q
    show (μ.m.take n)[m]? = _
    rw [List.getElem?_take_of_lt q]; exact h)
  | _, _, .fn h, _ => .fn h
  | _, _, .clo h1 n1 n2 h2 h3 h4 h5 h6 h7, q => .clo h1 (n1.cut n) (n2.cut n) h2 h3 h4
      (fun k y m a b => by
        obtain ⟨c, p, r⟩ := h5 k y m a b
        simp only [D.old, List.all_eq_true, decide_eq_true_eq] at q
        have hm := q m (List.mem_of_getElem? b)
        exact ⟨c, p, by show m < (μ.m.take n).length; rw [List.length_take]; exact Nat.lt_min.mpr ⟨hm, r.1⟩, r.2⟩) h6 h7
theorem Reps.cut (n : Nat) : ∀ {vs : List V} {ds : List D}, Reps Z H μ vs ds → D.olds n ds = true → Reps Z H (μ.cut n) vs ds
  | _, _, .nil, _ => .nil
  | _, _, .cons h r, q => by
    simp only [D.olds, Bool.and_eq_true] at q
    exact .cons (h.cut n q.1) (Reps.cut n r q.2)
end
def Cell.old (n : Nat) : Cell → Bool
  | .lst xs => D.olds n xs
  | .dct _ xs => D.olds n xs
  | .var _ => true
/-- the things below n know of nothing above -/
def OldC (n : Nat) (st : Sto) : Prop := ∀ i c, i < n → st[i]? = some c → c.old n = true
/-- what was closed below is closed below -/
structure Pres (base : Nat) (st st' : Sto) : Prop where
  len : st.length ≤ st'.length
  old : ∀ b, b ≤ base → OldC b st → OldC b st'
theorem Pres.refl (base : Nat) (st : Sto) : Pres base st st := ⟨Nat.le_refl _, fun _ _ h => h⟩
theorem Pres.trans {base : Nat} {s1 s2 s3 : Sto} (a : Pres base s1 s2) (b : Pres base s2 s3) : Pres base s1 s3 := ⟨Nat.le_trans a.len b.len, fun c hc h => b.old c hc (a.old c hc h)⟩
theorem Pres.push {base : Nat} {st : Sto} (hb : base ≤ st.length) (c : List Cell) : Pres base st (st ++ c) := by
  refine ⟨by simp, fun b hb' h i u hi e => ?_⟩
  rw [List.getElem?_append_left (by omega)] at e
  exact h i u hi e
theorem Pres.set {base : Nat} {st : Sto} {n : Nat} {c : Cell} (h : base ≤ n ∨ ∀ b, c.old b = true) : Pres base st (st.set n c) := by
  refine ⟨by simp, fun b hb' q i u hi e => ?_⟩
  by_cases hn : n = i
  · subst hn
    by_cases hl : n < st.length
    · rw [List.getElem?_set_self hl] at e
      cases e
      rcases h with h | h
      · omega
      · exact h b
    · rw [List.getElem?_eq_none (by simpa using hl)] at e; cases e
  · rw [List.getElem?_set_ne hn] at e
    exact q i u hi e
end Y
end
section
set_option Elab.async false
set_option linter.all false
set_option maxRecDepth 100000
set_option maxHeartbeats 1000000
set_option autoImplicit false
/-! Y3: the frame's relation; readings by the semantics. -/
namespace Y
open PySem PySem.Spec PyProof.Rows L2 LamX NdefX

/-- cells and places, one of each -/
structure VU (vc : List (Nat × Addr)) (bx : List Nat) : Prop where
  inj : ∀ (m n : Nat) (a : Addr), (m, a) ∈ vc → (n, a) ∈ vc → m = n
  one : ∀ (n : Nat) (a b : Addr), (n, a) ∈ vc → (n, b) ∈ vc → a = b
  own : ∀ (n : Nat) (a : Addr), n ∈ bx → (n, a) ∉ vc
/-- the store in the heap; bx: the frame's own changeable names -/
structure StoR (Z : Lk) (bx : List Nat) (μ : Mu) (st : Sto) (H : Hp) : Prop where
  len : μ.m.length = st.length
  nd : ∀ (i j : Nat) (a : Addr), μ.m[i]? = some (some a) → μ.m[j]? = some (some a) → i = j
  cell : ∀ (n : Nat) (xs : List D), st[n]? = some (Cell.lst xs) → ∃ a vs, μ.m[n]? = some (some a) ∧ H a = some (.lst vs) ∧ Reps Z H μ vs xs
  dc : ∀ (n : Nat) (k : DK) (xs : List D), st[n]? = some (Cell.dct k xs) → ∃ a vs, μ.m[n]? = some (some a) ∧ H a = some (k.ho vs) ∧ k.len = vs.length ∧ Reps Z H μ vs xs
  var : ∀ (n : Nat) (od : Option D), st[n]? = some (Cell.var od) → μ.m[n]? = some none
  vcs : ∀ (n : Nat) (a : Addr), (n, a) ∈ μ.vc → ∃ od o, st[n]? = some (Cell.var od) ∧ H a = some (CellO a o) ∧ (∃ w, o.data = .cell w) ∧ ∀ d, od = some d → ∃ v u, o.data = .cell (some u) ∧ RelV v u ∧ Rep Z H μ v d
  own : ∀ (n : Nat), n ∈ bx → μ.m[n]? = some none ∧ ∃ od, st[n]? = some (Cell.var od)
  vu : VU μ.vc bx
  tabs : Tabs Z.tabs H
  hot : ∀ b ∈ μ.hot, (∃ vs, H b = some (.lst vs)) ∧ some b ∉ μ.m
/-- from one moment to a later one -/
structure Nx (Z : Lk) (bx : List Nat) (bs : Nat) (μ : Mu) (st : Sto) (H : Hp) (μ' : Mu) (st' : Sto) (H' : Hp) : Prop where
  ext : Ext μ H μ' H'
  pres : Pres bs st st'
  sto : StoR Z bx μ' st' H'
  vars : ∀ (n : Nat) (od : Option D), n ∉ bx → st[n]? = some (Cell.var od) → st'[n]? = some (Cell.var od)
  cells : ∀ (n : Nat) (a : Addr), (n, a) ∈ μ.vc → H' a = H a
  vce : μ'.vc = μ.vc
  hots : μ'.hot = μ.hot ∧ ∀ b ∈ μ.hot, H' b = H b
/-- the same, the frame's own changeable names as they were -/
structure NxE (Z : Lk) (bx : List Nat) (bs : Nat) (μ : Mu) (st : Sto) (H : Hp) (μ' : Mu) (st' : Sto) (H' : Hp) : Prop extends Nx Z bx bs μ st H μ' st' H' where
  owns : ∀ (n : Nat), n ∈ bx → st'[n]? = st[n]?
/-- an error -/
def RepX (Z : Lk) (H : Hp) (μ : Mu) (cls : Value) (od : Option Addr) (x : Exn) : Prop := False
/-- what follows a result -/
def tR {α β : Type} (rel : Hp → Mu → β → α → Prop) (Z : Lk) (E : XK) (bx : List Nat) (bs : Nat) (μ : Mu) (st : Sto) (H : Hp) (r : Res α) (Q : β → Hp → Prop) : Prop := match r with
  | .ok d st' => ∀ v H' μ', NxE Z bx bs μ st H μ' st' H' → rel H' μ' v d → Q v H'
  | .ex x st' => False
  | .no => False
section
variable {Z : Lk} {bx : List Nat} {bs : Nat} {μ μ1 μ2 : Mu} {st st1 st2 : Sto} {H H1 H2 : Hp}
theorem Nx.refl (h : StoR Z bx μ st H) : Nx Z bx bs μ st H μ st H := ⟨Ext.refl _ _, Pres.refl _ _, h, fun _ _ _ h => h, fun _ _ _ => rfl, rfl, rfl, fun _ _ => rfl⟩
theorem Nx.trans (a : Nx Z bx bs μ st H μ1 st1 H1) (b : Nx Z bx bs μ1 st1 H1 μ2 st2 H2) : Nx Z bx bs μ st H μ2 st2 H2 :=
  ⟨a.ext.trans b.ext, a.pres.trans b.pres, b.sto, fun n od hn h => b.vars n od hn (a.vars n od hn h), fun n c hc => (b.cells n c (a.ext.vc _ hc)).trans (a.cells n c hc), b.vce.trans a.vce, b.hots.1.trans a.hots.1, fun c hc => (b.hots.2 c (by rw [a.hots.1]; exact hc)).trans (a.hots.2 c hc)⟩
theorem NxE.refl (h : StoR Z bx μ st H) : NxE Z bx bs μ st H μ st H := ⟨Nx.refl h, fun _ _ => rfl⟩
theorem NxE.trans (a : NxE Z bx bs μ st H μ1 st1 H1) (b : NxE Z bx bs μ1 st1 H1 μ2 st2 H2) : NxE Z bx bs μ st H μ2 st2 H2 :=
  ⟨a.toNx.trans b.toNx, fun n hn => (b.owns n hn).trans (a.owns n hn)⟩
end
section
variable {α β γ δ : Type} {rel : Hp → Mu → β → α → Prop} {rel2 : Hp → Mu → δ → γ → Prop} {Z : Lk} {E : XK} {bx : List Nat} {bs : Nat} {μ μ1 : Mu} {st st1 : Sto} {H H1 : Hp}
/-- the rest, from later on -/
theorem tR_later {r : Res α} {Q : β → Hp → Prop} (n : NxE Z bx bs μ st H μ1 st1 H1) (h : tR rel Z E bx bs μ st H r Q) : tR rel Z E bx bs μ1 st1 H1 r Q := by
  cases r with
  | ok d st' => exact fun v H' μ' n' q => h v H' μ' (n.trans n') q
  | ex x st' => exact h
  | no => exact h
theorem tR_mono {r : Res α} {Q Q' : β → Hp → Prop} (h : tR rel Z E bx bs μ st H r Q) (hq : ∀ v H, Q v H → Q' v H) : tR rel Z E bx bs μ st H r Q' := by
  cases r with
  | ok d st' => exact fun v H' μ' n' q => hq _ _ (h v H' μ' n' q)
  | ex x st' => exact h
  | no => exact h
theorem tR_bind {r : Res α} {k : α → Sto → Res γ} {Q : δ → Hp → Prop} (h : tR rel2 Z E bx bs μ st H (r.bind k) Q) :
    tR rel Z E bx bs μ st H r (fun v H1 => ∃ d st1 μ1, NxE Z bx bs μ st H μ1 st1 H1 ∧ rel H1 μ1 v d ∧ tR rel2 Z E bx bs μ1 st1 H1 (k d st1) Q) := by
  cases r with
  | ok d st' => exact fun v H' μ' n q => ⟨d, st', μ', n, q, tR_later n h⟩
  | ex x st' => exact h
  | no => exact h
theorem tR_of {o : Option α} {Q : β → Hp → Prop} (s : StoR Z bx μ st H) (h : tR rel Z E bx bs μ st H (Res.of o st) Q) : ∃ d, o = some d ∧ ∀ v H' μ', NxE Z bx bs μ st H μ' st H' → rel H' μ' v d → Q v H' := by
  cases o with
  | none => exact h.elim
  | some d => exact ⟨d, rfl, h⟩
end

/-- the frame: σ the model's slots, ρ ours; BX the slots of the changeable names, CE the def's cells -/
structure Fr (Z : Lk) (N : List Str) (BX : List Nat) (CE : List (Str × Addr)) (σ : L2.St) (ρ : Env) (μ : Mu) (st : Sto) (H : Hp) : Prop where
  sto : StoR Z ρ.bx μ st H
  sl : ∀ (i : Nat) (d : D), ρ.sl[i]? = some (some d) → ∃ v, σ[i]? = some (some v) ∧ Rep Z H μ v d
  bs : ρ.bs ≤ st.length
  len : ρ.sl.length ≤ σ.length
  own : ∀ p ∈ Z.ow, p.1 ∈ ρ.bx
  box : ∀ (j n : Nat), ρ.bx[j]? = some n → ∃ i x c, BX[j]? = some i ∧ N[i]? = some x ∧ CE.lookup x = some c ∧ (n, c) ∈ Z.ow ∧ ∀ d, st[n]? = some (Cell.var (some d)) → ∃ v, σ[i]? = some (some v) ∧ Rep Z H μ v d
theorem Fr.next {Z : Lk} {N : List Str} {BX : List Nat} {CE : List (Str × Addr)} {σ : L2.St} {ρ : Env} {μ μ1 : Mu} {st st1 : Sto} {H H1 : Hp} (f : Fr Z N BX CE σ ρ μ st H) (n : NxE Z ρ.bx ρ.bs μ st H μ1 st1 H1) : Fr Z N BX CE σ ρ μ1 st1 H1 := by
  refine ⟨n.sto, fun i d h => ?_, Nat.le_trans f.bs n.pres.len, f.len, f.own, fun j m h => ?_⟩
  · obtain ⟨v, h1, h2⟩ := f.sl i d h
    exact ⟨v, h1, h2.ext n.ext⟩
  · obtain ⟨i, x, c, h1, h2, h3, h4, h5⟩ := f.box j m h
    refine ⟨i, x, c, h1, h2, h3, h4, fun d hd => ?_⟩
    rw [n.owns m (List.mem_of_getElem? h)] at hd
    obtain ⟨v, h8, h9⟩ := h5 d hd
    exact ⟨v, h8, h9.ext n.ext⟩

abbrev relD (Z : Lk) : Hp → Mu → V → D → Prop := fun H μ v d => Rep Z H μ v d
abbrev relDs (Z : Lk) : Hp → Mu → List V → List D → Prop := fun H μ v d => Reps Z H μ v d
abbrev relB : Hp → Mu → Bool → Bool → Prop := fun _ _ a b => a = b
abbrev relO : Hp → Mu → Option Int → Option Int → Prop := fun _ _ a b => a = b
def tE (Z : Lk) (N : List Str) (BX : List Nat) (CE : List (Str × Addr)) (E : XK) (sem : Env → Sto → Res D) : TE := fun σ H Q => ∃ ρ μ st, Fr Z N BX CE σ ρ μ st H ∧ tR (relD Z) Z E ρ.bx ρ.bs μ st H (sem ρ st) Q
def tT (Z : Lk) (N : List Str) (BX : List Nat) (CE : List (Str × Addr)) (E : XK) (sem : Env → Sto → Res Bool) : TT := fun σ H Q => ∃ ρ μ st, Fr Z N BX CE σ ρ μ st H ∧ tR relB Z E ρ.bx ρ.bs μ st H (sem ρ st) Q
def tAs (Z : Lk) (N : List Str) (BX : List Nat) (CE : List (Str × Addr)) (E : XK) (sem : Env → Sto → Res (List D)) : TA := fun σ H Q => ∃ ρ μ st, Fr Z N BX CE σ ρ μ st H ∧ tR (relDs Z) Z E ρ.bx ρ.bs μ st H (sem ρ st) Q
def tOi (Z : Lk) (N : List Str) (BX : List Nat) (CE : List (Str × Addr)) (E : XK) (sem : Env → Sto → Res (Option Int)) : TO := fun σ H Q => ∃ ρ μ st, Fr Z N BX CE σ ρ μ st H ∧ tR relO Z E ρ.bx ρ.bs μ st H (sem ρ st) Q
theorem _root_.L2.PE.imp {X : Cx} {e : Expr} {t t' : TE} (h : PE X e t) (i : ∀ σ H Q, t' σ H Q → t σ H Q) : PE X e t' := ⟨fun pins s σ H Q I q => h.run pins s σ H Q I (i σ H Q q)⟩
theorem _root_.L2.PT.imp {X : Cx} {e : Expr} {t t' : TT} (h : PT X e t) (i : ∀ σ H Q, t' σ H Q → t σ H Q) : PT X e t' := ⟨fun pins s σ H Q I q => h.run pins s σ H Q I (i σ H Q q)⟩
theorem _root_.L2.PA.imp {X : Cx} {e : List Expr} {t t' : TA} (h : PA X e t) (i : ∀ σ H Q, t' σ H Q → t σ H Q) : PA X e t' := ⟨fun pos pins s σ H Q I q => h.run pos pins s σ H Q I (i σ H Q q)⟩

/-! ### looking at a value -/
section
variable {Z : Lk} {bx : List Nat} {μ : Mu} {st : Sto} {H : Hp}
/-- a value after its reference is looked through -/
inductive Vw (Z : Lk) (H : Hp) (μ : Mu) : V → D → Prop
  | rep {v : V} {d : D} : Rep Z H μ v d → (∀ xs, d ≠ .lst xs) → (∀ k xs, d ≠ .dct k xs) → Vw Z H μ v d
  | dct {a : Addr} {k : DK} {vs : List V} {xs : List D} : H a = some (k.ho vs) → k.len = vs.length → Reps Z H μ vs xs → Vw Z H μ (.ref a) (.dct k xs)
  | lst {a : Addr} {vs : List V} {xs : List D} : SqL Z.K H a vs → Reps Z H μ vs xs → Vw Z H μ (.ref a) (.lst xs)
theorem vw_of (s : StoR Z bx μ st H) {v : V} {d : D} (h : Rep Z H μ v d) : Vw Z H μ v (deref st d) := by
  cases h with
  | lst h r => exact .lst h.sql r
  | dct h r => exact .dct h.2.1 h.2.2 r
  | ref h =>
    rename_i a n
    cases e : st[n]? with
    | none =>
      have e1 : deref st (.ref n) = .ref n := by simp [deref, e]
      rw [e1]; exact .rep (.ref h) (fun _ z => by cases z) (fun _ _ z => by cases z)
    | some c =>
      cases c with
      | lst xs =>
        have e1 : deref st (.ref n) = .lst xs := by simp [deref, e]
        obtain ⟨a', vs, h1, h2, h3⟩ := s.cell n xs e
        rw [h] at h1; cases h1
        rw [e1]
        exact .lst (SqL.of h2) h3
      | dct k xs =>
        have e1 : deref st (.ref n) = .dct k xs := by simp [deref, e]
        obtain ⟨a', vs, h1, h2, h3, h4⟩ := s.dc n k xs e
        rw [h] at h1; cases h1
        rw [e1]
        exact .dct h2 h3 h4
      | var od =>
        have e1 : deref st (.ref n) = .ref n := by simp [deref, e]
        rw [e1]; exact .rep (.ref h) (fun _ z => by cases z) (fun _ _ z => by cases z)
  | non => exact .rep .non (fun _ z => by cases z) (fun _ _ z => by cases z)
  | bl b => exact .rep (.bl b) (fun _ z => by cases z) (fun _ _ z => by cases z)
  | int b => exact .rep (.int b) (fun _ z => by cases z) (fun _ _ z => by cases z)
  | str b => exact .rep (.str b) (fun _ z => by cases z) (fun _ _ z => by cases z)
  | tup h r => exact .rep (.tup h r) (fun _ z => by cases z) (fun _ _ z => by cases z)
  | fn h => exact .rep (.fn h) (fun _ z => by cases z) (fun _ _ z => by cases z)
  | clo h1 h2 h3 h4 h5 h6 h7 h8 h9 => exact .rep (.clo h1 h2 h3 h4 h5 h6 h7 h8 h9) (fun _ z => by cases z) (fun _ _ z => by cases z)
theorem Vw.int {v : V} {i : Int} (h : Vw Z H μ v (.int i)) : v = .int i := by
  cases h with
  | rep h _ _ => cases h; rfl
theorem Vw.bl {v : V} {i : Bool} (h : Vw Z H μ v (.bl i)) : v = .bl i := by
  cases h with
  | rep h _ _ => cases h; rfl
theorem Vw.str {v : V} {i : Str} (h : Vw Z H μ v (.str i)) : v = .str i := by
  cases h with
  | rep h _ _ => cases h; rfl
theorem Vw.tup {v : V} {xs : List D} (h : Vw Z H μ v (.tup xs)) : ∃ a vs, v = .ref a ∧ TpAt Z.K H μ a vs ∧ Reps Z H μ vs xs := by
  cases h with
  | rep h _ _ => cases h with
    | tup h r => exact ⟨_, _, rfl, h, r⟩
theorem Vw.lst' {v : V} {xs : List D} (h : Vw Z H μ v (.lst xs)) : ∃ a vs, v = .ref a ∧ SqL Z.K H a vs ∧ Reps Z H μ vs xs := by
  cases h with
  | rep h n _ => exact absurd rfl (n xs)
  | lst h r => exact ⟨_, _, rfl, h, r⟩
theorem Vw.dct' {v : V} {k : DK} {xs : List D} (h : Vw Z H μ v (.dct k xs)) : ∃ a vs, v = .ref a ∧ H a = some (k.ho vs) ∧ k.len = vs.length ∧ Reps Z H μ vs xs := by
  cases h with
  | rep h _ n => exact absurd rfl (n k xs)
  | dct h l r => exact ⟨_, _, rfl, h, l, r⟩
mutual
theorem dp_rep : ∀ (n : Nat) {v : V} {d : D}, Rep Z H μ v d → D.plN n d = true → Dp Z.K H v d.py
  | _, _, _, .non, _ => .non
  | _, _, _, .bl b, _ => .bl b
  | _, _, _, .int i, _ => .int i
  | _, _, _, .str x, _ => .str x
  | 0, _, _, .tup h r, q => by simp [D.plN] at q
  | n + 1, _, _, .tup h r, q => by simp only [D.py]; exact .tup h.sqt (dps_reps n r (by simpa [D.plN] using q))
  | 0, _, _, .lst h r, q => by simp [D.plN] at q
  | n + 1, _, _, .lst h r, q => by simp only [D.py]; exact .lst h.sql (dps_reps n r (by simpa [D.plN] using q))
  | n, _, _, .ref h, q => by cases n <;> simp [D.plN] at q
  | n, _, _, .dct h r, q => by cases n <;> simp [D.plN] at q
  | n, _, _, .fn h, q => by cases n <;> simp [D.plN] at q
  | n, _, _, .clo h1 h2 h3 h4 h5 h6 h7 h8 h9, q => by cases n <;> simp [D.plN] at q
theorem dps_reps : ∀ (n : Nat) {vs : List V} {xs : List D}, Reps Z H μ vs xs → (∀ x ∈ xs, D.plN n x = true) → DpAll Z.K H vs (D.pys xs)
  | _, _, _, .nil, _ => .nil
  | n, _, _, .cons h r, q => by simp only [D.pys]; exact .cons (dp_rep n h (q _ (by simp))) (dps_reps n r (fun y hy => q y (by simp [hy])))
end
theorem Vw.dp {v : V} {d : D} (h : Vw Z H μ v d) (q : d.pl = true) : Dp Z.K H v d.py := by
  cases h with
  | rep h _ _ => exact dp_rep 40 h q
  | dct h l r => simp [D.pl, D.plN] at q
  | lst h r =>
    simp only [D.py]
    exact .lst h (dps_reps 39 r (by simpa [D.pl, D.plN] using q))
end

/-! ### new things -/
section
variable {Z : Lk} {bx : List Nat} {bs : Nat} {μ : Mu} {st : Sto} {H : Hp}
theorem Tabs.lay (t : Tabs Z.tabs H) {p : Addr} {o : HO} (hp : H p = none) : Tabs Z.tabs (L2.upd H p o) := t.ext fun b u h => by rw [upd_ne (ne_of_none h hp)]; exact h
theorem StoR.lay (s : StoR Z bx μ st H) {p : Addr} {o : HO} (hp : H p = none) : StoR Z bx μ st (L2.upd H p o) := by
  have e : Ext μ H μ (L2.upd H p o) := Ext.lay hp
  refine ⟨s.len, s.nd, fun n xs h => ?_, fun n k xs h => ?_, s.var, fun n a h => ?_, s.own, s.vu, Tabs.lay s.tabs hp, fun b hb => ?_⟩
  · obtain ⟨a, vs, h1, h2, h3⟩ := s.cell n xs h
    exact ⟨a, vs, h1, by rw [upd_ne (ne_of_none h2 hp)]; exact h2, h3.ext e⟩
  · obtain ⟨a, vs, h1, h2, h4, h3⟩ := s.dc n k xs h
    exact ⟨a, vs, h1, by rw [upd_ne (ne_of_none h2 hp)]; exact h2, h4, h3.ext e⟩
  · obtain ⟨od, ob, h1, h2, h4, h3⟩ := s.vcs n a h
    refine ⟨od, ob, h1, by rw [upd_ne (ne_of_none h2 hp)]; exact h2, h4, fun d hd => ?_⟩
    obtain ⟨v, u, q1, q2, q3⟩ := h3 d hd
    exact ⟨v, u, q1, q2, q3.ext e⟩
  · obtain ⟨⟨vs, h1⟩, h2⟩ := s.hot b hb
    exact ⟨⟨vs, by rw [upd_ne (ne_of_none h1 hp)]; exact h1⟩, h2⟩
theorem ne_hot (s : StoR Z bx μ st H) {p b : Addr} (hp : H p = none) (hb : b ∈ μ.hot) : b ≠ p := fun z => by
  obtain ⟨⟨vs, h1⟩, _⟩ := s.hot b hb
  rw [z, hp] at h1; cases h1
theorem ne_vc (s : StoR Z bx μ st H) {p a : Addr} {n : Nat} (hp : H p = none) (ha : (n, a) ∈ μ.vc) : a ≠ p := fun z => by
  obtain ⟨od, o, _, h2, _, _⟩ := s.vcs n a ha
  rw [z, hp] at h2; cases h2
theorem Nx.lay (s : StoR Z bx μ st H) {p : Addr} {o : HO} (hp : H p = none) : NxE Z bx bs μ st H μ st (L2.upd H p o) :=
  ⟨⟨Ext.lay hp, Pres.refl _ _, s.lay hp, fun _ _ _ h => h, fun n a ha => upd_ne (ne_vc s hp ha), rfl, rfl, fun b hb => upd_ne (ne_hot s hp hb)⟩, fun _ _ => rfl⟩
/-- a new address stands apart -/
theorem StoR.fresh (s : StoR Z bx μ st H) {p : Addr} (hp : H p = none) : μ.no p := by
  refine ⟨fun h => ?_, fun h => ne_hot s hp h rfl⟩
  obtain ⟨n, hn⟩ := List.mem_iff_getElem?.mp h
  have hl : n < st.length := by rw [← s.len]; exact (List.getElem?_eq_some_iff.mp hn).1
  have e : st[n]? = some st[n] := List.getElem?_eq_getElem hl
  cases q : st[n] with
  | lst xs =>
    rw [q] at e
    obtain ⟨a, vs, h1, h2, _⟩ := s.cell n xs e
    rw [hn] at h1; cases h1
    rw [hp] at h2; cases h2
  | dct k xs =>
    rw [q] at e
    obtain ⟨a, vs, h1, h2, _⟩ := s.dc n k xs e
    rw [hn] at h1; cases h1
    rw [hp] at h2; cases h2
  | var od =>
    rw [q] at e
    have := s.var n od e
    rw [hn] at this; cases this
theorem TpAt.new {K : PySem.W.Frag} {p : Addr} {vs : List V} (s : StoR Z bx μ st H) (hp : H p = none) : TpAt K (L2.upd H p (.tup vs)) μ p vs := ⟨s.fresh hp, upd_same⟩
theorem LsAt.new {K : PySem.W.Frag} {p : Addr} {vs : List V} (s : StoR Z bx μ st H) (hp : H p = none) : LsAt K (L2.upd H p (.lst vs)) μ p vs := .inl ⟨s.fresh hp, .inl upd_same⟩
end
end Y
end
section
set_option Elab.async false
set_option linter.all false
set_option maxRecDepth 100000
set_option maxHeartbeats 1000000
set_option autoImplicit false
/-! Y4: operations by values. -/
namespace Y
open PySem PySem.Spec PyProof.Rows L2 LamX NdefX

section
variable {X : Cx}
/-- list + list, whoever holds them -/
def rCatS (K : PySem.W.Frag) : R2 := fun x y H Q => ∃ l b xs zs, x = .ref l ∧ y = .ref b ∧ SqL K H l xs ∧ SqL K H b zs ∧ xs.length + zs.length ≤ sizeLine ∧ ∀ p, H p = none → Q (.ref p) (upd H p (.lst (xs ++ zs)))
theorem op_catS : OpR X (binaryOp .Add) (rCatS X.K) := by
  intro pins s σ H x y v u Q I rx ry h
  obtain ⟨l, b, xs, zs, rfl, rfl, hx, hz, hl, q⟩ := h
  cases rx
  cases ry
  obtain ⟨its, r, p1, _⟩ := I.list hx
  obtain ⟨its2, r2, p2, _⟩ := I.list hz
  have l1 := r.length
  have l2 := r2.length
  obtain ⟨⟨cls, dd, data, sl⟩, n, ho, hc, _, hd⟩ := p1
  obtain ⟨⟨cls2, dd2, data2, sl2⟩, n2, ho2, hc2, _, hd2⟩ := p2
  simp only at hc hd hc2 hd2
  subst hc hd hc2 hd2
  have ea : its.toArray ++ its2.toArray = (its ++ its2).toArray := by simp
  refine concat_meets ⟨_, ho, rfl⟩ ⟨_, ho2, rfl⟩ noFill_list_add seq_list_add PySem.F.slot_list_add PySem.F.entry_list_add (PySem.F.args_list_add_2 _ _) (list_addW l b its.toArray its2.toArray n n2 dd dd2 sl sl2 (by simp; omega)) ⟨ho, ho2, ?_⟩
  rw [ea]
  exact ⟨.ref _, _, I.lnew (t' := s.toks) (r.append r2) (by rw [List.length_append]; omega), rfl, q _ I.fresh⟩
end

/-! ### results of pure operations -/
section
variable {Z : Lk} {E : XK} {bx : List Nat} {bs : Nat} {μ : Mu} {st : Sto} {H : Hp}
theorem of_ok {d : D} {Q : VK} (h : tR (relD Z) Z E bx bs μ st H (Res.of (some d) st) Q) (s : StoR Z bx μ st H) {v : V} (r : Rep Z H μ v d) : Q v H := h v H μ (NxE.refl s) r
theorem of_lay {d : D} {Q : VK} (h : tR (relD Z) Z E bx bs μ st H (Res.of (some d) st) Q) (s : StoR Z bx μ st H) {p : Addr} {o : HO} (hp : H p = none) {v : V} (r : Rep Z (L2.upd H p o) μ v d) : Q v (L2.upd H p o) := h v _ μ (Nx.lay s hp) r
theorem rep_tup {p : Addr} {vs : List V} {xs : List D} (s : StoR Z bx μ st H) (hp : H p = none) (r : Reps Z H μ vs xs) : Rep Z (L2.upd H p (.tup vs)) μ (.ref p) (.tup xs) := .tup (TpAt.new s hp) (Reps.ext (Ext.lay hp) r)
theorem rep_lst {p : Addr} {vs : List V} {xs : List D} (s : StoR Z bx μ st H) (hp : H p = none) (r : Reps Z H μ vs xs) : Rep Z (L2.upd H p (.lst vs)) μ (.ref p) (.lst xs) := .lst (LsAt.new s hp) (Reps.ext (Ext.lay hp) r)
end

def opB : BOp → Operator
  | .add => .Add | .sub => .Sub | .mul => .Mult | .fdiv => .FloorDiv | .mod => .Mod | .pow => .Pow
def rB (K : PySem.W.Frag) : BOp → R2
  | .add => fun x y H Q => (((rI0 fun i j => .int (i + j)) x y H Q ∨ rCatA K x y H Q) ∨ rCatS K x y H Q) ∨ (∃ i j, x = .str i ∧ y = .str j ∧ i.length + j.length ≤ sizeLine ∧ Q (.str (i ++ j)) H)
  | .sub => rI0 fun i j => .int (i - j)
  | .mul => fun x y H Q => rI CMul (fun i j => .int (i * j)) x y H Q ∨ rI CMulW (fun i j => .int (i * j)) x y H Q
  | .fdiv => rI CDiv fun i j => .int (i / j)
  | .mod => rI (fun _ j => 0 < j) fun i j => .int (i % j)
  | .pow => rI CPow fun i j => .int (i ^ j.toNat)
theorem op_B {X : Cx} : ∀ o : BOp, OpR X (binaryOp (opB o)) (rB X.K o)
  | .add => ((op_add.or op_catA).or op_catS).or op_add_str
  | .sub => op_sub
  | .mul => op_mul.or op_mulW
  | .fdiv => op_fdiv
  | .mod => op_mod
  | .pow => op_pow
theorem line_le {n : Nat} (h : line n = true) : n ≤ sizeLine := of_decide_eq_true h
theorem pow400 {n : Nat} (h : n < 2 ^ 400000) : n.log2 < 400000 := PySem.Flt.log2_lt_of (by decide) h
section
variable {Z : Lk} {E : XK} {bx : List Nat} {bs : Nat} {μ : Mu} {st : Sto} {H : Hp}
theorem bin_ok {o : BOp} {x y : V} {a b : D} {Q : VK} (s : StoR Z bx μ st H) (ha : Vw Z H μ x a) (hb : Vw Z H μ y b)
    (h : tR (relD Z) Z E bx bs μ st H (Res.of (binD o a b) st) Q) : rB Z.K o x y H Q := by
  cases e : binD o a b with
  | none => rw [e] at h; exact h.elim
  | some d =>
    rw [e] at h
    unfold binD at e
    split at e
    · cases e
      rw [ha.int, hb.int]
      exact .inl (.inl (.inl ⟨_, _, rfl, rfl, of_ok h s (.int _)⟩))
    · split at e
      · rename_i hl
        cases e
        obtain ⟨p, vs, rfl, h1, r1⟩ := ha.tup
        obtain ⟨q, ws, rfl, h2, r2⟩ := hb.tup
        refine .inl (.inl (.inr ⟨p, q, vs, ws, rfl, rfl, h1.sqt, h2.sqt, ?_, fun e1 => ?_, fun e1 e2 => ?_, fun _ _ u hu => ?_⟩))
        · rw [r1.length, r2.length]; exact line_le hl
        · subst e1; cases r1; exact of_ok h s (.tup h2 (by simpa using r2))
        · subst e2; cases r2; exact of_ok h s (.tup h1 (by simpa using r1))
        · exact of_lay h s hu (rep_tup s hu (r1.append r2))
      · cases e
    · split at e
      · rename_i hl
        cases e
        obtain ⟨p, vs, rfl, h1, r1⟩ := ha.lst'
        obtain ⟨q, ws, rfl, h2, r2⟩ := hb.lst'
        refine .inl (.inr ⟨p, q, vs, ws, rfl, rfl, h1, h2, ?_, fun u hu => ?_⟩)
        · rw [r1.length, r2.length]; exact line_le hl
        · exact of_lay h s hu (rep_lst s hu (r1.append r2))
      · cases e
    · split at e
      · rename_i hl
        cases e
        rw [ha.str, hb.str]
        exact .inr ⟨_, _, rfl, rfl, line_le hl, of_ok h s (.str _)⟩
      · cases e
    · cases e
      rw [ha.int, hb.int]
      exact ⟨_, _, rfl, rfl, of_ok h s (.int _)⟩
    · split at e
      · rename_i hl
        cases e
        rw [ha.int, hb.int]
        simp only [Bool.or_eq_true, Bool.and_eq_true, i64, decide_eq_true_eq] at hl
        rcases hl with (hl | hl) | hl
        · exact .inl ⟨_, _, rfl, rfl, .inl hl, of_ok h s (.int _)⟩
        · exact .inl ⟨_, _, rfl, rfl, .inr hl, of_ok h s (.int _)⟩
        · refine .inr ⟨_, _, rfl, rfl, ?_, of_ok h s (.int _)⟩
          have h1 := pow400 hl.1
          have h2 := pow400 hl.2
          unfold CMulW
          omega
      · cases e
    · split at e
      · rename_i hl
        cases e
        rw [ha.int, hb.int]
        simp only [Bool.and_eq_true, decide_eq_true_eq] at hl
        exact ⟨_, _, rfl, rfl, hl, of_ok h s (.int _)⟩
      · cases e
    · split at e
      · rename_i hl
        cases e
        rw [ha.int, hb.int]
        exact ⟨_, _, rfl, rfl, of_decide_eq_true hl, of_ok h s (.int _)⟩
      · cases e
    · split at e
      · rename_i hl
        cases e
        rw [ha.int, hb.int]
        simp only [Bool.and_eq_true, decide_eq_true_eq] at hl
        exact ⟨_, _, rfl, rfl, ⟨hl.1.1, hl.1.2, hl.2⟩, of_ok h s (.int _)⟩
      · cases e
    · cases e
end

/-! ### comparisons -/
/-- == and != of plain data, however they are held -/
def rEqY (K : PySem.W.Frag) (neg : Bool) : R2 := fun x y H Q => ∃ d e, Dp K H x d ∧ Dp K H y e ∧ d.plain = true ∧ e.plain = true ∧ d.depth ≤ 60 ∧ Q (.bl (if neg then !PyData.eqv d e else PyData.eqv d e)) H
theorem op_eqY {X : Cx} (hu : X.A.units + 64 < cLine) : OpR X (compareOp .Eq) (rEqY X.K false) := by
  intro pins s σ H x y v u Q I rx ry h
  obtain ⟨d, e, hd, he, sd, se, hz, q⟩ := h
  obtain ⟨as, r1⟩ := Dp.reads I d x v hd rx
  obtain ⟨bs, r2⟩ := Dp.reads I e y u he ry
  exact SeqAt.eq_plain r1 r2 sd se (by have : min d.depth e.depth ≤ d.depth := Nat.min_le_left _ _; omega) ⟨.bl _, H, I, rfl, q⟩
theorem op_neY {X : Cx} (hu : X.A.units + 64 < cLine) : OpR X (compareOp .NotEq) (rEqY X.K true) := by
  intro pins s σ H x y v u Q I rx ry h
  obtain ⟨d, e, hd, he, sd, se, hz, q⟩ := h
  obtain ⟨as, r1⟩ := Dp.reads I d x v hd rx
  obtain ⟨bs, r2⟩ := Dp.reads I e y u he ry
  exact SeqAt.ne_plain r1 r2 sd se (by have : min d.depth e.depth ≤ d.depth := Nat.min_le_left _ _; omega) ⟨.bl _, H, I, rfl, q⟩
def rInY (K : PySem.W.Frag) (neg : Bool) : R2 := fun x y H Q => ∃ d es, ∃ tp : Bool, Dp K H x d ∧ Dp K H y (if tp then .tuple es else .list es) ∧ d.plain = true ∧ PyData.plainAll es = true ∧ d.depth ≤ 60 ∧
  Q (.bl (if neg then !(es.any fun z => PyData.eqv z d) else es.any fun z => PyData.eqv z d)) H
theorem op_inY {X : Cx} (hu : X.A.units + 64 < cLine) : OpR X (compareOp .In) (rInY X.K false) := by
  intro pins s σ H x y v u Q I rx ry h
  obtain ⟨d, es, tp, hd, he, sd, se, hz, q⟩ := h
  obtain ⟨as, r1⟩ := Dp.reads I d x v hd rx
  have hm : X.A.units + 1 + min (PyData.depthAll es) d.depth < cLine := by have : min (PyData.depthAll es) d.depth ≤ d.depth := Nat.min_le_right _ _; omega
  cases tp with
  | true =>
    obtain ⟨bs, r2⟩ := Dp.reads I _ y u he ry
    exact SeqAt.in_tuple_data r2 r1 se sd hm ⟨.bl _, H, I, rfl, q⟩
  | false =>
    obtain ⟨bs, r2⟩ := Dp.reads I _ y u he ry
    exact SeqAt.in_list_data r2 r1 se sd hm ⟨.bl _, H, I, rfl, q⟩
theorem op_notInY {X : Cx} (hu : X.A.units + 64 < cLine) : OpR X (compareOp .NotIn) (rInY X.K true) := by
  intro pins s σ H x y v u Q I rx ry h
  obtain ⟨d, es, tp, hd, he, sd, se, hz, q⟩ := h
  obtain ⟨as, r1⟩ := Dp.reads I d x v hd rx
  have hm : X.A.units + 1 + min (PyData.depthAll es) d.depth < cLine := by have : min (PyData.depthAll es) d.depth ≤ d.depth := Nat.min_le_right _ _; omega
  cases tp with
  | true =>
    obtain ⟨bs, r2⟩ := Dp.reads I _ y u he ry
    exact SeqAt.notIn_tuple_data r2 r1 se sd hm ⟨.bl _, H, I, rfl, q⟩
  | false =>
    obtain ⟨bs, r2⟩ := Dp.reads I _ y u he ry
    exact SeqAt.notIn_list_data r2 r1 se sd hm ⟨.bl _, H, I, rfl, q⟩
/-- k in d, k not in d -/
def rInD (neg : Bool) : R2 := fun x y H Q => ∃ a o, y = .ref a ∧ DGet H a x o ∧ Q (.bl (if neg then o.isNone else o.isSome)) H
theorem op_inD {X : Cx} (hu : X.A.units + 64 < cLine) : OpR X (compareOp .In) (rInD false) := by
  intro pins s σ H x y v u Q I rx ry h
  obtain ⟨a, o, rfl, g, q⟩ := h
  cases (show u = Value.ref a from ry)
  exact d_in (by omega) I g rx fun s' I' => ⟨.bl _, H, I', rfl, q⟩
theorem op_notInD {X : Cx} (hu : X.A.units + 64 < cLine) : OpR X (compareOp .NotIn) (rInD true) := by
  intro pins s σ H x y v u Q I rx ry h
  obtain ⟨a, o, rfl, g, q⟩ := h
  cases (show u = Value.ref a from ry)
  exact d_notIn (by omega) I g rx fun s' I' => ⟨.bl _, H, I', rfl, by cases o <;> exact q⟩
/-- is, is not, of two truths -/
def rIsB (neg : Bool) : R2 := fun x y H Q => ∃ a b, x = .bl a ∧ y = .bl b ∧ Q (.bl (if neg then !decide (a = b) else decide (a = b))) H
theorem op_isB {X : Cx} : OpR X (compareOp .Is) (rIsB false) := by
  intro pins s σ H x y v u Q I rx ry h
  obtain ⟨a, b, rfl, rfl, q⟩ := h
  cases rx; cases ry
  show wpAny _ _ ((isSame (Value.bool a) (Value.bool b)) >>= fun z => pure (Value.bool z)) _ _ s
  refine wpAny_bind (wpAny_isSame_plain rfl (wpAny_pure ⟨.bl (decide (a = b)), H, I, ?_, q⟩))
  cases a <;> cases b <;> rfl
theorem op_notB {X : Cx} : OpR X (compareOp .IsNot) (rIsB true) := by
  intro pins s σ H x y v u Q I rx ry h
  obtain ⟨a, b, rfl, rfl, q⟩ := h
  cases rx; cases ry
  show wpAny _ _ ((isSame (Value.bool a) (Value.bool b)) >>= fun z => pure (Value.bool (!z))) _ _ s
  refine wpAny_bind (wpAny_isSame_plain rfl (wpAny_pure ⟨.bl (!decide (a = b)), H, I, ?_, q⟩))
  cases a <;> cases b <;> rfl
def opC : COp → CmpOp
  | .eq => .Eq | .ne => .NotEq | .lt => .Lt | .le => .LtE | .gt => .Gt | .ge => .GtE | .is => .Is | .isnot => .IsNot | .inn => .In | .notin => .NotIn
def rC (K : PySem.W.Frag) : COp → R2
  | .eq => rEqY K false
  | .ne => rEqY K true
  | .lt => fun x y H Q => rI0 (fun i j => .bl (decide (i < j))) x y H Q ∨ rLtT K x y H Q
  | .le => rI0 fun i j => .bl (decide (i ≤ j))
  | .gt => rI0 fun i j => .bl (decide (j < i))
  | .ge => rI0 fun i j => .bl (decide (j ≤ i))
  | .is => fun x y H Q => (y = .non ∧ Q (.bl (decide (x = .non))) H) ∨ rIsB false x y H Q
  | .isnot => fun x y H Q => (y = .non ∧ Q (.bl (!decide (x = .non))) H) ∨ rIsB true x y H Q
  | .inn => fun x y H Q => rInY K false x y H Q ∨ rInD false x y H Q
  | .notin => fun x y H Q => rInY K true x y H Q ∨ rInD true x y H Q
theorem op_C {X : Cx} (hu : X.A.units + 64 < cLine) : ∀ o : COp, OpR X (compareOp (opC o)) (rC X.K o)
  | .eq => op_eqY hu
  | .ne => op_neY hu
  | .lt => op_lt.or (op_ltT (by omega))
  | .le => op_le
  | .gt => op_gt
  | .ge => op_ge
  | .is => op_isN.or op_isB
  | .isnot => op_notN.or op_notB
  | .inn => (op_inY hu).or (op_inD hu)
  | .notin => (op_notInY hu).or (op_notInD hu)
theorem any_py (x : D) (n m : Nat) (hx : D.plN n x = true) : ∀ xs : List D, (∀ y ∈ xs, D.plN m y = true) → ((D.pys xs).any fun z => PyData.eqv z x.py) = inD x xs
  | [], _ => rfl
  | y :: ys, h => by
    have ih := any_py x n m hx ys (fun z hz => h z (by simp [hz]))
    simp only [D.pys, List.any_cons, ih, inD]
    rw [eq_py y x m n (h y (by simp)) hx]
section
variable {Z : Lk} {E : XK} {bx : List Nat} {bs : Nat} {μ : Mu} {st : Sto} {H : Hp}
/-! ### what a dict holds -/
theorem ints_V : ∀ {vs : List V} {xs : List D} {w : List Int}, Reps Z H μ vs xs → ints? xs = some w → vs = (w.map Sum.inl).map kV
  | _, _, _, .nil, h => by simp [ints?] at h; subst h; rfl
  | _, _, w, .cons (d := .int i) q r, h => by
    simp only [ints?, Option.map_eq_some_iff] at h
    obtain ⟨w', h1, rfl⟩ := h
    cases q
    rw [ints_V r h1]; rfl
  | _, _, _, .cons (d := .non) _ _, h => by simp [ints?] at h
  | _, _, _, .cons (d := .bl _) _ _, h => by simp [ints?] at h
  | _, _, _, .cons (d := .str _) _ _, h => by simp [ints?] at h
  | _, _, _, .cons (d := .tup _) _ _, h => by simp [ints?] at h
  | _, _, _, .cons (d := .lst _) _ _, h => by simp [ints?] at h
  | _, _, _, .cons (d := .ref _) _ _, h => by simp [ints?] at h
  | _, _, _, .cons (d := .fn _) _ _, h => by simp [ints?] at h
  | _, _, _, .cons (d := .clo _ _) _ _, h => by simp [ints?] at h
  | _, _, _, .cons (d := .dct _ _) _ _, h => by simp [ints?] at h
/-- what is found, and what the heap has -/
def LkR (Z : Lk) (H : Hp) (μ : Mu) (o : Option D) (r : Option V) : Prop := match o with
  | some d => ∃ v, r = some v ∧ Rep Z H μ v d
  | none => r = none
theorem findK_rel {α κ : Type} [DecidableEq α] [DecidableEq κ] (f : α → κ) (hf : ∀ a b, f a = f b → a = b) (k : α) : ∀ {ks : List α} {vs : List V} {xs : List D}, Reps Z H μ vs xs → ks.length = vs.length → LkR Z H μ (findK k ks xs) (valV ((ks.map f).zip vs) (f k))
  | [], _, _, .nil, _ => by simp [findK, valV, LkR]
  | [], _, _, .cons _ _, h => by simp at h
  | _ :: _, _, _, .nil, h => by simp at h
  | a :: ks, _, _, .cons (v := v) q r, h => by
    have ih := findK_rel f hf k (ks := ks) r (by simpa using h)
    simp only [findK, List.map_cons, List.zip_cons_cons]
    by_cases e : a = k
    · rw [if_pos e]
      exact ⟨v, valV_pos (by show f a = f k; rw [e]), q⟩
    · rw [if_neg e, valV_neg (by show ¬ f a = f k; exact fun z => e (hf _ _ z))]
      exact ih
theorem inl_inj (a b : List Int) (h : a.map (Sum.inl : Int → Key) = b.map Sum.inl) : a = b := by
  induction a generalizing b with
  | nil => cases b with
    | nil => rfl
    | cons _ _ => simp at h
  | cons x a ih => cases b with
    | nil => simp at h
    | cons y b =>
      simp only [List.map_cons, List.cons.injEq, Sum.inl.injEq] at h
      rw [h.1, ih b h.2]
/-- Y's look-up is the heap's -/
theorem dget_of {a : Addr} {k : DK} {vs : List V} {xs : List D} {y : V} {d : D} {o : Option D} (ha : H a = some (k.ho vs)) (hl : k.len = vs.length) (r : Reps Z H μ vs xs) (hy : Vw Z H μ y d) (e : k.get xs d = some o) :
    ∃ r, DGet H a y r ∧ LkR Z H μ o r := by
  match k, d, e with
  | .rw ks, .tup w, e =>
    obtain ⟨ns, h1, rfl⟩ := Option.map_eq_some_iff.mp e
    obtain ⟨b, ws, rfl, hb, rw⟩ := hy.tup
    have ew := ints_V rw h1
    exact ⟨_, DGet.t (k := ns.map Sum.inl) ha (by rw [hb.2, ew]), findK_rel (fun w : List Int => w.map (Sum.inl : Int → Key)) inl_inj ns r hl⟩
  | .iw ks, .int i, e =>
    cases e
    rw [hy.int]
    exact ⟨_, DGet.k (k := Sum.inl i) ha, findK_rel (fun i : Int => (Sum.inl i : Key)) (fun _ _ z => by cases z; rfl) i r hl⟩
theorem Vw.isNone {x : V} {a : D} (h : Vw Z H μ x a) : decide (x = .non) = isNone a := by
  cases h with
  | rep h _ _ => cases h <;> rfl
  | dct _ _ _ => rfl
  | lst _ _ => rfl
theorem Vw.non {x : V} (h : Vw Z H μ x .non) : x = .non := by
  cases h with
  | rep h _ _ => cases h; rfl
theorem Vw.items {y : V} {b : D} {xs : List D} (h : Vw Z H μ y b) (e : litems b = some xs) (hp : ∀ x ∈ xs, D.plN 39 x = true) : ∃ tp : Bool, Dp Z.K H y (if tp then .tuple (D.pys xs) else .list (D.pys xs)) := by
  unfold litems at e
  split at e
  · cases e
    obtain ⟨a, vs, rfl, h1, r⟩ := h.lst'
    exact ⟨false, .lst h1 (dps_reps 39 r hp)⟩
  · cases e
    obtain ⟨a, vs, rfl, h1, r⟩ := h.tup
    exact ⟨true, .tup h1.sqt (dps_reps 39 r hp)⟩
  · cases e
/-- a comparison's own rule: the answer is a truth -/
theorem cmp_ok {o : COp} {x y : V} {a b : D} {Q : VK} (ha : Vw Z H μ x a) (hb : Vw Z H μ y b) {k : Bool} (e : cmpD o a b = some k) (h : Q (.bl k) H) : rC Z.K o x y H Q := by
  unfold cmpD at e
  split at e
  · split at e
    · rename_i hl
      cases e
      simp only [Bool.and_eq_true] at hl
      have p1 := py_plain a 40 hl.1
      have p2 := py_plain b 40 hl.2
      refine ⟨_, _, ha.dp hl.1, hb.dp hl.2, p1.1, p2.1, by omega, ?_⟩
      rw [eq_py a b 40 40 hl.1 hl.2]; exact h
    · cases e
  · split at e
    · rename_i hl
      cases e
      simp only [Bool.and_eq_true] at hl
      have p1 := py_plain a 40 hl.1
      have p2 := py_plain b 40 hl.2
      refine ⟨_, _, ha.dp hl.1, hb.dp hl.2, p1.1, p2.1, by omega, ?_⟩
      rw [eq_py a b 40 40 hl.1 hl.2]; exact h
    · cases e
  · cases e; rw [ha.int, hb.int]; exact .inl ⟨_, _, rfl, rfl, h⟩
  · cases e; rw [ha.int, hb.int]; exact ⟨_, _, rfl, rfl, h⟩
  · cases e; rw [ha.int, hb.int]; exact ⟨_, _, rfl, rfl, h⟩
  · cases e; rw [ha.int, hb.int]; exact ⟨_, _, rfl, rfl, h⟩
  · cases e; exact .inl ⟨hb.non, by rw [ha.isNone]; exact h⟩
  · cases e; exact .inl ⟨hb.non, by rw [ha.isNone]; exact h⟩
  · cases e; rw [ha.bl, hb.bl]; exact .inr ⟨_, _, rfl, rfl, h⟩
  · cases e; rw [ha.bl, hb.bl]; exact .inr ⟨_, _, rfl, rfl, h⟩
  · split at e
    · rename_i e1 e2
      cases e
      obtain ⟨a', vs, rfl, h1, r1⟩ := ha.tup
      obtain ⟨b', ws, rfl, h2, r2⟩ := hb.tup
      have f1 := ints_V r1 e1
      have f2 := ints_V r2 e2
      rename_i x y
      have g1 : vs = x.map V.int := by rw [f1, List.map_map]; exact List.map_congr_left fun _ _ => rfl
      have g2 : ws = y.map V.int := by rw [f2, List.map_map]; exact List.map_congr_left fun _ _ => rfl
      subst g1 g2
      exact .inr ⟨_, _, _, _, rfl, rfl, h1.sqt, h2.sqt, h⟩
    · cases e
  · rename_i kk xs
    obtain ⟨o, h1, rfl⟩ := Option.map_eq_some_iff.mp e
    obtain ⟨p, vs, rfl, h2, h3, h4⟩ := hb.dct'
    obtain ⟨q, g, m⟩ := dget_of h2 h3 h4 ha h1
    refine .inr ⟨p, q, rfl, g, ?_⟩
    cases o with
    | some _ => obtain ⟨_, rfl, _⟩ := m; exact h
    | none => subst m; exact h
  · rename_i kk xs
    obtain ⟨o, h1, rfl⟩ := Option.map_eq_some_iff.mp e
    obtain ⟨p, vs, rfl, h2, h3, h4⟩ := hb.dct'
    obtain ⟨q, g, m⟩ := dget_of h2 h3 h4 ha h1
    refine .inr ⟨p, q, rfl, g, ?_⟩
    cases o with
    | some _ => obtain ⟨_, rfl, _⟩ := m; exact h
    | none => subst m; exact h
  · split at e
    · rename_i xs hi
      split at e
      · rename_i hl
        cases e
        simp only [Bool.and_eq_true, List.all_eq_true] at hl
        obtain ⟨tp, hd⟩ := hb.items hi hl.2
        have p1 := py_plain a 40 hl.1
        have p2 := pys_plain xs 39 hl.2
        refine .inl ⟨_, _, tp, ha.dp hl.1, hd, p1.1, p2.1, by omega, ?_⟩
        rw [any_py a 40 39 hl.1 xs hl.2]; exact h
      · cases e
    · cases e
  · split at e
    · rename_i xs hi
      split at e
      · rename_i hl
        cases e
        simp only [Bool.and_eq_true, List.all_eq_true] at hl
        obtain ⟨tp, hd⟩ := hb.items hi hl.2
        have p1 := py_plain a 40 hl.1
        have p2 := pys_plain xs 39 hl.2
        refine .inl ⟨_, _, tp, ha.dp hl.1, hd, p1.1, p2.1, by omega, ?_⟩
        rw [any_py a 40 39 hl.1 xs hl.2]; exact h
      · cases e
    · cases e
  · cases e
/-! ### truth -/
theorem Vw.tru {x : V} {a : D} {k : Bool} (h : Vw Z H μ x a) (e : truD a = some k) : TruV Z.K x H k := by
  unfold truD at e
  split at e
  · cases e; rw [h.bl]; rfl
  · cases e; rw [h.non]; rfl
  · cases e; rw [h.int]; rfl
  · cases e
    obtain ⟨a, vs, rfl, h1, r⟩ := h.lst'
    refine .inl ⟨vs, h1, ?_⟩
    have := r.length
    cases vs <;> cases r <;> rfl
  · cases e
    obtain ⟨a, vs, rfl, h1, r⟩ := h.tup
    refine .inr (.inl ⟨vs, h1.sqt, ?_⟩)
    cases vs <;> cases r <;> rfl
  · split at e
    · rename_i hl
      cases e; rw [h.str]
      exact ⟨line_le hl, rfl⟩
    · cases e
  · cases e
end
end Y
end
section
set_option Elab.async false
set_option linter.all false
set_option maxRecDepth 100000
set_option maxHeartbeats 1000000
set_option autoImplicit false
/-! Y5: own syntax beside the text; expressions. -/
namespace Y
open PySem PySem.Spec PyProof.Rows L2 LamX NdefX

structure LmC where
  ps : List Str
  fr : List Str
  N : List Str
/-- what is known of the whole program -/
structure CfG where
  P : Prog
  gf : List (Str × Nat)
  gd : List (Str × D)
  fps : List (List Str)
  sigs : List (Nat × Nat × List Str)
  lmc : List LmC
/-- what is known of a block when its text is looked at -/
structure Cf where
  g : CfG
  N : List Str
  sc : Scope
  BX : List Nat
  tg : Str → Bool
  /-- the def's own block -/
  top : Bool
  lam : Bool
/-- the block of a lambda -/
def Cf.inL (g : CfG) (lm : LmC) (scope : Scope) : Cf := ⟨g, lm.N, scope, List.range' lm.ps.length lm.fr.length, fun _ => false, true, false⟩
def simpleP (ps : List Str) : Arguments → Bool
  | ⟨[], args, none, [], [], none, []⟩ => decide (args.map (·.arg) = ps)
  | _ => false
def lamB (lm : LmC) (lmd : Lm) (params : Arguments) (sc scope : Scope) : Bool :=
  simpleP lm.ps params && nscB lm.N lm.ps lm.fr scope && decide (lmd.np = lm.ps.length) && decide (lmd.ns = lm.N.length) &&
    scope.names.all fun y => !decide (y.2 = .free) || decide (sc.names.lookup y.1 = some .cell) || decide (sc.names.lookup y.1 = some .free)

def nmOk (x : Str) : Bool := !(x == ("__debug__" : Str)) && !(x == ("__classdict__" : Str)) && !(x == ("__name__" : Str))
def visB (sc : Scope) (x : Str) : Bool := match sc.names.lookup x with
  | some .local => true | some .cell => true | some .free => true
  | _ => false
def glB (sc : Scope) (x : Str) : Bool := decide (sc.names.lookup x = some .globalImplicit)
def litB : D → Const → Bool
  | .non, .none => true
  | .bl b, .bool c => b == c
  | .int i, .int j => decide (i = j)
  | .str x, .str y => x == y
  | _, _ => false
def okHead : Expr → Bool
  | .Set .. => false | .Slice .. => false | .Starred .. => false
  | _ => true
def biN : Bi → Str
  | .len => "len" | .int => "int" | .abs => "abs" | .tuple => "tuple" | .list => "list" | .sum => "sum" | .max => "max" | .min => "min" | .all => "all" | .any => "any" | .str => "str" | .repr => "repr" | .sorted => "sorted" | .divmod => "divmod" | .max2 => "max" | .min2 => "min" | .listrange => "list"
def biV : Bi → Value
  | .len => .builtin "len" | .int => .type "int" | .abs => .builtin "abs" | .tuple => .type "tuple" | .list => .type "list" | .sum => .builtin "sum" | .max => .builtin "max" | .min => .builtin "min" | .all => .builtin "all" | .any => .builtin "any" | .str => .type "str" | .repr => .builtin "repr" | .sorted => .builtin "sorted" | .divmod => .builtin "divmod" | .max2 => .builtin "max" | .min2 => .builtin "min" | .listrange => .type "list"
def bltNames : List Str := ["len", "int", "abs", "tuple", "list", "sum", "max", "min", "all", "any", "str", "repr", "sorted", "divmod", "range", "enumerate", "zip", "isinstance", "bool", "dict"]
def tyN : Ty → Str
  | .int => "int" | .bool => "bool" | .str => "str" | .tuple => "tuple" | .list => "list"
def permOf (ps : List Str) (n : Nat) (ks : List Str) : Option (List Nat) := if ks = [] then none else some ((List.range ps.length).map fun i => if i < n then i else n + ks.idxOf (ps.getD i ""))
def keysOf : List Keyword → Option (List Str)
  | [] => some []
  | ⟨some n, _, _⟩ :: r => (keysOf r).map (n :: ·)
  | ⟨none, _, _⟩ :: _ => none
def ownP (N : List Str) (own : List Nat) : List (Str × Nat) := own.map fun i => (N.getD i "", i)
def Cf.blk (c : Cf) (scope : Scope) : Cf := { c with sc := relS scope c.sc, tg := fun x => scope.names.lookup x == some .cell, top := false, lam := false }
def tgB (c : Cf) (i : Nat) (x : Str) : Bool := decide (c.N[i]? = some x) && !c.BX.contains i && (match c.sc.names.lookup x with
  | some .local => true
  | some .cell => c.tg x
  | _ => false)
/-- which of them are told -/
def biOk : Bi → Bool
  | .str => false | .listrange => false
  | _ => true
def okBase : Expr → Bool
  | .Call .. => false
  | _ => true
def chkIt (own : List Nat) (p : Pt) : Bool := p.ixs.all fun i => own.contains i
def chkJs (c : Cf) : List Nat → List Str → Bool
  | [], [] => true
  | j :: js, y :: ys => (match c.BX[j]? with
    | some i => decide (c.N[i]? = some y)
    | none => false) && chkJs c js ys
  | _, _ => false
/-- what is stored into: a name, a tuple, else -/
inductive TK where
  | nm | tp | ot
def isTup : Expr → TK
  | .Tuple .. => .tp
  | .Name .. => .nm
  | _ => .ot
def chkNs (c : Cf) : List Nat → List Expr → Bool
  | [], [] => true
  | i :: is, .Name x _ :: r => tgB c i x && chkNs c is r
  | _, _ => false
def chkP (c : Cf) : Pt → Expr → Bool
  | .name i, .Name x _ => tgB c i x
  | .tup is, .Tuple xs _ _ => chkNs c is xs
  | _, _ => false

mutual
def chkE : Nat → Cf → E → Expr → Bool
  | 0, _, _, _ => false
  | n + 1, c, e, py => okHead py && (match e, py with
    | .lit d, .Constant k _ _ => litB d k
    | .var i, .Name x _ => decide (c.N[i]? = some x) && visB c.sc x && nmOk x
    | .box j, .Name x _ => (match c.BX[j]? with
      | some i => decide (c.N[i]? = some x) && visB c.sc x && nmOk x
      | none => false)
    | .gl y (.fn f), .Name x _ => x == y && glB c.sc x && nmOk x && c.g.gf.contains (x, f)
    | .gl y (.int i), .Name x _ => x == y && glB c.sc x && nmOk x && c.g.gd.any fun p => match p with
      | (z, .int j) => z == x && decide (i = j)
      | _ => false
    | .gl y (.str i), .Name x _ => x == y && glB c.sc x && nmOk x && c.g.gd.any fun p => match p with
      | (z, .str j) => z == x && decide (i = j)
      | _ => false
    | .tup es, .Tuple xs _ _ => chkEs n c es xs
    | .lst _ es, .List xs _ => chkEs n c es xs
    | .bin o a b, .BinOp x op y _ => decide (op = opB o) && chkE n c a x && chkE n c b y
    | .neg a, .UnaryOp .USub x _ => chkE n c a x
    | .cmp o a b, .Compare x [op] [y] _ => decide (op = opC o) && chkE n c a x && chkE n c b y && !behindInMarks op y
    | .cmp2 o p a b d, .Compare x [op, op2] [y, z] _ => decide (op = opC o) && decide (op2 = opC p) && chkE n c a x && chkE n c b y && chkE n c d z && !lastMarks [op, op2] [y, z]
    | .not a, .UnaryOp .Not x _ => chkE n c a x
    | .and a b, .BoolOp .And (x :: y :: r) pos => chkE n c a x && (match r with
      | [] => chkE n c b y
      | r => chkE n c b (.BoolOp .And (y :: r) pos))
    | .or a b, .BoolOp .Or (x :: y :: r) pos => chkE n c a x && (match r with
      | [] => chkE n c b y
      | r => chkE n c b (.BoolOp .Or (y :: r) pos))
    | .ite t a b, .IfExp x y z _ => chkE n c t x && chkE n c a y && chkE n c b z
    | .idx a i, .Subscript x y _ => chkE n c a x && chkE n c i y
    | .sl a lo hi, .Subscript x (.Slice l h none _) _ => chkE n c a x && chkO n c lo l && chkO n c hi h
    | .rev a, .Subscript x (.Slice none none (some (.UnaryOp .USub (.Constant (.int 1) _ _) _)) _) _ => chkE n c a x
    | .call f es ks perm, .Call (.Name x _) xs kws _ => (c.BX.isEmpty || c.top) && glB c.sc x && nmOk x && c.g.gf.contains (x, f) && (match keysOf kws, c.g.fps[f]? with
      | some kn, some ps => c.g.sigs.contains (f, xs.length, kn) && decide (perm = permOf ps xs.length kn) && chkEs n c es xs && chkEs n c ks (kws.map (·.value)) && xs.all okHead && (kws.map (·.value)).all okHead
      | _, _ => false)
    | .vcall (.var i) es, .Call (.Name x _) xs [] _ => (c.BX.isEmpty || c.top) && decide (c.N[i]? = some x) && visB c.sc x && nmOk x && chkEs n c es xs && xs.all okHead
    | .bi .listrange (.cons a .nil), .Call (.Name x _) [.Call (.Name y _) [z] [] _] [] _ => x == ("list" : Str) && y == ("range" : Str) && glB c.sc x && glB c.sc y && okHead z && chkE n c a z
    | .bi b es, .Call (.Name x _) xs [] _ => biOk b && x == biN b && glB c.sc x && bltNames.contains x && !xs.isEmpty && chkEs n c es xs && xs.all okHead
    | .dof es, .Call (.Name x _) xs [] _ => x == ("dict" : Str) && glB c.sc x && !xs.isEmpty && chkEs n c es xs && xs.all okHead
    | .lstm es, .Call (.Name x _) xs [] _ => x == ("list" : Str) && glB c.sc x && !xs.isEmpty && chkEs n c es xs && xs.all okHead
    | .isa a t, .Call (.Name x _) [y, .Name z _] [] _ => x == ("isinstance" : Str) && z == tyN t && bltNames.contains "isinstance" && glB c.sc x && glB c.sc z && bltNames.contains z && okHead y && chkE n c a y
    | .app r a, .Call (.Attribute x m ap) [y] [] p => m == ("append" : Str) && ap.endLine == p.line && okHead y && okBase x && chkE n c r x && chkE n c a y
    | .ext r a, .Call (.Attribute x m ap) [y] [] p => m == ("extend" : Str) && ap.endLine == p.line && okHead y && okBase x && chkE n c r x && chkE n c a y
    | .dnew true, .Dict [] [] _ => true
    | .dnew false, .Dict [] [] _ => true
    | .dget r a b, .Call (.Attribute x m ap) [y, z] [] p => m == ("get" : Str) && ap.endLine == p.line && okHead y && okHead z && okBase x && chkE n c r x && chkE n c a y && chkE n c b z
    | .lam l js, .Lambda params body scope _ => c.lam && c.top && (match c.g.lmc[l]?, c.g.P.lms[l]? with
      | some lm, some lmd => lamB lm lmd params c.sc scope && chkJs c js lm.fr && chkE n (Cf.inL c.g lm scope) lmd.body body
      | _, _ => false)
    | .comp _ own it p cs (.fin e), .ListComp elt [g] scope _ => own.all (fun i => !c.BX.contains i) && chkIt own p && okHead g.iter && blkC c.N c.sc scope (ownP c.N own) && chkI n c it (isTup g.target) g.iter && chkP (c.blk scope) p g.target && g.is_async == 0 && chkC n (c.blk scope) cs g.ifs && chkE n (c.blk scope) e elt
    | .comp _ own it p cs (.cons p1 it1 cs1 (.fin e)), .ListComp elt [g, g1] scope _ => own.all (fun i => !c.BX.contains i) && chkIt own p && chkIt own p1 && okHead g.iter && okHead g1.iter && blkC c.N c.sc scope (ownP c.N own) && chkI n c it (isTup g.target) g.iter && chkP (c.blk scope) p g.target && g.is_async == 0 && chkC n (c.blk scope) cs g.ifs && chkI n (c.blk scope) it1 (isTup g1.target) g1.iter && chkP (c.blk scope) p1 g1.target && g1.is_async == 0 && chkC n (c.blk scope) cs1 g1.ifs && chkE n (c.blk scope) e elt
    | _, _ => false)
def chkEs : Nat → Cf → Es → List Expr → Bool
  | 0, _, _, _ => false
  | _ + 1, _, .nil, [] => true
  | n + 1, c, .cons e r, x :: xs => chkE n c e x && chkEs n c r xs
  | n + 1, c, .star e r, .Starred x _ :: xs => chkE n c e x && chkEs n c r xs
  | _ + 1, _, _, _ => false
def chkO : Nat → Cf → Oe → Option Expr → Bool
  | 0, _, _, _ => false
  | _ + 1, _, .none, none => true
  | n + 1, c, .some e, some x => chkE n c e x
  | _ + 1, _, _, _ => false
def chkI : Nat → Cf → It → TK → Expr → Bool
  | 0, _, _, _, _ => false
  | n + 1, c, .val e, _, x => chkE n c e x
  | n + 1, c, .rng a, _, .Call (.Name y _) [x] [] _ => y == ("range" : Str) && glB c.sc y && okHead x && chkE n c a x
  | n + 1, c, .rng2 a b, _, .Call (.Name y _) [x, z] [] _ => y == ("range" : Str) && glB c.sc y && okHead x && okHead z && chkE n c a x && chkE n c b z
  | n + 1, c, .enum a, .tp, .Call (.Name y _) [x] [] _ => y == ("enumerate" : Str) && glB c.sc y && okHead x && chkE n c a x
  | n + 1, c, .zip a b, .tp, .Call (.Name y _) [x, z] [] _ => y == ("zip" : Str) && glB c.sc y && okHead x && okHead z && chkE n c a x && chkE n c b z
  | n + 1, c, .zip a b, .nm, .Call (.Name y _) [x, z] [] _ => y == ("zip" : Str) && glB c.sc y && okHead x && okHead z && chkE n c a x && chkE n c b z
  | n + 1, c, .zip3 a b d, .nm, .Call (.Name y _) [x, z, u] [] _ => y == ("zip" : Str) && glB c.sc y && okHead x && okHead z && okHead u && chkE n c a x && chkE n c b z && chkE n c d u
  | _ + 1, _, _, _, _ => false
def chkC : Nat → Cf → Es → List Expr → Bool
  | 0, _, _, _ => false
  | _ + 1, _, .nil, [] => true
  | n + 1, c, .cons e .nil, [x] => chkE n c e x
  | _ + 1, _, _, _ => false
end

/-! ### what is known where the block runs -/
structure Sib (X X' : Cx) : Prop where
  prog : X'.prog = X.prog
  w : X'.w = X.w
  K : X'.K = X.K
  mg : X'.mg = X.mg
  base : X'.base = X.base
  A : X'.A = X.A
  stack : X'.stack = X.stack
theorem Sib.refl (X : Cx) : Sib X X := ⟨rfl, rfl, rfl, rfl, rfl, rfl, rfl⟩
structure Good (Z : Lk) (C : Cs) (c : Cf) (CE : List (Str × Addr)) (X : Cx) (E : XK) : Prop where
  K : X.K = Z.K
  N : X.N = c.N
  sc : X.env.scope = c.sc
  nd : X.N.Nodup
  calm : X.calm = true
  units : X.A.units + 64 < cLine
  guards : X.A.guards = some []
  tg : ∀ x, c.tg x = true → X.fn x = true
  gd : ∀ x d, (x, d) ∈ c.g.gd → ∃ v u, X.mg x = some u ∧ RelV v u ∧ (∀ i, d = .int i → v = .int i) ∧ (∀ i, d = .str i → v = .str i)
  gf : ∀ x f, (x, f) ∈ c.g.gf → X.mg x = some (.ref (Z.F f)) ∧ f < Z.nf
  bl : ∀ x, x ∈ bltNames → X.mg x = none
  kp : ∀ x f, (x, f) ∈ c.g.gf → PySem.W.keepIn X.K (.ref (Z.F f)) = true
  ce : c.top = true → CE = X.env.cells
  lamT : c.lam = true → ∃ cc P, TabB X.base X.mg cc P ∧ X.env.code = .ref cc ∧ (P, X.env.qual ++ "<lambda>") ∈ Z.tabs ∧ ∀ p ∈ Z.tabs, p.1 = P → p.2 = X.env.qual ++ "<lambda>"
  lok : ∀ (n l : Nat) (lm : LmC) (lmd : Lm) (params : Arguments) (body : Expr) (sc scope : Scope) (q : Str), c.g.lmc[l]? = some lm → c.g.P.lms[l]? = some lmd → lamB lm lmd params sc scope = true → chkE n (Cf.inL c.g lm scope) lmd.body body = true → Z.lok l q params body scope ∧ Z.lfr l = lm.fr
  run : ∀ (X' : Cx), Sib X X' → (c.BX = [] ∨ (c.top = true ∧ X' = X)) → ∀ (f n : Nat) (ks : List Str) (ps : List Str), (f, n, ks) ∈ c.g.sigs → c.g.fps[f]? = some ps → ∀ (pins : List (Addr × Obj)) (σ : L2.St) (H : Hp) (s : Shared) (us ws : List Value) (vs zs : List V) (Q : VK) (ρ : Env) (μ : Mu) (st : Sto) (xs ys args : List D),
    Inv X' pins σ H s → Vals vs us → Vals zs ws → Fr Z c.N c.BX CE σ ρ μ st H → Reps Z H μ vs xs → Reps Z H μ zs ys → xs.length = n → ys.length = ks.length → permD (permOf ps n ks) (xs ++ ys) = some args →
    tR (relD Z) Z E ρ.bx ρ.bs μ st H (C.fn f args st) Q → wpAny (model X'.prog X'.w) X'.A (PySem.call (.ref (Z.F f)) us (ks.zip ws)) (EP X' pins σ Q) X'.xe s
  vrun : ∀ (X' : Cx), Sib X X' → (c.BX = [] ∨ (c.top = true ∧ X' = X)) → ∀ (pins : List (Addr × Obj)) (σ : L2.St) (H : Hp) (s : Shared) (us : List Value) (vs : List V) (Q : VK) (ρ : Env) (μ : Mu) (st : Sto) (xs : List D) (l : Nat) (cs : List Nat) (g : Addr),
    Inv X' pins σ H s → Vals vs us → Fr Z c.N c.BX CE σ ρ μ st H → Reps Z H μ vs xs → Rep Z H μ (.ref g) (.clo l cs) →
    tR (relD Z) Z E ρ.bx ρ.bs μ st H (C.clo l cs xs st) Q → wpAny (model X'.prog X'.w) X'.A (PySem.call (.ref g) us []) (EP X' pins σ Q) X'.xe s

theorem vis_of {sc : Scope} {x : Str} (h : visB sc x = true) : Vis sc x := by
  unfold visB at h
  split at h
  · exact .inl ‹_›
  · exact .inr (.inl ‹_›)
  · exact .inr (.inr ‹_›)
  · cases h
theorem nm_dbg {x : Str} (h : nmOk x = true) : (x == ("__debug__" : Str)) = false := by
  simp only [nmOk, Bool.and_eq_true, Bool.not_eq_true'] at h; exact h.1.1
theorem nm_cd {x : Str} (h : nmOk x = true) : (x == ("__classdict__" : Str)) = false := by
  simp only [nmOk, Bool.and_eq_true, Bool.not_eq_true'] at h; exact h.1.2
theorem star_cons {e : Expr} {es : List Expr} {env : PySem.Env} (h : okHead e = true) : starEach (e :: es) env = (false, eval e env) :: starEach es env := by
  cases e <;> first | rfl | exact absurd h (by decide) | (simp [okHead] at h)
theorem star_any {pos : Pos} : ∀ {es : List Expr} {env : PySem.Env}, es.all okHead = true → (backTo pos (starEach es env)).any (·.1) = false
  | [], _, _ => rfl
  | e :: es, env, h => by
    simp only [List.all_cons, Bool.and_eq_true] at h
    rw [star_cons h.1]
    show ((backTo pos ((false, eval e env) :: starEach es env))).any (·.1) = false
    have ih := star_any (pos := pos) (env := env) h.2
    simp only [backTo, List.map_cons, List.any_cons, Bool.false_or] at ih ⊢
    exact ih
theorem plainIx_of {e : Expr} (h : okHead e = true) : PlainIx e := by
  intro o i
  cases e <;> first | rfl | (simp [okHead] at h)
theorem foldSet_of {e : Expr} (h : okHead e = true) (env : PySem.Env) (x : Value) : foldedSetIterable e env x = pure x := by
  cases e <;> first | rfl | (simp [okHead] at h)
section
variable {Z : Lk} {C : Cs} {c : Cf} {CE : List (Str × Addr)} {X : Cx} {E : XK}
theorem Good.gl (G : Good Z C c CE X E) {x : Str} (h : glB c.sc x = true) : Gl X x := by
  show X.env.scope.names.lookup x = some .globalImplicit
  rw [G.sc]; exact of_decide_eq_true h
theorem Good.vis (G : Good Z C c CE X E) {x : Str} (h : visB c.sc x = true) : Vis X.env.scope x := by rw [G.sc]; exact vis_of h
end
/-- the readings of our semantics -/
abbrev YE (Z : Lk) (C : Cs) (c : Cf) (CE : List (Str × Addr)) (E : XK) (e : Y.E) : TE := tE Z c.N c.BX CE E fun ρ st => evE C ρ e st
end Y
end
section
set_option Elab.async false
set_option linter.all false
set_option maxRecDepth 100000
set_option maxHeartbeats 1000000
set_option autoImplicit false
/-! Y6: each construct of expressions. -/
namespace Y
open PySem PySem.Spec PyProof.Rows L2 LamX NdefX
abbrev YT (Z : Lk) (C : Cs) (c : Cf) (CE : List (Str × Addr)) (E : XK) (e : Y.E) : TT := tT Z c.N c.BX CE E fun ρ st => tru (evE C ρ e st)
abbrev YEs (Z : Lk) (C : Cs) (c : Cf) (CE : List (Str × Addr)) (E : XK) (e : Es) : TA := tAs Z c.N c.BX CE E fun ρ st => evEs C ρ e st
abbrev YO (Z : Lk) (C : Cs) (c : Cf) (CE : List (Str × Addr)) (E : XK) (e : Oe) : TO := tOi Z c.N c.BX CE E fun ρ st => evO C ρ e st
variable {Z : Lk} {C : Cs} {c : Cf} {CE : List (Str × Addr)} {X : Cx} {E : XK} {pos : Pos} {x y z : Expr} {a b d : Y.E} {n : Nat} {k : Nat}

theorem tR_ok {Z : Lk} {bx : List Nat} {bs : Nat} {μ : Mu} {st : Sto} {H : Hp} {v : V} {e : D} {Q : VK} (h : tR (relD Z) Z E bx bs μ st H (.ok e st) Q) (s : StoR Z bx μ st H) (r : Rep Z H μ v e) : Q v H := h v H μ (NxE.refl s) r
/-- a part, then the rest -/
theorem sub_E {sem : Env → Sto → Res D} {σ : L2.St} {H : Hp} {ρ : Env} {μ : Mu} {st : Sto} {γ δ : Type} {rel2 : Hp → Mu → δ → γ → Prop} {Q : δ → Hp → Prop} {k : D → Sto → Res γ} {Q1 : VK} (fr : Fr Z c.N c.BX CE σ ρ μ st H)
    (h : tR rel2 Z E ρ.bx ρ.bs μ st H ((sem ρ st).bind k) Q)
    (hk : ∀ v H1 d st1 μ1, NxE Z ρ.bx ρ.bs μ st H μ1 st1 H1 → Fr Z c.N c.BX CE σ ρ μ1 st1 H1 → Rep Z H1 μ1 v d → tR rel2 Z E ρ.bx ρ.bs μ1 st1 H1 (k d st1) Q → Q1 v H1) : tE Z c.N c.BX CE E sem σ H Q1 :=
  ⟨ρ, μ, st, fr, tR_mono (tR_bind (rel := relD Z) h) fun v H1 ⟨d, st1, μ1, nx, r, h1⟩ => hk v H1 d st1 μ1 nx (fr.next nx) r h1⟩
theorem sub_T {sem : Env → Sto → Res Bool} {σ : L2.St} {H : Hp} {ρ : Env} {μ : Mu} {st : Sto} {γ δ : Type} {rel2 : Hp → Mu → δ → γ → Prop} {Q : δ → Hp → Prop} {k : Bool → Sto → Res γ} {Q1 : Bool → Hp → Prop} (fr : Fr Z c.N c.BX CE σ ρ μ st H)
    (h : tR rel2 Z E ρ.bx ρ.bs μ st H ((sem ρ st).bind k) Q)
    (hk : ∀ v H1 st1 μ1, NxE Z ρ.bx ρ.bs μ st H μ1 st1 H1 → Fr Z c.N c.BX CE σ ρ μ1 st1 H1 → tR rel2 Z E ρ.bx ρ.bs μ1 st1 H1 (k v st1) Q → Q1 v H1) : tT Z c.N c.BX CE E sem σ H Q1 :=
  ⟨ρ, μ, st, fr, tR_mono (tR_bind (rel := relB) h) fun v H1 ⟨d, st1, μ1, nx, r, h1⟩ => by
    have r' : v = d := r
    subst r'; exact hk v H1 st1 μ1 nx (fr.next nx) h1⟩
theorem sub_A {sem : Env → Sto → Res (List D)} {σ : L2.St} {H : Hp} {ρ : Env} {μ : Mu} {st : Sto} {γ δ : Type} {rel2 : Hp → Mu → δ → γ → Prop} {Q : δ → Hp → Prop} {k : List D → Sto → Res γ} {Q1 : List V → Hp → Prop} (fr : Fr Z c.N c.BX CE σ ρ μ st H)
    (h : tR rel2 Z E ρ.bx ρ.bs μ st H ((sem ρ st).bind k) Q)
    (hk : ∀ v H1 d st1 μ1, NxE Z ρ.bx ρ.bs μ st H μ1 st1 H1 → Fr Z c.N c.BX CE σ ρ μ1 st1 H1 → Reps Z H1 μ1 v d → tR rel2 Z E ρ.bx ρ.bs μ1 st1 H1 (k d st1) Q → Q1 v H1) : tAs Z c.N c.BX CE E sem σ H Q1 :=
  ⟨ρ, μ, st, fr, tR_mono (tR_bind (rel := relDs Z) h) fun v H1 ⟨d, st1, μ1, nx, r, h1⟩ => hk v H1 d st1 μ1 nx (fr.next nx) r h1⟩
theorem sub_O {sem : Env → Sto → Res (Option Int)} {σ : L2.St} {H : Hp} {ρ : Env} {μ : Mu} {st : Sto} {γ δ : Type} {rel2 : Hp → Mu → δ → γ → Prop} {Q : δ → Hp → Prop} {k : Option Int → Sto → Res γ} {Q1 : Option Int → Hp → Prop} (fr : Fr Z c.N c.BX CE σ ρ μ st H)
    (h : tR rel2 Z E ρ.bx ρ.bs μ st H ((sem ρ st).bind k) Q)
    (hk : ∀ v H1 st1 μ1, NxE Z ρ.bx ρ.bs μ st H μ1 st1 H1 → Fr Z c.N c.BX CE σ ρ μ1 st1 H1 → tR rel2 Z E ρ.bx ρ.bs μ1 st1 H1 (k v st1) Q → Q1 v H1) : tOi Z c.N c.BX CE E sem σ H Q1 :=
  ⟨ρ, μ, st, fr, tR_mono (tR_bind (rel := relO) h) fun v H1 ⟨d, st1, μ1, nx, r, h1⟩ => by
    have r' : v = d := r
    subst r'; exact hk v H1 st1 μ1 nx (fr.next nx) h1⟩

theorem y_var {i : Nat} {x : Str} (G : Good Z C c CE X E) (h1 : c.N[i]? = some x) (h2 : visB c.sc x = true) (h3 : nmOk x = true) : PE X (.Name x pos) (YE Z C c CE E (.var i)) := by
  refine (pe_var (i := i) (by rw [G.N]; exact h1) (G.vis h2) (nm_dbg h3) (nm_cd h3)).imp fun σ H Q ⟨ρ, μ, st, fr, h⟩ => ?_
  simp only [evE] at h
  split at h
  · rename_i e he
    obtain ⟨v, q1, q2⟩ := fr.sl i e he
    exact ⟨v, q1, tR_ok h fr.sto q2⟩
  · exact h.elim
theorem y_box {j i : Nat} {x : Str} (G : Good Z C c CE X E) (h0 : c.BX[j]? = some i) (h1 : c.N[i]? = some x) (h2 : visB c.sc x = true) (h3 : nmOk x = true) : PE X (.Name x pos) (YE Z C c CE E (.box j)) := by
  refine (pe_var (i := i) (by rw [G.N]; exact h1) (G.vis h2) (nm_dbg h3) (nm_cd h3)).imp fun σ H Q ⟨ρ, μ, st, fr, h⟩ => ?_
  simp only [evE] at h
  split at h
  · rename_i m hm
    split at h
    · rename_i e he
      obtain ⟨i', x', cc, q0, q1, q2, q3, q4⟩ := fr.box j m hm
      rw [h0] at q0; cases q0
      obtain ⟨v, q5, q6⟩ := q4 e he
      exact ⟨v, q5, tR_ok h fr.sto q6⟩
    · exact h.elim
  · exact h.elim
theorem y_glf {f : Nat} {x : Str} (G : Good Z C c CE X E) (h1 : glB c.sc x = true) (h2 : nmOk x = true) (h3 : (x, f) ∈ c.g.gf) : PE X (.Name x pos) (YE Z C c CE E (.gl x (.fn f))) := by
  obtain ⟨q1, q2⟩ := G.gf x f h3
  refine (pe_glob (v := .ref (Z.F f)) (G.gl h1) q1 rfl (nm_dbg h2)).imp fun σ H Q ⟨ρ, μ, st, fr, h⟩ => ?_
  simp only [evE] at h
  exact tR_ok h fr.sto (.fn q2)
theorem y_gli {i : Int} {x : Str} (G : Good Z C c CE X E) (h1 : glB c.sc x = true) (h2 : nmOk x = true) (h3 : (x, .int i) ∈ c.g.gd) : PE X (.Name x pos) (YE Z C c CE E (.gl x (.int i))) := by
  obtain ⟨v, u, q1, q2, q3, _⟩ := G.gd x _ h3
  have e := q3 i rfl; subst e
  refine (pe_glob (v := .int i) (G.gl h1) q1 q2 (nm_dbg h2)).imp fun σ H Q ⟨ρ, μ, st, fr, h⟩ => ?_
  simp only [evE] at h
  exact tR_ok h fr.sto (.int i)
theorem y_gls {i : Str} {x : Str} (G : Good Z C c CE X E) (h1 : glB c.sc x = true) (h2 : nmOk x = true) (h3 : (x, .str i) ∈ c.g.gd) : PE X (.Name x pos) (YE Z C c CE E (.gl x (.str i))) := by
  obtain ⟨v, u, q1, q2, _, q3⟩ := G.gd x _ h3
  have e := q3 i rfl; subst e
  refine (pe_glob (v := .str i) (G.gl h1) q1 q2 (nm_dbg h2)).imp fun σ H Q ⟨ρ, μ, st, fr, h⟩ => ?_
  simp only [evE] at h
  exact tR_ok h fr.sto (.str i)
theorem y_lit {e : D} {q : Const} {j : Nat} (h : litB e q = true) : PE X (.Constant q j pos) (YE Z C c CE E (.lit e)) := by
  unfold litB at h
  split at h
  · refine pe_non.imp fun σ H Q ⟨ρ, μ, st, fr, h⟩ => ?_
    simp only [evE] at h; exact tR_ok h fr.sto .non
  · have e := eq_of_beq h; subst e
    refine pe_bl.imp fun σ H Q ⟨ρ, μ, st, fr, h⟩ => ?_
    simp only [evE] at h; exact tR_ok h fr.sto (.bl _)
  · have e := of_decide_eq_true h; subst e
    refine pe_int.imp fun σ H Q ⟨ρ, μ, st, fr, h⟩ => ?_
    simp only [evE] at h; exact tR_ok h fr.sto (.int _)
  · have e := eq_of_beq h; subst e
    refine pe_str.imp fun σ H Q ⟨ρ, μ, st, fr, h⟩ => ?_
    simp only [evE] at h; exact tR_ok h fr.sto (.str _)
  · cases h
theorem y_bin {o : BOp} (G : Good Z C c CE X E) (ha : PE X x (YE Z C c CE E a)) (hb : PE X y (YE Z C c CE E b)) : PE X (.BinOp x (opB o) y pos) (YE Z C c CE E (.bin o a b)) := by
  refine (pe_op (op_B o) ha hb).imp fun σ H Q ⟨ρ, μ, st, fr, h⟩ => ?_
  simp only [evE] at h
  refine sub_E fr h fun v H1 d1 st1 μ1 n1 fr1 r1 h1 => sub_E fr1 h1 fun w H2 d2 st2 μ2 n2 fr2 r2 h2 => ?_
  rw [G.K]
  have r1' := r1.ext n2.ext
  exact bin_ok fr2.sto (vw_of fr2.sto r1') (vw_of fr2.sto r2) h2
theorem y_neg (ha : PE X x (YE Z C c CE E a)) : PE X (.UnaryOp .USub x pos) (YE Z C c CE E (.neg a)) := by
  refine (pe_un un_neg ha).imp fun σ H Q ⟨ρ, μ, st, fr, h⟩ => ?_
  simp only [evE] at h
  refine sub_E fr h fun v H1 d1 st1 μ1 n1 fr1 r1 h1 => ?_
  split at h1
  · cases r1; exact ⟨_, rfl, tR_ok h1 fr1.sto (.int _)⟩
  · exact h1.elim
theorem of_map {o : Option Bool} {bx : List Nat} {bs : Nat} {μ : Mu} {st : Sto} {H : Hp} {Q : VK} (s : StoR Z bx μ st H) (h : tR (relD Z) Z E bx bs μ st H (Res.of (o.map D.bl) st) Q) : ∃ k, o = some k ∧ Q (.bl k) H := by
  cases o with
  | none => exact h.elim
  | some k => exact ⟨k, rfl, tR_ok h s (.bl k)⟩
theorem y_cmp {o : COp} (G : Good Z C c CE X E) (ha : PE X x (YE Z C c CE E a)) (hb : PE X y (YE Z C c CE E b)) (hm : behindInMarks (opC o) y = false) : PE X (.Compare x [opC o] [y] pos) (YE Z C c CE E (.cmp o a b)) := by
  refine (pe_cmpR (op_C G.units o) ha hb hm).imp fun σ H Q ⟨ρ, μ, st, fr, h⟩ => ?_
  simp only [evE] at h
  refine sub_E fr h fun v H1 d1 st1 μ1 n1 fr1 r1 h1 => sub_E fr1 h1 fun w H2 d2 st2 μ2 n2 fr2 r2 h2 => ?_
  rw [G.K]
  obtain ⟨k, e, q⟩ := of_map fr2.sto h2
  exact cmp_ok (vw_of fr2.sto (r1.ext n2.ext)) (vw_of fr2.sto r2) e q
theorem y_cmpT {o : COp} (G : Good Z C c CE X E) (ha : PE X x (YE Z C c CE E a)) (hb : PE X y (YE Z C c CE E b)) (hm : behindInMarks (opC o) y = false) : PT X (.Compare x [opC o] [y] pos) (YT Z C c CE E (.cmp o a b)) := by
  refine (pt_cmpR (op_C G.units o) ha hb hm).imp fun σ H Q ⟨ρ, μ, st, fr, h⟩ => ?_
  simp only [evE, tru, Res.bind_bind] at h
  refine sub_E fr h fun v H1 d1 st1 μ1 n1 fr1 r1 h1 => sub_E fr1 h1 fun w H2 d2 st2 μ2 n2 fr2 r2 h2 => ?_
  rw [G.K]
  cases e : cmpD o (deref st2 d1) (deref st2 d2) with
  | none => rw [e] at h2; exact h2.elim
  | some k =>
    rw [e] at h2
    refine cmp_ok (vw_of fr2.sto (r1.ext n2.ext)) (vw_of fr2.sto r2) e ⟨k, rfl, ?_⟩
    exact h2 k H2 μ2 (NxE.refl fr2.sto) rfl

theorem lt_ite {A B : Prop} {k : Bool} (h1 : k = true → A) (h2 : k = false → B) : if k = true then A else B := by
  cases k with
  | true => exact iteT (h1 rfl)
  | false => exact iteF (h2 rfl)
theorem y_cmp2 {o p : COp} (G : Good Z C c CE X E) (ha : PE X x (YE Z C c CE E a)) (hb : PE X y (YE Z C c CE E b)) (hd : PE X z (YE Z C c CE E d)) (hm : lastMarks [opC o, opC p] [y, z] = false) : PE X (.Compare x [opC o, opC p] [y, z] pos) (YE Z C c CE E (.cmp2 o p a b d)) := by
  refine (pe_chain (op_C G.units o) (op_C G.units p) ha hb hd hm).imp fun σ H Q ⟨ρ, μ, st, fr, h⟩ => ?_
  simp only [evE] at h
  refine sub_E fr h fun v H1 d1 st1 μ1 n1 fr1 r1 h1 => sub_E fr1 h1 fun w H2 d2 st2 μ2 n2 fr2 r2 h2 => ?_
  cases e : cmpD o (deref st2 d1) (deref st2 d2) with
  | none => rw [e] at h2; exact h2.elim
  | some k =>
    rw [e] at h2
    rw [G.K]
    refine cmp_ok (vw_of fr2.sto (r1.ext n2.ext)) (vw_of fr2.sto r2) e ⟨k, rfl, lt_ite (fun hk => ?_) fun hk => ?_⟩
    · subst hk
      refine sub_E fr2 h2 fun u H3 d3 st3 μ3 n3 fr3 r3 h3 => ?_
      obtain ⟨k', e', q⟩ := of_map fr3.sto h3
      exact cmp_ok (vw_of fr3.sto (r2.ext n3.ext)) (vw_of fr3.sto r3) e' q
    · subst hk
      exact tR_ok h2 fr2.sto (.bl false)
theorem y_cmp2T {o p : COp} (G : Good Z C c CE X E) (ha : PE X x (YE Z C c CE E a)) (hb : PE X y (YE Z C c CE E b)) (hd : PE X z (YE Z C c CE E d)) (hm : lastMarks [opC o, opC p] [y, z] = false) : PT X (.Compare x [opC o, opC p] [y, z] pos) (YT Z C c CE E (.cmp2 o p a b d)) := by
  refine (pt_chain (op_C G.units o) (op_C G.units p) ha hb hd hm).imp fun σ H Q ⟨ρ, μ, st, fr, h⟩ => ?_
  simp only [evE, tru, Res.bind_bind] at h
  refine sub_E fr h fun v H1 d1 st1 μ1 n1 fr1 r1 h1 => sub_E fr1 h1 fun w H2 d2 st2 μ2 n2 fr2 r2 h2 => ?_
  cases e : cmpD o (deref st2 d1) (deref st2 d2) with
  | none => rw [e] at h2; exact h2.elim
  | some k =>
    rw [e] at h2
    rw [G.K]
    refine cmp_ok (vw_of fr2.sto (r1.ext n2.ext)) (vw_of fr2.sto r2) e ⟨k, rfl, lt_ite (fun hk => ?_) fun hk => ?_⟩
    · subst hk
      simp only [Res.of_some, Res.bind_ok, if_true, Res.bind_bind] at h2
      refine sub_E fr2 h2 fun u H3 d3 st3 μ3 n3 fr3 r3 h3 => ?_
      cases e' : cmpD p (deref st3 d2) (deref st3 d3) with
      | none => rw [e'] at h3; exact h3.elim
      | some k' =>
        rw [e'] at h3
        exact cmp_ok (vw_of fr3.sto (r2.ext n3.ext)) (vw_of fr3.sto r3) e' ⟨k', rfl, h3 k' H3 μ3 (NxE.refl fr3.sto) rfl⟩
    · subst hk
      exact ⟨false, rfl, h2 false H2 μ2 (NxE.refl fr2.sto) rfl⟩
/-- a test by its value -/
theorem y_tru (G : Good Z C c CE X E) (ha : PE X x (YE Z C c CE E a)) (he : ∀ whole, isTrue x X.env whole = (do let v ← whole; standAt x.pos; holding [v] (truthy v))) : PT X x (YT Z C c CE E a) := by
  refine (pt_truth ha he).imp fun σ H Q ⟨ρ, μ, st, fr, h⟩ => ?_
  simp only [tru] at h
  refine sub_E fr h fun v H1 d1 st1 μ1 n1 fr1 r1 h1 => ?_
  cases e : truD (deref st1 d1) with
  | none => rw [e] at h1; exact h1.elim
  | some k =>
    rw [e] at h1
    rw [G.K]
    exact ⟨k, (vw_of fr1.sto r1).tru e, h1 k H1 μ1 (NxE.refl fr1.sto) rfl⟩
theorem tru_bl {k : Bool} {st : Sto} : tru (.ok (.bl k) st) = .ok k st := rfl
theorem y_not (G : Good Z C c CE X E) (ha : PE X x (YE Z C c CE E a)) : PE X (.UnaryOp .Not x pos) (YE Z C c CE E (.not a)) := by
  refine (pe_notT ha).imp fun σ H Q ⟨ρ, μ, st, fr, h⟩ => ?_
  simp only [evE, tru, Res.bind_bind] at h
  refine sub_E fr h fun v H1 d1 st1 μ1 n1 fr1 r1 h1 => ?_
  cases e : truD (deref st1 d1) with
  | none => rw [e] at h1; exact h1.elim
  | some k =>
    rw [e] at h1
    rw [G.K]
    exact ⟨k, (vw_of fr1.sto r1).tru e, tR_ok h1 fr1.sto (.bl _)⟩
theorem y_notT (ha : PT X x (YT Z C c CE E a)) : PT X (.UnaryOp .Not x pos) (YT Z C c CE E (.not a)) := by
  refine (pt_not ha).imp fun σ H Q ⟨ρ, μ, st, fr, h⟩ => ?_
  simp only [evE] at h
  have h' : tR relB Z E ρ.bx ρ.bs μ st H ((tru (evE C ρ a st)).bind fun k st => .ok (!k) st) Q := by
    have e : tru ((tru (evE C ρ a st)).bind fun k st => .ok (.bl (!k)) st) = (tru (evE C ρ a st)).bind fun k st => .ok (!k) st := by
      cases tru (evE C ρ a st) <;> rfl
    rw [← e]; exact h
  exact sub_T (sem := fun ρ st => tru (evE C ρ a st)) fr h' fun v H1 st1 μ1 n1 fr1 h1 => h1 (!v) H1 μ1 (NxE.refl fr1.sto) rfl


theorem y_and {r : List Expr} (G : Good Z C c CE X E) (ha : PE X x (YE Z C c CE E a)) (hb : PE X (.BoolOp .And (y :: r) pos) (YE Z C c CE E b)) : PE X (.BoolOp .And (x :: y :: r) pos) (YE Z C c CE E (.and a b)) := by
  refine (pe_andT ha hb).imp fun σ H Q ⟨ρ, μ, st, fr, h⟩ => ?_
  simp only [evE] at h
  refine sub_E fr h fun v H1 d1 st1 μ1 n1 fr1 r1 h1 => ?_
  cases e : truD (deref st1 d1) with
  | none => rw [e] at h1; exact h1.elim
  | some k =>
    rw [e] at h1
    rw [G.K]
    refine ⟨k, (vw_of fr1.sto r1).tru e, lt_ite (fun hk => ?_) fun hk => ?_⟩
    · subst hk; exact ⟨ρ, μ1, st1, fr1, h1⟩
    · subst hk; exact tR_ok h1 fr1.sto r1
theorem y_or {r : List Expr} (G : Good Z C c CE X E) (ha : PE X x (YE Z C c CE E a)) (hb : PE X (.BoolOp .Or (y :: r) pos) (YE Z C c CE E b)) : PE X (.BoolOp .Or (x :: y :: r) pos) (YE Z C c CE E (.or a b)) := by
  refine (pe_orT ha hb).imp fun σ H Q ⟨ρ, μ, st, fr, h⟩ => ?_
  simp only [evE] at h
  refine sub_E fr h fun v H1 d1 st1 μ1 n1 fr1 r1 h1 => ?_
  cases e : truD (deref st1 d1) with
  | none => rw [e] at h1; exact h1.elim
  | some k =>
    rw [e] at h1
    rw [G.K]
    refine ⟨k, (vw_of fr1.sto r1).tru e, lt_ite (fun hk => ?_) fun hk => ?_⟩
    · subst hk; exact tR_ok h1 fr1.sto r1
    · subst hk; exact ⟨ρ, μ1, st1, fr1, h1⟩
theorem pw_of {op : PySem.BoolOp} {es : List Expr} {t : TT} (h : PT X (.BoolOp op es pos) t) : PW X (.BoolOp op es pos) t := ⟨fun whole pins s σ H Q I q => h.run pins s σ H Q I q⟩
theorem tru_and (r : Res D) (g : Sto → Res D) : tru (r.bind fun x st => (Res.of (truD (deref st x)) st).bind fun k st => if k then g st else .ok x st) = (tru r).bind fun k st => if k then tru (g st) else .ok false st := by
  cases r with
  | ok x st =>
    simp only [Res.bind_ok, tru]
    cases e : truD (deref st x) with
    | none => rfl
    | some k => cases k with
      | true => rfl
      | false => simp [e]
  | ex => rfl
  | no => rfl
theorem tru_or (r : Res D) (g : Sto → Res D) : tru (r.bind fun x st => (Res.of (truD (deref st x)) st).bind fun k st => if k then .ok x st else g st) = (tru r).bind fun k st => if k then .ok true st else tru (g st) := by
  cases r with
  | ok x st =>
    simp only [Res.bind_ok, tru]
    cases e : truD (deref st x) with
    | none => rfl
    | some k => cases k with
      | true => simp [e]
      | false => rfl
  | ex => rfl
  | no => rfl
theorem y_andT {r : List Expr} (ha : PT X x (YT Z C c CE E a)) (hb : PW X (.BoolOp .And (y :: r) pos) (YT Z C c CE E b)) : PT X (.BoolOp .And (x :: y :: r) pos) (YT Z C c CE E (.and a b)) := by
  refine (pw_and ha hb).pt.imp fun σ H Q ⟨ρ, μ, st, fr, h⟩ => ?_
  simp only [evE] at h
  rw [tru_and] at h
  refine sub_T (sem := fun ρ st => tru (evE C ρ a st)) fr h fun k H1 st1 μ1 n1 fr1 h1 => lt_ite (fun hk => ?_) fun hk => ?_
  · subst hk; exact ⟨ρ, μ1, st1, fr1, h1⟩
  · subst hk; exact h1 false H1 μ1 (NxE.refl fr1.sto) rfl
theorem y_orT {r : List Expr} (ha : PT X x (YT Z C c CE E a)) (hb : PW X (.BoolOp .Or (y :: r) pos) (YT Z C c CE E b)) : PT X (.BoolOp .Or (x :: y :: r) pos) (YT Z C c CE E (.or a b)) := by
  refine (pw_or ha hb).pt.imp fun σ H Q ⟨ρ, μ, st, fr, h⟩ => ?_
  simp only [evE] at h
  rw [tru_or] at h
  refine sub_T (sem := fun ρ st => tru (evE C ρ a st)) fr h fun k H1 st1 μ1 n1 fr1 h1 => lt_ite (fun hk => ?_) fun hk => ?_
  · subst hk; exact h1 true H1 μ1 (NxE.refl fr1.sto) rfl
  · subst hk; exact ⟨ρ, μ1, st1, fr1, h1⟩
theorem y_ite (hc : PT X z (YT Z C c CE E d)) (ha : PE X x (YE Z C c CE E a)) (hb : PE X y (YE Z C c CE E b)) : PE X (.IfExp z x y pos) (YE Z C c CE E (.ite d a b)) := by
  refine (pe_ifExp hc ha hb).imp fun σ H Q ⟨ρ, μ, st, fr, h⟩ => ?_
  simp only [evE] at h
  refine sub_T (sem := fun ρ st => tru (evE C ρ d st)) fr h fun k H1 st1 μ1 n1 fr1 h1 => lt_ite (fun hk => ?_) fun hk => ?_
  · subst hk; exact ⟨ρ, μ1, st1, fr1, h1⟩
  · subst hk; exact ⟨ρ, μ1, st1, fr1, h1⟩
theorem y_iteT (hc : PT X z (YT Z C c CE E d)) (ha : PT X x (YT Z C c CE E a)) (hb : PT X y (YT Z C c CE E b)) : PT X (.IfExp z x y pos) (YT Z C c CE E (.ite d a b)) := by
  refine ⟨fun pins s σ H Q I ⟨ρ, μ, st, fr, h⟩ => ?_⟩
  have h' : tR relB Z E ρ.bx ρ.bs μ st H ((tru (evE C ρ d st)).bind fun k st => if k then tru (evE C ρ a st) else tru (evE C ρ b st)) Q := by
    have e : tru (evE C ρ (.ite d a b) st) = (tru (evE C ρ d st)).bind fun k st => if k then tru (evE C ρ a st) else tru (evE C ρ b st) := by
      simp only [evE]
      cases tru (evE C ρ d st) with
      | ok k st1 => cases k <;> rfl
      | ex => rfl
      | no => rfl
    rw [← e]; exact h
  refine isTrue_IfExp (thn (hc.run pins s σ H _ I (sub_T (sem := fun ρ st => tru (evE C ρ d st)) (Q1 := fun k H1 => if k = true then YT Z C c CE E a σ H1 Q else YT Z C c CE E b σ H1 Q) fr h' fun k H1 st1 μ1 n1 fr1 h1 => lt_ite (fun hk => ?_) fun hk => ?_)) fun k s1 ⟨H1, I1, q1⟩ => ?_)
  · subst hk; exact ⟨ρ, μ1, st1, fr1, h1⟩
  · subst hk; exact ⟨ρ, μ1, st1, fr1, h1⟩
  · cases k with
    | true => exact ha.run pins s1 σ H1 Q I1 q1
    | false => exact hb.run pins s1 σ H1 Q I1 q1
/-! ### subscripts -/
theorem at_rep {μ : Mu} {H : Hp} {vs : List V} {xs : List D} {i : Int} {e : D} (r : Reps Z H μ vs xs) (h : L2.atI xs i = some e) : ∃ v, L2.atI vs i = some v ∧ Rep Z H μ v e := by
  unfold L2.atI at h ⊢
  rw [r.length]
  cases q : ixN xs.length i with
  | none => rw [q] at h; cases h
  | some j => rw [q] at h; exact r.get h
/-- d[k] -/
def rIxDc : R2 := fun x y H Q => ∃ a v, x = .ref a ∧ DGet H a y (some v) ∧ Q v H
theorem ix_dct {X : Cx} (hu : X.A.units + 64 < cLine) : IxR X rIxDc := by
  intro value slice pins s σ H x y v u Q I rx ry h hs
  obtain ⟨a, r, rfl, g, q⟩ := h
  obtain rfl : v = Value.ref a := rx
  exact tail_any (dict_typeIs I g) PySem.F.slot_dict_getitem.lookup (d_getItem (by omega) I g ry fun w' s3 I3 rw' => ⟨r, H, I3, rw', q⟩) hs
def rIxY (K : PySem.W.Frag) : R2 := fun x y H Q => rIx K x y H Q ∨ rIxDc x y H Q
theorem idx_ok {bx : List Nat} {bs : Nat} {μ : Mu} {st : Sto} {H : Hp} {v w : V} {e f : D} {Q : VK} (s : StoR Z bx μ st H) (ha : Vw Z H μ v e) (hb : Rep Z H μ w f) (h : tR (relD Z) Z E bx bs μ st H (Res.of (idxD e f) st) Q) : rIxY Z.K v w H Q := by
  cases q : idxD e f with
  | none => rw [q] at h; exact h.elim
  | some g =>
    rw [q] at h
    have hb' : ∀ {k : DK} {xs : List D} {o : Option D}, k.get xs f = some o → Vw Z H μ w f := fun {k xs o} e => by
      have hl : ∀ ys, f ≠ .lst ys := fun ys z => by subst z; cases k <;> cases e
      have hd : ∀ k' ys, f ≠ .dct k' ys := fun k' ys z => by subst z; cases k <;> cases e
      exact .rep hb hl hd
    unfold idxD at q
    split at q
    · obtain ⟨a, vs, rfl, h1, r⟩ := ha.lst'
      cases hb
      obtain ⟨v', h2, h3⟩ := at_rep r q
      exact .inl (.inl ⟨a, vs, _, v', rfl, rfl, h1, h2, of_ok h s h3⟩)
    · obtain ⟨a, vs, rfl, h1, r⟩ := ha.tup
      cases hb
      obtain ⟨v', h2, h3⟩ := at_rep r q
      exact .inl (.inr (.inl ⟨a, vs, _, v', rfl, rfl, h1.sqt, h2, of_ok h s h3⟩))
    · rename_i kk xs
      obtain ⟨a, vs, rfl, h1, h2, r⟩ := ha.dct'
      cases q1 : kk.get xs f with
      | none => rw [q1] at q; cases q
      | some o =>
        rw [q1] at q
        obtain rfl : o = some g := q
        obtain ⟨z, g1, v', rfl, g2⟩ := dget_of h1 h2 r (hb' q1) q1
        exact .inr ⟨a, v', rfl, g1, of_ok h s g2⟩
    · split at q
      · rename_i hl
        rw [ha.str]
        cases hb
        obtain ⟨cc, h1, rfl⟩ := Option.map_eq_some_iff.mp q
        exact .inl (.inr (.inr ⟨_, _, cc, rfl, rfl, line_le hl, h1, of_ok h s (.str _)⟩))
      · cases q
    · cases q
theorem y_idx (G : Good Z C c CE X E) (ha : PE X x (YE Z C c CE E a)) (hb : PE X y (YE Z C c CE E b)) (hy : okHead y = true) : PE X (.Subscript x y pos) (YE Z C c CE E (.idx a b)) := by
  refine (pe_ix (ix_seq.or (ix_dct G.units)) ha hb (plainIx_of hy)).imp fun σ H Q ⟨ρ, μ, st, fr, h⟩ => ?_
  simp only [evE] at h
  refine sub_E fr h fun v H1 d1 st1 μ1 n1 fr1 r1 h1 => sub_E fr1 h1 fun w H2 d2 st2 μ2 n2 fr2 r2 h2 => ?_
  rw [G.K]
  exact idx_ok fr2.sto (vw_of fr2.sto (r1.ext n2.ext)) r2 h2
theorem y_none : PO X none (YO Z C c CE E .none) := ⟨fun pins s σ H Q I ⟨ρ, μ, st, fr, h⟩ => by
  simp only [evO] at h
  exact po_none.run pins s σ H Q I (h none H μ (NxE.refl fr.sto) rfl)⟩
theorem y_some (ha : PE X x (YE Z C c CE E a)) : PO X (some x) (YO Z C c CE E (.some a)) := ⟨fun pins s σ H Q I ⟨ρ, μ, st, fr, h⟩ => by
  simp only [evO] at h
  refine (po_some ha).run pins s σ H Q I (sub_E fr h fun v H1 d1 st1 μ1 n1 fr1 r1 h1 => ?_)
  split at h1
  · cases r1; exact ⟨_, rfl, h1 _ H1 μ1 (NxE.refl fr1.sto) rfl⟩
  · exact h1.elim⟩
def rSl (K : PySem.W.Frag) : V → Option Int → Option Int → Hp → VK → Prop := fun x lo hi H Q => rSlL K x lo hi H Q ∨ rSlA K x lo hi H Q
theorem cut_rep {μ : Mu} {H : Hp} {vs : List V} {xs : List D} {lo hi : Option Int} (r : Reps Z H μ vs xs) : Reps Z H μ (cutV vs lo hi) (cutL xs lo hi) := by
  unfold cutV cutL
  rw [r.length]
  exact (r.drop _).take _
theorem cut_whole {α : Type} {xs : List α} {lo hi : Option Int} (h : HT.sIx xs.length 0 lo = 0 ∧ HT.sIx xs.length xs.length hi = xs.length) : cutL xs lo hi = xs := by
  unfold cutL
  rw [h.1, h.2, List.drop_zero, Nat.sub_zero, List.take_length]
theorem y_sl {lo hi : Oe} {l u : Option Expr} {p2 : Pos} (G : Good Z C c CE X E) (ha : PE X x (YE Z C c CE E a)) (hl : PO X l (YO Z C c CE E lo)) (hu : PO X u (YO Z C c CE E hi)) : PE X (.Subscript x (.Slice l u none p2) pos) (YE Z C c CE E (.sl a lo hi)) := by
  refine (pe_slice (sl_list.or sl_tupA) ha hl hu).imp fun σ H Q ⟨ρ, μ, st, fr, h⟩ => ?_
  simp only [evE] at h
  refine sub_E fr h fun v H1 d1 st1 μ1 n1 fr1 r1 h1 => sub_O (sem := fun ρ st => evO C ρ lo st) fr1 h1 fun i H2 st2 μ2 n2 fr2 h2 => sub_O (sem := fun ρ st => evO C ρ hi st) fr2 h2 fun j H3 st3 μ3 n3 fr3 h3 => ?_
  rw [G.K]
  have w := vw_of fr3.sto (r1.ext (n2.ext.trans n3.ext))
  cases q : slD (deref st3 d1) i j with
  | none => rw [q] at h3; exact h3.elim
  | some g =>
    rw [q] at h3
    unfold slD at q
    split at q
    · rename_i xs e0
      cases q
      rw [e0] at w
      obtain ⟨a', vs, rfl, k1, r⟩ := w.lst'
      exact .inl ⟨a', vs, rfl, k1, fun p hp => of_lay h3 fr3.sto hp (rep_lst fr3.sto hp (cut_rep r))⟩
    · rename_i xs e0
      cases q
      rw [e0] at w
      obtain ⟨a', vs, rfl, k1, r⟩ := w.tup
      refine .inr ⟨a', vs, rfl, k1.sqt, fun hw => ?_, fun hw p hp => of_lay h3 fr3.sto hp (rep_tup fr3.sto hp (cut_rep r))⟩
      rw [r.length] at hw
      rw [cut_whole hw] at h3
      exact of_ok h3 fr3.sto (.tup k1 r)
    · cases q
end Y
end
section
set_option Elab.async false
set_option linter.all false
set_option maxRecDepth 100000
set_option maxHeartbeats 1000000
set_option autoImplicit false
/-! Y7: displays, arguments, calls, methods. -/
namespace Y
open PySem PySem.Spec PyProof.Rows L2 LamX NdefX
variable {Z : Lk} {C : Cs} {c : Cf} {CE : List (Str × Addr)} {X : Cx} {E : XK} {pos : Pos} {x y z : Expr} {a b d : Y.E} {n : Nat} {k : Nat}

/-- a list's or a dict's place in the heap -/
def BAt (Z : Lk) (H : Hp) (μ : Mu) (c : Cell) (o : HO) : Prop := match c with
  | .lst xs => ∃ vs, o = .lst vs ∧ Reps Z H μ vs xs
  | .dct k xs => ∃ vs, o = k.ho vs ∧ k.len = vs.length ∧ Reps Z H μ vs xs
  | .var _ => False
theorem BAt.ext {Z : Lk} {H H' : Hp} {μ μ' : Mu} {c : Cell} {o : HO} (e : Ext μ H μ' H') (h : BAt Z H μ c o) : BAt Z H' μ' c o := by
  cases c with
  | lst xs => obtain ⟨vs, h1, h2⟩ := h; exact ⟨vs, h1, Reps.ext e h2⟩
  | dct k xs => obtain ⟨vs, h1, h2, h3⟩ := h; exact ⟨vs, h1, h2, Reps.ext e h3⟩
  | var od => exact h.elim
theorem BAt.ne {Z : Lk} {H : Hp} {μ : Mu} {c : Cell} {o : HO} (h : BAt Z H μ c o) : (∀ ps, o ≠ .tbl ps) ∧ (∀ cc x, o ≠ CodeO cc x) ∧ (∀ a u, o ≠ CellO a u) := by
  cases c with
  | lst xs => obtain ⟨vs, h1, h2⟩ := h; subst h1; exact ⟨fun _ z => (by cases z), fun _ _ z => (by unfold CodeO at z; cases z), fun _ _ z => (by unfold CellO at z; cases z)⟩
  | dct k xs =>
    obtain ⟨vs, h1, h2, h3⟩ := h; subst h1
    cases k <;> exact ⟨fun _ z => (by cases z), fun _ _ z => (by unfold CodeO at z; cases z), fun _ _ z => (by unfold CellO at z; cases z)⟩
  | var od => exact h.elim
section
variable {bx : List Nat} {bs : Nat} {μ : Mu} {st : Sto} {H : Hp}
theorem tabs_wr {T : List (Addr × Str)} {H : Hp} {p : Addr} {o o' : HO} (t : Tabs T H) (hH : H p = some o') (hc : (∀ ps, o' ≠ .tbl ps) ∧ (∀ cc x, o' ≠ CodeO cc x)) : Tabs T (L2.upd H p o) := fun q hq => by
  obtain ⟨ps, h1, h2, h3⟩ := t q hq
  refine ⟨ps, by rw [upd_ne (fun w => by rw [w, hH] at h1; exact hc.1 _ (Option.some.inj h1))]; exact h1, h2, fun pos cv hc' => ?_⟩
  obtain ⟨cc, e1, e2⟩ := h3 pos cv hc'
  refine ⟨cc, e1, ?_⟩
  rw [upd_ne (fun w => by rw [w, hH] at e2; exact hc.2 _ _ (Option.some.inj e2))]
  exact e2
theorem tabs_wrL {T : List (Addr × Str)} {H : Hp} {p : Addr} {vs : List V} {o : HO} (t : Tabs T H) (hH : H p = some (.lst vs)) : Tabs T (L2.upd H p o) := tabs_wr t hH ⟨fun _ z => (by cases z), fun _ _ z => (by unfold CodeO at z; cases z)⟩
/-- what stands at a place of the store -/
theorem StoR.atC (s : StoR Z bx μ st H) {m : Nat} {p : Addr} (hp : μ.m[m]? = some (some p)) : ∃ c o, st[m]? = some c ∧ H p = some o ∧ BAt Z H μ c o := by
  have hl : m < st.length := by rw [← s.len]; exact (List.getElem?_eq_some_iff.mp hp).1
  have e : st[m]? = some st[m] := List.getElem?_eq_getElem hl
  cases q : st[m] with
  | lst xs =>
    rw [q] at e
    obtain ⟨a, vs, h1, h2, h3⟩ := s.cell m xs e
    rw [hp] at h1; cases h1
    exact ⟨_, _, e, h2, vs, rfl, h3⟩
  | dct k xs =>
    rw [q] at e
    obtain ⟨a, vs, h1, h2, h4, h3⟩ := s.dc m k xs e
    rw [hp] at h1; cases h1
    exact ⟨_, _, e, h2, vs, rfl, h4, h3⟩
  | var od =>
    rw [q] at e
    have := s.var m od e
    rw [hp] at this; cases this
/-- a thing of the store is written -/
theorem StoR.wrC (s : StoR Z bx μ st H) {m : Nat} {p : Addr} {c : Cell} {o : HO} (hp : μ.m[m]? = some (some p)) (r : BAt Z H μ c o) : StoR Z bx μ (st.set m c) (L2.upd H p o) := by
  have mem : some p ∈ μ.m := List.mem_of_getElem? hp
  have e : Ext μ H μ (L2.upd H p o) := Ext.wr mem
  obtain ⟨c0, o0, hs, hH, hc0⟩ := s.atC hp
  have hl : m < st.length := (List.getElem?_eq_some_iff.mp hs).1
  have nv : ∀ (i : Nat) (q : Addr), (i, q) ∈ μ.vc → i ≠ m ∧ q ≠ p := fun i q hq => by
    obtain ⟨od, o, h1, h2, _, _⟩ := s.vcs i q hq
    refine ⟨fun z => ?_, fun z => ?_⟩
    · rw [z, hs] at h1; cases h1; exact hc0
    rw [z, hH] at h2; exact hc0.ne.2.2 _ _ (Option.some.inj h2)
  refine ⟨by rw [List.length_set]; exact s.len, s.nd, fun i zs h => ?_, fun i k zs h => ?_, fun i od h => ?_, fun i q hq => ?_, fun i hi => ?_, s.vu, tabs_wr s.tabs hH ⟨hc0.ne.1, hc0.ne.2.1⟩, fun b hb => ?_⟩
  · by_cases hi : m = i
    · subst hi
      rw [List.getElem?_set_self hl] at h
      cases h
      obtain ⟨vs, e1, r⟩ := r
      subst e1
      exact ⟨p, vs, hp, upd_same, Reps.ext e r⟩
    · rw [List.getElem?_set_ne hi] at h
      obtain ⟨q, us, h1, h2, h3⟩ := s.cell i zs h
      refine ⟨q, us, h1, ?_, Reps.ext e h3⟩
      rw [upd_ne (fun w => hi (s.nd m i p hp (by rw [h1, w])))]
      exact h2
  · by_cases hi : m = i
    · subst hi
      rw [List.getElem?_set_self hl] at h
      cases h
      obtain ⟨vs, e1, e2, r⟩ := r
      subst e1
      exact ⟨p, vs, hp, upd_same, e2, Reps.ext e r⟩
    · rw [List.getElem?_set_ne hi] at h
      obtain ⟨q, us, h1, h2, h4, h3⟩ := s.dc i k zs h
      refine ⟨q, us, h1, ?_, h4, Reps.ext e h3⟩
      rw [upd_ne (fun w => hi (s.nd m i p hp (by rw [h1, w])))]
      exact h2
  · by_cases hi : m = i
    · subst hi
      rw [List.getElem?_set_self hl] at h; cases h; exact r.elim
    · rw [List.getElem?_set_ne hi] at h
      exact s.var i od h
  · obtain ⟨n1, n2⟩ := nv i q hq
    obtain ⟨od, o, h1, h2, h4, h3⟩ := s.vcs i q hq
    refine ⟨od, o, by rw [List.getElem?_set_ne (Ne.symm n1)]; exact h1, by rw [upd_ne n2]; exact h2, h4, fun f hf => ?_⟩
    obtain ⟨v, u, q1, q2, q3⟩ := h3 f hf
    exact ⟨v, u, q1, q2, q3.ext e⟩
  · obtain ⟨h1, od, h2⟩ := s.own i hi
    refine ⟨h1, od, ?_⟩
    rw [List.getElem?_set_ne (fun w => by subst w; rw [hp] at h1; cases h1)]
    exact h2
  · obtain ⟨⟨us, h1⟩, h2⟩ := s.hot b hb
    exact ⟨⟨us, by rw [upd_ne (fun w => h2 (by rw [w]; exact mem))]; exact h1⟩, h2⟩
theorem StoR.wr (s : StoR Z bx μ st H) {m : Nat} {p : Addr} {xs ys : List D} {vs : List V} (hp : μ.m[m]? = some (some p)) (hs : st[m]? = some (Cell.lst xs)) (r : Reps Z H μ vs ys) : StoR Z bx μ (st.set m (.lst ys)) (L2.upd H p (.lst vs)) := s.wrC hp ⟨vs, rfl, r⟩
/-- what the store holds, of a thing -/
def Cell.its : Cell → List D
  | .lst xs => xs
  | .dct _ xs => xs
  | .var _ => []
theorem NxE.wrC (s : StoR Z bx μ st H) {m : Nat} {p : Addr} {c0 c : Cell} {o : HO} (hp : μ.m[m]? = some (some p)) (hs : st[m]? = some c0) (r : BAt Z H μ c o) (hw : bs ≤ m ∨ D.nrs c.its = true ∨ (∀ b, D.olds b c0.its = true → D.olds b c.its = true)) :
    NxE Z bx bs μ st H μ (st.set m c) (L2.upd H p o) := by
  have hl : m < st.length := (List.getElem?_eq_some_iff.mp hs).1
  obtain ⟨c1, o1, hs1, hH, hc1⟩ := s.atC hp
  rw [hs] at hs1; cases hs1
  have eold : ∀ b, Cell.old b c = D.olds b c.its := fun b => by cases c <;> first | rfl | exact r.elim
  have eold0 : ∀ b, Cell.old b c0 = D.olds b c0.its := fun b => by cases c0 <;> first | rfl | exact hc1.elim
  refine ⟨⟨Ext.wr (List.mem_of_getElem? hp), ⟨by simp, fun bb hb q i u hi e => ?_⟩, s.wrC hp r, fun i od hn h => ?_, fun i q hq => upd_ne fun w => ?_, rfl, rfl, fun b hb => upd_ne fun w => (s.hot b hb).2 (by rw [w]; exact List.mem_of_getElem? hp)⟩, fun i hi => ?_⟩
  · by_cases hn : m = i
    · subst hn
      rw [List.getElem?_set_self hl] at e; cases e
      rw [eold]
      rcases hw with h | h | h
      · omega
      · exact olds_nr _ bb h
      · exact h bb (by rw [← eold0]; exact q m _ hi hs)
    · rw [List.getElem?_set_ne hn] at e; exact q i u hi e
  · by_cases hi : m = i
    · subst hi; rw [hs] at h; cases h; exact hc1.elim
    · rw [List.getElem?_set_ne hi]; exact h
  · obtain ⟨od, o, _, h2, _, _⟩ := s.vcs i q hq
    rw [w, hH] at h2
    exact hc1.ne.2.2 _ _ (Option.some.inj h2)
  · obtain ⟨h1, od, h2⟩ := s.own i hi
    exact List.getElem?_set_ne (fun w => by subst w; rw [hp] at h1; cases h1)
theorem NxE.wr (s : StoR Z bx μ st H) {m : Nat} {p : Addr} {xs ys : List D} {vs : List V} (hp : μ.m[m]? = some (some p)) (hs : st[m]? = some (Cell.lst xs)) (r : Reps Z H μ vs ys) (hw : bs ≤ m ∨ D.nrs ys = true ∨ (∀ b, D.olds b xs = true → D.olds b ys = true)) :
    NxE Z bx bs μ st H μ (st.set m (.lst ys)) (L2.upd H p (.lst vs)) := NxE.wrC s hp hs ⟨vs, rfl, r⟩ hw
theorem snoc_at {α : Type} {l : List α} {x : α} {i : Nat} {y : α} (h : (l ++ [x])[i]? = some y) (hi : l.length ≤ i) : i = l.length ∧ x = y := by
  rw [List.getElem?_append_right hi] at h
  have h0 : i - l.length = 0 := by
    have := (List.getElem?_eq_some_iff.mp h).1
    simp at this; omega
  rw [h0] at h; simp at h
  exact ⟨by omega, h⟩
theorem StoR.pushC (s : StoR Z bx μ st H) {p : Addr} {c : Cell} {o : HO} (hp : H p = none) (hb : ∀ i ∈ bx, i < st.length) (r : BAt Z H μ c o) : StoR Z bx (μ.push p) (st ++ [c]) (L2.upd H p o) := by
  have e : Ext μ H (μ.push p) (L2.upd H p o) := Ext.new hp
  have fresh := s.fresh hp
  have top : (μ.m ++ [some p])[st.length]? = some (some p) := by
    rw [← s.len, List.getElem?_append_right (Nat.le_refl _), Nat.sub_self]; rfl
  refine ⟨by simp [Mu.push, s.len], fun i j q h1 h2 => ?_, fun i zs h => ?_, fun i k zs h => ?_, fun i od h => ?_, fun i q hq => ?_, fun i hi => ?_, s.vu, Tabs.lay s.tabs hp, fun b hb => ⟨?_, fun z => ?_⟩⟩
  · simp only [Mu.push] at h1 h2
    by_cases g1 : i < μ.m.length
    · rw [List.getElem?_append_left g1] at h1
      by_cases g2 : j < μ.m.length
      · rw [List.getElem?_append_left g2] at h2
        exact s.nd i j q h1 h2
      · obtain ⟨_, e2⟩ := snoc_at h2 (by omega)
        cases e2
        exact absurd (List.mem_of_getElem? h1) fresh.1
    · obtain ⟨e0, e1⟩ := snoc_at h1 (by omega)
      cases e1
      by_cases g2 : j < μ.m.length
      · rw [List.getElem?_append_left g2] at h2
        exact absurd (List.mem_of_getElem? h2) fresh.1
      · obtain ⟨e3, _⟩ := snoc_at h2 (by omega)
        omega
  · by_cases hi : i < st.length
    · rw [List.getElem?_append_left hi] at h
      obtain ⟨q, us, h1, h2, h3⟩ := s.cell i zs h
      exact ⟨q, us, e.at h1, by rw [upd_ne (ne_of_none h2 hp)]; exact h2, Reps.ext e h3⟩
    · obtain ⟨e0, e1⟩ := snoc_at h (by omega)
      subst e1
      obtain ⟨vs, e1, r⟩ := r
      subst e1
      exact ⟨p, vs, by rw [e0]; exact top, upd_same, Reps.ext e r⟩
  · by_cases hi : i < st.length
    · rw [List.getElem?_append_left hi] at h
      obtain ⟨q, us, h1, h2, h4, h3⟩ := s.dc i k zs h
      exact ⟨q, us, e.at h1, by rw [upd_ne (ne_of_none h2 hp)]; exact h2, h4, Reps.ext e h3⟩
    · obtain ⟨e0, e1⟩ := snoc_at h (by omega)
      subst e1
      obtain ⟨vs, e1, e2, r⟩ := r
      subst e1
      exact ⟨p, vs, by rw [e0]; exact top, upd_same, e2, Reps.ext e r⟩
  · by_cases hi : i < st.length
    · rw [List.getElem?_append_left hi] at h
      exact e.at (s.var i od h)
    · obtain ⟨_, e1⟩ := snoc_at h (by omega)
      subst e1; exact r.elim
  · obtain ⟨od, o, h1, h2, h4, h3⟩ := s.vcs i q hq
    refine ⟨od, o, by rw [List.getElem?_append_left (List.getElem?_eq_some_iff.mp h1).1]; exact h1, by rw [upd_ne (ne_of_none h2 hp)]; exact h2, h4, fun f hf => ?_⟩
    obtain ⟨v, u, q1, q2, q3⟩ := h3 f hf
    exact ⟨v, u, q1, q2, q3.ext e⟩
  · have hl := hb i hi
    obtain ⟨h1, od, h2⟩ := s.own i hi
    exact ⟨e.at h1, od, by rw [List.getElem?_append_left hl]; exact h2⟩
  · obtain ⟨⟨us, h1⟩, h2⟩ := s.hot b hb
    exact ⟨us, by rw [upd_ne (ne_of_none h1 hp)]; exact h1⟩
  · rcases List.mem_append.mp z with z | z
    · exact (s.hot b hb).2 z
    · simp at z; exact ne_hot s hp hb z
theorem StoR.push (s : StoR Z bx μ st H) {p : Addr} {xs : List D} {vs : List V} (hp : H p = none) (hb : ∀ i ∈ bx, i < st.length) (r : Reps Z H μ vs xs) : StoR Z bx (μ.push p) (st ++ [.lst xs]) (L2.upd H p (.lst vs)) := s.pushC hp hb ⟨vs, rfl, r⟩
theorem own_lt (s : StoR Z bx μ st H) : ∀ i ∈ bx, i < st.length := fun i hi => by
  obtain ⟨_, od, h⟩ := s.own i hi
  exact (List.getElem?_eq_some_iff.mp h).1
theorem NxE.pushC (s : StoR Z bx μ st H) {p : Addr} {c : Cell} {o : HO} (hp : H p = none) (hbs : bs ≤ st.length) (r : BAt Z H μ c o) : NxE Z bx bs μ st H (μ.push p) (st ++ [c]) (L2.upd H p o) := by
  refine ⟨⟨Ext.new hp, Pres.push hbs _, s.pushC hp (own_lt s) r, fun i od hn h => ?_, fun i q hq => upd_ne (ne_vc s hp hq), rfl, rfl, fun b hb => upd_ne (ne_hot s hp hb)⟩, fun i hi => ?_⟩
  · rw [List.getElem?_append_left (List.getElem?_eq_some_iff.mp h).1]; exact h
  · rw [List.getElem?_append_left (own_lt s i hi)]
theorem NxE.push (s : StoR Z bx μ st H) {p : Addr} {xs : List D} {vs : List V} (hp : H p = none) (hbs : bs ≤ st.length) (r : Reps Z H μ vs xs) : NxE Z bx bs μ st H (μ.push p) (st ++ [.lst xs]) (L2.upd H p (.lst vs)) := NxE.pushC s hp hbs ⟨vs, rfl, r⟩
/-- a display's list, by value or as a thing of the store -/
theorem mk_lst {m : Bool} (s : StoR Z bx μ st H) (hbs : bs ≤ st.length) {p : Addr} {xs : List D} {vs : List V} {Q : VK} (hp : H p = none) (r : Reps Z H μ vs xs)
    (h : tR (relD Z) Z E bx bs μ st H (if line xs.length then (if m then .ok (.ref st.length) (st ++ [.lst xs]) else .ok (.lst xs) st) else .no) Q) : Q (.ref p) (L2.upd H p (.lst vs)) := by
  split at h
  · cases m with
    | true =>
      have h : tR (relD Z) Z E bx bs μ st H (.ok (.ref st.length) (st ++ [.lst xs])) Q := h
      refine h (.ref p) _ _ (NxE.push s hp hbs r) (.ref ?_)
      show (μ.m ++ [some p])[st.length]? = _
      rw [List.getElem?_append_right (by rw [s.len]; exact Nat.le_refl _), s.len, Nat.sub_self]; rfl
    | false =>
      have h : tR (relD Z) Z E bx bs μ st H (.ok (.lst xs) st) Q := h
      exact h (.ref p) _ μ (Nx.lay s hp) (rep_lst s hp r)
  · exact h.elim
end
/-! ### arguments, displays -/
theorem y_nil : PA X [] (YEs Z C c CE E .nil) := pa_nil.imp fun σ H Q ⟨ρ, μ, st, fr, h⟩ => by
  simp only [evEs] at h
  exact h [] H μ (NxE.refl fr.sto) .nil
theorem y_cons {r : Es} {xs : List Expr} (hx : okHead x = true) (ha : PE X x (YE Z C c CE E a)) (hr : PA X xs (YEs Z C c CE E r)) : PA X (x :: xs) (YEs Z C c CE E (.cons a r)) := by
  refine (pa_cons ha hr (star_cons hx)).imp fun σ H Q ⟨ρ, μ, st, fr, h⟩ => ?_
  simp only [evEs] at h
  refine sub_E fr h fun v H1 d1 st1 μ1 n1 fr1 r1 h1 => sub_A (sem := fun ρ st => evEs C ρ r st) fr1 h1 fun vs H2 ds st2 μ2 n2 fr2 r2 h2 => ?_
  exact h2 (v :: vs) H2 μ2 (NxE.refl fr2.sto) (.cons (r1.ext n2.ext) r2)
theorem y_star {r : Es} {xs : List Expr} (G : Good Z C c CE X E) (ha : PE X x (YE Z C c CE E a)) (hr : PA X xs (YEs Z C c CE E r)) : PA X (.Starred x pos :: xs) (YEs Z C c CE E (.star a r)) := by
  refine (StX.pa_star ha hr).imp fun σ H Q ⟨ρ, μ, st, fr, h⟩ => ?_
  simp only [evEs] at h
  refine sub_E fr h fun v H1 d1 st1 μ1 n1 fr1 r1 h1 => ?_
  rw [G.K]
  have w := vw_of fr1.sto r1
  cases q : litems (deref st1 d1) with
  | none => rw [q] at h1; exact h1.elim
  | some ys =>
    rw [q] at h1
    have key : ∃ p vs, v = .ref p ∧ (SqT Z.K H1 p vs ∨ SqL Z.K H1 p vs) ∧ Reps Z H1 μ1 vs ys := by
      unfold litems at q
      split at q
      · rename_i e0
        cases q; rw [e0] at w
        obtain ⟨p, vs, e1, e2, e3⟩ := w.lst'
        exact ⟨p, vs, e1, .inr e2, e3⟩
      · rename_i e0
        cases q; rw [e0] at w
        obtain ⟨p, vs, e1, e2, e3⟩ := w.tup
        exact ⟨p, vs, e1, .inl e2.sqt, e3⟩
      · cases q
    obtain ⟨p, vs, e1, e2, e3⟩ := key
    refine ⟨p, vs, e1, e2, sub_A (sem := fun ρ st => evEs C ρ r st) fr1 h1 fun ws H2 ds st2 μ2 n2 fr2 r2 h2 => ?_⟩
    exact h2 (vs ++ ws) H2 μ2 (NxE.refl fr2.sto) ((Reps.ext n2.ext e3).append r2)
theorem y_tup {es : Es} {xs : List Expr} {j : _} (ha : PA X xs (YEs Z C c CE E es)) : PE X (.Tuple xs j pos) (YE Z C c CE E (.tup es)) := by
  refine (pe_tup ha).imp fun σ H Q ⟨ρ, μ, st, fr, h⟩ => ?_
  simp only [evE] at h
  refine sub_A (sem := fun ρ st => evEs C ρ es st) fr h fun vs H1 ds st1 μ1 n1 fr1 r1 h1 => ?_
  split at h1
  · rename_i hl
    exact ⟨by rw [r1.length]; exact line_le hl, fun p hp => h1 (.ref p) _ μ1 (Nx.lay fr1.sto hp) (rep_tup fr1.sto hp r1)⟩
  · exact h1.elim
theorem y_lst {m : Bool} {es : Es} {xs : List Expr} (ha : PA X xs (YEs Z C c CE E es)) : PE X (.List xs pos) (YE Z C c CE E (.lst m es)) := by
  refine (pe_lst ha).imp fun σ H Q ⟨ρ, μ, st, fr, h⟩ => ?_
  simp only [evE] at h
  refine sub_A (sem := fun ρ st => evEs C ρ es st) fr h fun vs H1 ds st1 μ1 n1 fr1 r1 h1 => ?_
  refine ⟨?_, fun p hp => mk_lst fr1.sto fr1.bs hp r1 h1⟩
  split at h1
  · rename_i hl; rw [r1.length]; exact line_le hl
  · exact h1.elim
/-! ### calls -/
theorem keys_some : ∀ {kws : List Keyword} {kn : List Str} {env : PySem.Env} (p : Pos), keysOf kws = some kn → (backToKw p (keywordEach kws env)).all (·.1.isSome) = true ∧ (backToKw p (keywordEach kws env)).filterMap (·.1) = kn ∧ (backToKw p (keywordEach kws env)).any (·.1.isNone) = false
  | [], _, _, _, h => by cases h; exact ⟨rfl, rfl, rfl⟩
  | ⟨some m, v, q⟩ :: r, kn, env, p, h => by
    obtain ⟨k2, h1, rfl⟩ := Option.map_eq_some_iff.mp h
    obtain ⟨a1, a2, a3⟩ := keys_some (env := env) p h1
    refine ⟨?_, ?_, ?_⟩
    · simp only [keywordEach, backToKw, List.map_cons, List.all_cons, Option.isSome_some, Bool.true_and] at a1 ⊢; exact a1
    · simp only [keywordEach, backToKw, List.map_cons, List.filterMap_cons] at a2 ⊢; rw [a2]
    · simp only [keywordEach, backToKw, List.map_cons, List.any_cons, Option.isNone_some, Bool.false_or] at a3 ⊢; exact a3
  | ⟨none, _, _⟩ :: _, _, _, _, h => by cases h
/-- keywords' values as arguments -/
theorem pk_of : ∀ {kws : List Keyword} {t : TA} , PK X kws t → PK X kws t := fun h => h
theorem y_knil : PK X [] (YEs Z C c CE E .nil) := ⟨fun p pins s σ H Q I ⟨ρ, μ, st, fr, h⟩ => by
  simp only [evEs] at h
  exact pk_nil.run p pins s σ H Q I (h [] H μ (NxE.refl fr.sto) .nil)⟩
theorem y_kcons {r : Es} {kws : List Keyword} {nm : Option Str} (ha : PE X x (YE Z C c CE E a)) (hr : PK X kws (YEs Z C c CE E r)) : PK X (⟨nm, x, pos⟩ :: kws) (YEs Z C c CE E (.cons a r)) := ⟨fun p pins s σ H Q I ⟨ρ, μ, st, fr, h⟩ => by
  simp only [evEs] at h
  refine (pk_cons ha hr).run p pins s σ H Q I (sub_E fr h fun v H1 d1 st1 μ1 n1 fr1 r1 h1 => sub_A (sem := fun ρ st => evEs C ρ r st) fr1 h1 fun vs H2 ds st2 μ2 n2 fr2 r2 h2 => ?_)
  exact h2 (v :: vs) H2 μ2 (NxE.refl fr2.sto) (.cons (r1.ext n2.ext) r2)⟩
theorem tR_of' {α : Type} {o : Option α} {bx : List Nat} {bs : Nat} {μ : Mu} {st : Sto} {H : Hp} {Q : VK} {kk : α → Sto → Res D} (h : tR (relD Z) Z E bx bs μ st H ((Res.of o st).bind kk) Q) : ∃ q, o = some q ∧ tR (relD Z) Z E bx bs μ st H (kk q st) Q := by
  cases o with
  | none => exact h.elim
  | some q => exact ⟨q, rfl, h⟩
theorem cal_of (h : (c.BX.isEmpty || c.top) = true) : c.BX = [] ∨ (c.top = true ∧ X = X) := by
  simp only [Bool.or_eq_true, List.isEmpty_iff] at h
  exact h.imp id fun q => ⟨q, rfl⟩
def esLen : Es → Option Nat
  | .nil => some 0
  | .cons _ r => (esLen r).map (· + 1)
  | .star _ _ => none
theorem evEs_len {C : Cs} {ρ : Env} : ∀ (es : Es) {m : Nat} {st st1 : Sto} {xs : List D}, esLen es = some m → evEs C ρ es st = .ok xs st1 → xs.length = m
  | .nil, _, _, _, _, h, e => by
    simp only [evEs] at e; cases e; simp only [esLen] at h; cases h; rfl
  | .cons a r, _, st, _, _, h, e => by
    simp only [esLen, Option.map_eq_some_iff] at h
    obtain ⟨m, h, rfl⟩ := h
    simp only [evEs] at e
    cases e1 : evE C ρ a st with
    | ok d s1 =>
      rw [e1, Res.bind_ok] at e
      cases e2 : evEs C ρ r s1 with
      | ok ds s2 =>
        rw [e2, Res.bind_ok] at e; cases e
        rw [List.length_cons, evEs_len r h e2]
      | ex _ _ => rw [e2] at e; cases e
      | no => rw [e2] at e; cases e
    | ex _ _ => rw [e1] at e; cases e
    | no => rw [e1] at e; cases e
  | .star _ _, _, _, _, _, h, _ => by cases h
theorem sub_Aq {sem : Env → Sto → Res (List D)} {σ : L2.St} {H : Hp} {ρ : Env} {μ : Mu} {st : Sto} {γ δ : Type} {rel2 : Hp → Mu → δ → γ → Prop} {Q : δ → Hp → Prop} {k : List D → Sto → Res γ} {Q1 : List V → Hp → Prop} (fr : Fr Z c.N c.BX CE σ ρ μ st H)
    (h : tR rel2 Z E ρ.bx ρ.bs μ st H ((sem ρ st).bind k) Q)
    (hk : ∀ v H1 d st1 μ1, sem ρ st = .ok d st1 → NxE Z ρ.bx ρ.bs μ st H μ1 st1 H1 → Fr Z c.N c.BX CE σ ρ μ1 st1 H1 → Reps Z H1 μ1 v d → tR rel2 Z E ρ.bx ρ.bs μ1 st1 H1 (k d st1) Q → Q1 v H1) : tAs Z c.N c.BX CE E sem σ H Q1 := by
  refine ⟨ρ, μ, st, fr, ?_⟩
  cases e : sem ρ st with
  | ok d st' =>
    rw [e] at h
    exact fun v H' μ' n q => hk v H' d st' μ' e n (fr.next n) q (tR_later n h)
  | ex x st' => rw [e] at h; exact h
  | no => rw [e] at h; exact h
section
variable {f : Nat} {es ks : Es} {perm : Option (List Nat)} {nm : Str} {xs : List Expr} {kws : List Keyword} {kn ps : List Str} {p : Pos}
theorem y_callK {kw : Keyword} (G : Good Z C c CE X E) (h0 : (c.BX.isEmpty || c.top) = true) (h1 : glB c.sc nm = true) (h2 : nmOk nm = true) (h3 : (nm, f) ∈ c.g.gf)
    (h4 : keysOf (kw :: kws) = some kn) (h5 : c.g.fps[f]? = some ps) (h6 : (f, xs.length, kn) ∈ c.g.sigs) (h7 : perm = permOf ps xs.length kn) (hx : xs.all okHead = true) (h8 : esLen es = some xs.length) (h9 : esLen ks = some kn.length)
    (ha : PA X xs (YEs Z C c CE E es)) (hk : PK X (kw :: kws) (YEs Z C c CE E ks)) :
    PE X (.Call (.Name nm p) xs (kw :: kws) pos) (YE Z C c CE E (.call f es ks perm)) := by
  refine ⟨fun pins s σ H Q I ⟨ρ, μ, st, fr, h⟩ => ?_⟩
  obtain ⟨q1, q2⟩ := G.gf nm f h3
  have kp := G.kp nm f h3
  obtain ⟨a1, a2, a3⟩ := keys_some (env := X.env) pos h4
  simp only [evE] at h
  have hend : ∀ (H1 : Hp) (vs : List V) (ds : List D) (μ1 : Mu) (st1 : Sto) (us : List Value) (s1 : Shared), Inv X pins σ H1 s1 → Fr Z c.N c.BX CE σ ρ μ1 st1 H1 → Reps Z H1 μ1 vs ds → Vals vs us → ds.length = xs.length →
      tR (relD Z) Z E ρ.bx ρ.bs μ1 st1 H1 ((evEs C ρ ks st1).bind fun zs st => (Res.of (permD perm (ds ++ zs)) st).bind fun ys st => C.fn f ys st) Q →
      wpAny (model X.prog X.w) X.A (evalAll ((backToKw pos (keywordEach (kw :: kws) X.env)).map (·.2))) (fun ws s2 => X.K.In s2.heap ∧ wpAny (model X.prog X.w) X.A (PySem.call (.ref (Z.F f)) us (kn.zip ws)) (EP X pins σ Q) X.xe s2) X.xe s1 := by
    intro H1 vs ds μ1 st1 us s1 I1 fr1 r1 rv hl h1
    refine thn (hk.run pos pins s1 σ H1 (fun zs H2 => ∃ ys st2 μ2, Fr Z c.N c.BX CE σ ρ μ2 st2 H2 ∧ Reps Z H2 μ2 vs ds ∧ Reps Z H2 μ2 zs ys ∧ ys.length = kn.length ∧ tR (relD Z) Z E ρ.bx ρ.bs μ2 st2 H2 ((Res.of (permD perm (ds ++ ys)) st2).bind fun ys st => C.fn f ys st) Q) I1 (sub_Aq (sem := fun ρ st => evEs C ρ ks st) fr1 h1 fun zs H2 ys st2 μ2 ev n2 fr2 r2 h2 => ?_)) fun ws s2 ⟨zs, H2, I2, rz, ys, st2, μ2, fr2, r1', r2', hz, h2⟩ => ⟨I2.kIn, ?_⟩
    · exact ⟨ys, st2, μ2, fr2, Reps.ext n2.ext r1, r2, evEs_len ks h9 ev, h2⟩
    · obtain ⟨args, e1, h3'⟩ := tR_of' h2
      exact G.run X (Sib.refl X) (cal_of h0) f xs.length kn ps h6 h5 pins σ H2 s2 us ws vs zs Q ρ μ2 st2 ds ys args I2 rv rz fr2 r1' r2' hl hz (by rw [← h7]; exact e1) h3'
  refine wpAny_Call_Name_kw (ld_glob I (G.gl h1) q1 ?_ (nm_dbg h2))
  have hz : ((backTo pos (starEach xs X.env)).any (·.1) || (backToKw pos (keywordEach (kw :: kws) X.env)).any (·.1.isNone)) = false := by rw [star_any hx, a3]; rfl
  cases xs with
  | nil =>
    have e0 : evEs C ρ es st = .ok [] st := by
      cases es with
      | nil => simp only [evEs]
      | cons _ r => simp only [esLen, Option.map_eq_some_iff] at h8; obtain ⟨_, _, h8⟩ := h8; cases h8
      | star _ _ => cases h8
    rw [e0, Res.bind_ok] at h
    refine PySem.W.callWith_KW0 (h₀ := X.base) I.ok.mod.kin kp a1 ?_ hz
    rw [a2]
    exact hend H [] [] μ st [] s I fr .nil .nil rfl h
  | cons x0 xs =>
    refine PySem.W.callWith_KW (h₀ := X.base) I.ok.mod.kin kp a1 ?_ hz (star_cons (by simp only [List.all_cons, Bool.and_eq_true] at hx; exact hx.1))
    rw [a2]
    refine thn (ha.run pos pins s σ H (fun vs H1 => ∃ ds st1 μ1, Fr Z c.N c.BX CE σ ρ μ1 st1 H1 ∧ Reps Z H1 μ1 vs ds ∧ ds.length = (x0 :: xs).length ∧ tR (relD Z) Z E ρ.bx ρ.bs μ1 st1 H1 ((evEs C ρ ks st1).bind fun zs st => (Res.of (permD perm (ds ++ zs)) st).bind fun ys st => C.fn f ys st) Q) I
      (sub_Aq (sem := fun ρ st => evEs C ρ es st) fr h fun vs H1 ds st1 μ1 ev n1 fr1 r1 h1 => ⟨ds, st1, μ1, fr1, r1, evEs_len es h8 ev, h1⟩)) fun us s1 ⟨vs, H1, I1, rv, ds, st1, μ1, fr1, r1, hl, h1⟩ => ?_
    exact hend H1 vs ds μ1 st1 us s1 I1 fr1 r1 rv hl h1
theorem y_call0 (G : Good Z C c CE X E) (h0 : (c.BX.isEmpty || c.top) = true) (h1 : glB c.sc nm = true) (h2 : nmOk nm = true) (h3 : (nm, f) ∈ c.g.gf)
    (h5 : c.g.fps[f]? = some ps) (h6 : (f, xs.length, []) ∈ c.g.sigs) (hx : xs.all okHead = true) (h8 : esLen es = some xs.length)
    (ha : PA X xs (YEs Z C c CE E es)) :
    PE X (.Call (.Name nm p) xs [] pos) (YE Z C c CE E (.call f es .nil none)) := by
  refine ⟨fun pins s σ H Q I ⟨ρ, μ, st, fr, h⟩ => ?_⟩
  obtain ⟨q1, q2⟩ := G.gf nm f h3
  have kp := G.kp nm f h3
  simp only [evE] at h
  have hend : ∀ (H1 : Hp) (vs : List V) (ds : List D) (μ1 : Mu) (st1 : Sto) (us : List Value) (s1 : Shared), Inv X pins σ H1 s1 → Fr Z c.N c.BX CE σ ρ μ1 st1 H1 → Reps Z H1 μ1 vs ds → Vals vs us → ds.length = xs.length →
      tR (relD Z) Z E ρ.bx ρ.bs μ1 st1 H1 ((evEs C ρ .nil st1).bind fun zs st => (Res.of (permD none (ds ++ zs)) st).bind fun ys st => C.fn f ys st) Q →
      wpAny (model X.prog X.w) X.A (PySem.call (.ref (Z.F f)) us []) (EP X pins σ Q) X.xe s1 := by
    intro H1 vs ds μ1 st1 us s1 I1 fr1 r1 rv hl h1
    simp only [evEs, Res.bind_ok, permD, Res.of_some, List.append_nil] at h1
    exact G.run X (Sib.refl X) (cal_of h0) f xs.length [] ps h6 h5 pins σ H1 s1 us [] vs [] Q ρ μ1 st1 ds [] ds I1 rv .nil fr1 r1 .nil hl rfl (by simp [permOf, permD]) h1
  refine wpAny_Call_Name_kw (ld_glob I (G.gl h1) q1 ?_ (nm_dbg h2))
  cases xs with
  | nil =>
    have e0 : evEs C ρ es st = .ok [] st := by
      cases es with
      | nil => simp only [evEs]
      | cons _ r => simp only [esLen, Option.map_eq_some_iff] at h8; obtain ⟨_, _, h8⟩ := h8; cases h8
      | star _ _ => cases h8
    rw [e0, Res.bind_ok] at h
    refine PySem.W.callWith_K0 I.kIn kp ?_
    exact hend H [] [] μ st [] s I fr .nil .nil rfl h
  | cons x0 xs =>
    refine PySem.W.callWith_K (h₀ := X.base) I.ok.mod.kin kp ?_ (star_cons (by simp only [List.all_cons, Bool.and_eq_true] at hx; exact hx.1)) (star_any (by simp only [List.all_cons, Bool.and_eq_true] at hx; exact hx.2))
    refine thn (ha.run pos pins s σ H (fun vs H1 => ∃ ds st1 μ1, Fr Z c.N c.BX CE σ ρ μ1 st1 H1 ∧ Reps Z H1 μ1 vs ds ∧ ds.length = (x0 :: xs).length ∧ tR (relD Z) Z E ρ.bx ρ.bs μ1 st1 H1 ((evEs C ρ .nil st1).bind fun zs st => (Res.of (permD none (ds ++ zs)) st).bind fun ys st => C.fn f ys st) Q) I
      (sub_Aq (sem := fun ρ st => evEs C ρ es st) fr h fun vs H1 ds st1 μ1 ev n1 fr1 r1 h1 => ⟨ds, st1, μ1, fr1, r1, evEs_len es h8 ev, h1⟩)) fun us s1 ⟨vs, H1, I1, rv, ds, st1, μ1, fr1, r1, hl, h1⟩ => ⟨I1.kIn, ?_⟩
    exact hend H1 vs ds μ1 st1 us s1 I1 fr1 r1 rv hl h1
end
end Y
end
section
set_option Elab.async false
set_option linter.all false
set_option maxRecDepth 100000
set_option maxHeartbeats 1000000
set_option autoImplicit false
/-! S0: sorted of alike data, the empty tuple ahead let. -/
namespace Y
open PySem PySem.Spec PyProof.Rows L2 LamX NdefX PySem.W PySem.SeqAt PySem.Calls
section
variable {prog : Program} {w : World} {A : Around} {s : Shared} {E : Value → Shared → Prop}
/-- one tuple against another one, as sorting asks where all are of one type -/
theorem oneLt_tup {xs ys : List PyData} {a b : Value} {as bs : List Addr} {Q : Bool → Shared → Prop} (ra : Reads s.heap a (.tuple xs) as) (rb : Reads s.heap b (.tuple ys) bs) (h : alike (.tuple xs) (.tuple ys) = true)
    (hu : A.units + min (PyData.tuple xs).depth (PyData.tuple ys).depth < cLine) (hq : Q (dataLt (.tuple xs) (.tuple ys)) s) : wpAny (model prog w) A (oneLt' true a b) Q E s := by
  have hal : alikeAll xs ys = true := by simpa [alike] using h
  cases ra with
  | @tuple l o vs n _ as₁ h1 h2 h3 h4 =>
    cases rb with
    | @tuple l' o' vs' n' _ bs₁ k1 k2 k3 k4 =>
      have n1 : vs.size = xs.length := by simpa using SeqAt.ReadsAll.length _ _ _ h4
      have n2 : vs'.size = ys.length := by simpa using SeqAt.ReadsAll.length _ _ _ k4
      rw [dataLt_tuple, ← firstLt_toks xs ys hal, ← n1, ← n2] at hq
      obtain ⟨cls, dd, data, sl⟩ := o
      obtain ⟨cls2, dd2, data2, sl2⟩ := o'
      simp only at h2 h3 k2 k3
      subst h2 h3 k2 k3
      rw [oneLt'_eq]
      simp only [if_true]
      refine wpAny_bind (wpAny_cRoomFor (SeqAt.room_here hu) ?_)
      refine wpAny_bind (wpAny_callSpecialIfBound?_slot (T := "tuple") ⟨_, h1, rfl⟩ PySem.F.slot_tuple_lt ?_)
      refine call_meets PySem.F.slot_tuple_lt ⟨_, h1, rfl⟩ PySem.F.entry_tuple_lt (PySem.F.args_tuple_lt_2 _ _) (SeqAt.tuple_ltAt l l' vs vs' n n' dd dd2 sl sl2 (pairEq xs ys) (fun j => dataLt (xs.getD j .none) (ys.getD j .none))) ⟨h1, k1, fun j j1 j2 => ?_, fun j j1 j2 hj => ?_, ?_⟩
      · have := eqAt_alikeAll xs ys A.in1 s vs.toList vs'.toList _ _ h4 k4 hal (SeqAt.room_in hu) j (by simpa using j1) (by simpa using j2)
        simpa using this
      · have := rcLt_alikeAll xs ys A.in1 s vs.toList vs'.toList _ _ h4 k4 hal (SeqAt.room_in hu) j (by simpa using j1) (by simpa using j2) hj
        simpa using this
      · exact wpAny_truthy_bool hq
theorem first_tups {M : Model} : ∀ (vs : List Value) {Q : List (Option Value) → Shared → Prop}, (∀ v ∈ vs, ∃ a o its n, v = .ref a ∧ s.heap.get? a = some o ∧ o.cls = .type "tuple" ∧ o.data = .seq its n) → (∀ os, os.length = vs.length → Q os s) → wpAny M A (vs.mapM firstOfTuple') Q E s
  | [], _, _, h => by rw [List.mapM_nil]; exact wpAny_pure (h [] rfl)
  | v :: vs, Q, t, h => by
    obtain ⟨a, o, xs, n, rfl, ho, hc, hd⟩ := t v (by simp)
    rw [List.mapM_cons]
    refine wpAny_bind ?_
    rw [kas_first_eq]
    refine wpAny_bind (Looks.here (show Looks M s.heap (typeOf (.ref a)) o.cls from (Looks.ld ho).andThen .now) ?_)
    rw [hc, if_neg (by first | decide | simp)]
    refine wpAny_bind (listItems_at ho hd (wpAny_pure ?_))
    exact wpAny_bind (first_tups vs (Q := fun bs s' => wpAny M A (pure (xs[0]? :: bs)) Q E s') (fun v hv => t v (List.mem_cons_of_mem _ hv)) fun os ho => wpAny_pure (h _ (by simp [ho])))
/-- the kind of tuples, the empty one ahead -/
theorem kind_tup0 {vs : List Value} {Q : SortKind → Shared → Prop} (ht : ∀ v ∈ vs, ∃ a o its n, v = .ref a ∧ s.heap.get? a = some o ∧ o.cls = .type "tuple" ∧ o.data = .seq its n)
    {a0 : Addr} {o0 : Obj} {n0 : Nat} {r : List Value} (e0 : vs = .ref a0 :: r) (ho0 : s.heap.get? a0 = some o0) (hc0 : o0.cls = .type "tuple") (hd0 : o0.data = .seq #[] n0) (h : Q oneType' s) : wpAny (model prog w) A (keyKind' vs.toArray) Q E s := by
  have looks : ∀ v ∈ vs, Looks (model prog w) s.heap (typeOf v) (.type "tuple") := fun v hv => by
    obtain ⟨a, o, its, n, rfl, ho, hc, hd⟩ := ht v hv
    exact hc ▸ (Looks.ld ho).andThen .now
  subst e0
  rw [keyKind'_eq, List.mapM_toArray, map_eq_pure_bind, List.mapM_cons]
  refine wpAny_bind (wpAny_bind (wpAny_bind ?_))
  rw [kas_first_eq]
  refine wpAny_bind (Looks.here (looks _ (by simp)) ?_)
  rw [if_neg (by first | decide | simp)]
  refine wpAny_bind (listItems_at ho0 hd0 (wpAny_pure ?_))
  refine wpAny_bind (first_tups r (fun v hv => ht v (List.mem_cons_of_mem _ hv)) fun os ho => wpAny_pure (wpAny_pure ?_))
  rw [if_neg (by simp), if_neg (by simp)]
  rw [oneTypeOnly'_eq, List.mapM_toArray, map_eq_pure_bind]
  refine wpAny_bind (wpAny_bind (wpAny_bind (kas_mapM (r := .type "tuple") _ (fun v hv Q' hq => (looks v hv).here hq) (wpAny_pure ?_))))
  have hall : ((List.map (fun _ => Value.type "tuple") (Value.ref a0 :: r)).toArray.all fun x => x == Value.type "tuple") = true := by
    simp only [List.all_toArray, List.all_map, List.all_eq_true]
    intro _ _
    show (Value.type "tuple" == Value.type "tuple") = true
    decide
  have h0 : (List.map (fun _ => Value.type "tuple") (Value.ref a0 :: r)).toArray[0]? = some (Value.type "tuple") := by simp
  rw [h0]
  simp only [hall, if_true]
  exact wpAny_pure (wpAny_pure h)
/-- all tuples, the first one empty; or as the library asks -/
def Srt0 (ds : List PyData) : Prop := Sortable ds ∨ ∃ r, ds = .tuple [] :: r ∧ ∀ d ∈ ds, ∃ xs, d = .tuple xs
theorem sorts_data {vs : List Value} {ds : List PyData} (e : EachIs (fun v d => ∃ as, Reads s.heap v d as) vs ds) (hal : AllAlike ds) (hk : Srt0 ds) (hu : ∀ d, d ∈ ds → A.units + d.depth < cLine) : SortsAt prog w A s (dataKind s.heap ds) vs := by
  rcases hk with hk | ⟨r, e0, ht⟩
  · exact SortsAt.data e hal hk hu
  · refine ⟨fun v hv => ?_, oneType', ?_, fun h2 E Q hq => ?_⟩
    · obtain ⟨d, hd, as, q⟩ := e.left v hv
      exact ⟨_, dataKind_some hal hd q⟩
    · intro E x y a b Q ha hb hq
      obtain ⟨d, as, hd, ra, rfl⟩ := dataKind_inv ha
      obtain ⟨d', as', hd', rb, rfl⟩ := dataKind_inv hb
      rw [keyLt'_oneType]
      obtain ⟨xs, rfl⟩ := ht d hd
      obtain ⟨ys, rfl⟩ := ht d' hd'
      exact oneLt_tup ra rb (hal _ hd _ hd') (Nat.lt_of_le_of_lt (Nat.add_le_add_left (Nat.min_le_left _ _) _) (hu _ hd)) hq
    · subst e0
      have tups : ∀ v ∈ vs, ∃ a o its n, v = .ref a ∧ s.heap.get? a = some o ∧ o.cls = .type "tuple" ∧ o.data = .seq its n := fun v hv => by
        obtain ⟨d, hd, as, q⟩ := e.left v hv
        obtain ⟨xs, rfl⟩ := ht d hd
        cases q with
        | tuple h1 h2 h3 h4 => exact ⟨_, _, _, _, rfl, h1, h2, h3⟩
      cases e with
      | cons q _ =>
        obtain ⟨as, q⟩ := q
        cases q with
        | @tuple a o its n _ _ g1 g2 g3 h4 =>
          have : its = #[] := by
            have := SeqAt.ReadsAll.length _ _ _ h4
            exact Array.eq_empty_of_size_eq_zero (by simpa using this)
          subst this
          exact kind_tup0 tups rfl g1 g2 g3 hq
/-- sorted(xs) -/
theorem sorted_dt {β : Type} {vs : List Value} {bs : List β} {enc : β → PyData} {R : Value → β → Prop} {l : Addr} {Q : Value → Shared → Prop} (hl : s.heap.IsList l vs.toArray) (e : EachIs R vs bs) (er : EachIs (fun v b => ∃ as, Reads s.heap v (enc b) as) vs bs) (hal : AllAlike (bs.map enc)) (hk : Srt0 (bs.map enc)) (hL : bs.length ≤ sizeLine)
    (hu : ∀ b, b ∈ bs → A.units + 2 + (enc b).depth < cLine) (h : ∀ out, out.length = bs.length → EachIs R out (bs.mergeSort (dataLe false enc)) → Q (.ref (s.heap.objs.size + 1)) { s with heap := sortedAll s.heap vs (List.toArray out) }) :
    wpAny (model prog w) A (call (.builtin "sorted") [.ref l]) Q E s := by
  have er' : EachIs (fun v b => ∃ as, Reads (sortingHeap (copyHeap s.heap vs) (s.heap.objs.size + 1) vs) v (enc b) as) vs bs := er.mono fun _ _ ⟨as, r⟩ => ⟨as, PyProof.Rows.Reads.keeps (fun _ _ => sorting_copy_old) r⟩
  exact sorted_vals hl (sorts_data (s := { s with heap := sortingHeap (copyHeap s.heap vs) (s.heap.objs.size + 1) vs }) (each_map (R := fun v d => ∃ as, Reads (sortingHeap (copyHeap s.heap vs) (s.heap.objs.size + 1) vs) v d as) enc er') hal hk (bound_map hu)) (by rw [e.length]; exact hL)
    (h _ (by rw [sortVals_length false rfl]; exact e.length) (sortVals_data false e er' hal))
end
/-- as a rule of the layer -/
def rSortD (K : PySem.W.Frag) : List V → Hp → VK → Prop := fun vs H Q => ∃ (a : Addr) (xs : List V) (ds : List PyData), vs = [V.ref a] ∧ SqL K H a xs ∧ DpAll K H xs ds ∧ AllAlike ds ∧ Srt0 ds ∧ (∀ d ∈ ds, d.depth ≤ 60) ∧
  ∀ p, H p = none → Q (.ref p) (upd H p (.lst (((xs.zip ds).mergeSort (dataLe false Prod.snd)).map Prod.fst)))
theorem each_zip {K : PySem.W.Frag} {H : Hp} : ∀ {xs : List V} {ds : List PyData} {us : List Value}, DpAll K H xs ds → Vals xs us → EachIs (fun u (b : V × PyData) => RelV b.1 u ∧ Dp K H b.1 b.2) us (xs.zip ds)
  | _, _, _, .nil, h => by cases h; exact .nil
  | _, _, _, .cons d r, h => by
    cases h with
    | cons q t => exact .cons ⟨q, d⟩ (each_zip r t)
theorem dpAll_len {K : PySem.W.Frag} {H : Hp} : ∀ {xs : List V} {ds : List PyData}, DpAll K H xs ds → xs.length = ds.length
  | _, _, .nil => rfl
  | _, _, .cons _ r => by simp [dpAll_len r]
theorem each_vals {K : PySem.W.Frag} {H : Hp} : ∀ {us : List Value} {bs : List (V × PyData)}, EachIs (fun u (b : V × PyData) => RelV b.1 u ∧ Dp K H b.1 b.2) us bs → Vals (bs.map Prod.fst) us
  | _, _, .nil => .nil
  | _, _, .cons q t => .cons q.1 (each_vals t)
theorem cr_sortD {X : Cx} (hu : X.A.units + 64 < cLine) : CallR X (.builtin "sorted") (rSortD X.K) := by
  intro pins s σ H vs us Q I r h
  obtain ⟨a, xs, ds, rfl, hs, hd, hal, hk, hdep, q⟩ := h
  obtain ⟨its, rv, hl, hz⟩ := I.list hs
  obtain ⟨u, rfl, ru⟩ := vals1 r
  obtain rfl : u = Value.ref a := ru
  have hlen := dpAll_len hd
  have e := each_zip hd rv
  have em : (xs.zip ds).map Prod.snd = ds := by rw [List.map_snd_zip]; omega
  refine sorted_dt (bs := xs.zip ds) (enc := Prod.snd) hl.isList e (e.mono fun u b hb => Dp.reads I _ _ _ hb.2 hb.1) (by rw [em]; exact hal) (by rw [em]; exact hk) (by rw [List.length_zip, ← hlen, Nat.min_self]; exact hz) (fun b hb => ?_) fun out h1 h2 => ?_
  · have := hdep b.2 (by rw [← em]; exact List.mem_map_of_mem hb)
    omega
  · have hv := each_vals h2
    obtain ⟨n, hn⟩ := sortedAll_at s.heap its out.toArray
    have hsz : (((xs.zip ds).mergeSort (dataLe false Prod.snd)).map Prod.fst).length ≤ sizeLine := by
      rw [List.length_map, List.length_mergeSort, List.length_zip, ← hlen, Nat.min_self]
      exact hz
    refine ⟨.ref (s.heap.objs.size + 1), upd H (s.heap.objs.size + 1) (.lst (((xs.zip ds).mergeSort (dataLe false Prod.snd)).map Prod.fst)), I.laid (t' := s.toks) (fun b o ho => sortedAll_old ho) (Nat.le_succ _) ⟨hsz, out, n, hv, hn⟩, rfl, q _ (I.hok.fresh (Nat.le_succ _))⟩
end Y
end
section
set_option Elab.async false
set_option linter.all false
set_option maxRecDepth 100000
set_option maxHeartbeats 1000000
set_option autoImplicit false
/-! S1: zip of two, of three, lists and tuples in any mix, to a target of one name. -/
namespace ZN
open PySem PySem.Spec PyProof.Rows L2
open Sem (wp)
/-- a zip's own object, whatever it has given out -/
abbrev IsZipG (h : Heap) (z TI TO : Addr) (f0 : Value) (f : Bool) : Prop :=
  h.get? z = some { cls := .type "zip", dict := none, data := .fields #[f0, .bool f, .bool false, .ref TI, .ref TO], slots := #[] }
def Out (f0 : Value) : Prop := f0 = .none ∨ ∃ T : Addr, f0 = rawInt T
section
variable {prog : Program} {w : World} {A : Around} {E : Value → Shared → Prop} {s : Shared}
theorem alive_any {a : Addr} {Q : Option Obj → Shared → Prop} (h : Q (s.heap.get? a) s) : wpAny (model prog w) A (loadIfAlive a) Q E s := fun _ _ _ => h
theorem wpAny_isFree {z TI TO : Addr} {f0 : Value} {f : Bool} {Q : Bool → Shared → Prop} (hz : IsZipG s.heap z TI TO f0 f) (ho : Out f0) (h1 : Q true s)
    (h2 : ∀ h' f', IsZipG h' z TI TO f0 f' → Heap.SameBut z s.heap h' → Q false { s with heap := h' }) : wpAny (model prog w) A (Builtin.SmallTypes.ownedTupleIsFree (.ref z)) Q E s := by
  unfold Builtin.SmallTypes.ownedTupleIsFree
  rcases ho with rfl | ⟨T, rfl⟩
  · exact wpAny_bind (wpAny_field hz rfl (x := .none) rfl (wpAny_pure h1))
  · refine wpAny_bind (wpAny_field hz rfl (x := rawInt T) rfl ?_)
    show wpAny _ _ (loadIfAlive ((T : Int).toNat) >>= _) _ _ _
    rw [Int.toNat_natCast]
    refine wpAny_bind (alive_any ?_)
    cases hT : s.heap.get? T with
    | none => 
      simp only [Option.isNone_none, if_true]
      exact wpAny_pure h1
    | some oT =>
      simp only [Option.isNone_some, Bool.false_eq_true, if_false]
      refine wpAny_bind (wpAny_field hz rfl (x := .bool f) rfl ?_)
      cases f with
      | true =>
        rw [if_neg (show ¬ ((Value.bool true != Value.bool true) = true) from Bool.false_ne_true)]
        exact wpAny_pure (h2 s.heap true hz (Heap.SameBut.refl _ _))
      | false =>
        rw [if_pos (show (Value.bool false != Value.bool true) = true from rfl)]
        exact wpAny_bind (wpAny_setField_rec hz (by simp) fun h₁ hz₁ hs₁ => wpAny_pure (h2 h₁ true hz₁ hs₁))
end
/-! ### the sources: a list (false), a tuple (true) -/
def ItK : Bool → Heap → Addr → Addr → Nat → Prop
  | false, h, it, a, i => h.IsListIter it a i
  | true, h, it, a, i => h.IsTupleIter it a i
def AtK : Bool → Heap → Addr → Array Value → Prop
  | false, h, a, xs => h.IsList a xs
  | true, h, a, xs => h.IsTuple a xs
def SqK (K : PySem.W.Frag) : Bool → Hp → Addr → List V → Prop
  | false, H, a, xs => SqL K H a xs
  | true, H, a, xs => SqT K H a xs
def obK : Bool → Addr → Obj
  | false, a => { cls := .type "list_iterator", data := .fields #[.ref a, .int 0 0] }
  | true, a => { cls := .type "tuple_iterator", data := .fields #[.ref a, .int 0 0] }
theorem ItK.obj : ∀ {k : Bool} {h : Heap} {it a : Addr} {i : Nat}, ItK k h it a i → ∃ o vs, h.get? it = some o ∧ o.data = .fields vs
  | false, _, _, _, _, ⟨o, e, _, d⟩ => ⟨o, _, e, d⟩
  | true, _, _, _, _, ⟨o, e, _, d⟩ => ⟨o, _, e, d⟩
theorem ItK.lt {k : Bool} {h : Heap} {it a : Addr} {i : Nat} (x : ItK k h it a i) : it < h.objs.size := let ⟨_, _, e, _⟩ := x.obj; Heap.lt_size e
theorem ItK.at : ∀ {k : Bool} {h h' : Heap} {it a : Addr} {i : Nat}, ItK k h it a i → (∀ o, h.get? it = some o → h'.get? it = some o) → ItK k h' it a i
  | false, _, _, _, _, _, x, k => Heap.IsListIter.at x k
  | true, _, _, _, _, _, x, k => Heap.IsTupleIter.at x k
theorem AtK.at : ∀ {k : Bool} {h h' : Heap} {a : Addr} {xs : Array Value}, AtK k h a xs → (∀ o, h.get? a = some o → h'.get? a = some o) → AtK k h' a xs
  | false, _, _, _, _, x, k => Heap.IsList.at x k
  | true, _, _, _, _, x, k => Heap.IsTuple.at x k
theorem AtK.lt : ∀ {k : Bool} {h : Heap} {a : Addr} {xs : Array Value}, AtK k h a xs → a < h.objs.size
  | false, _, _, _, ⟨_, e, _⟩ => Heap.lt_size e
  | true, _, _, _, ⟨_, e, _⟩ => Heap.lt_size e
theorem AtK.ne : ∀ {k k' : Bool} {h : Heap} {it a b : Addr} {i : Nat} {xs : Array Value}, AtK k h a xs → ItK k' h it b i → a ≠ it
  | false, false, _, _, _, _, _, _, ⟨_, e, _, _, d⟩, ⟨_, e2, _, d2⟩ => fun q => by subst q; rw [e] at e2; cases e2; rw [d] at d2; cases d2
  | false, true, _, _, _, _, _, _, ⟨_, e, _, _, d⟩, ⟨_, e2, _, d2⟩ => fun q => by subst q; rw [e] at e2; cases e2; rw [d] at d2; cases d2
  | true, false, _, _, _, _, _, _, ⟨_, e, _, _, d⟩, ⟨_, e2, _, d2⟩ => fun q => by subst q; rw [e] at e2; cases e2; rw [d] at d2; cases d2
  | true, true, _, _, _, _, _, _, ⟨_, e, _, _, d⟩, ⟨_, e2, _, d2⟩ => fun q => by subst q; rw [e] at e2; cases e2; rw [d] at d2; cases d2
theorem AtK.neF : ∀ {k : Bool} {h : Heap} {a z : Addr} {xs : Array Value} {o : Obj} {vs : Array Value}, AtK k h a xs → h.get? z = some o → o.data = .fields vs → a ≠ z
  | false, _, _, _, _, _, _, ⟨_, e, _, _, d⟩, e2, d2 => fun q => by subst q; rw [e] at e2; cases e2; rw [d] at d2; cases d2
  | true, _, _, _, _, _, _, ⟨_, e, _, _, d⟩, e2, d2 => fun q => by subst q; rw [e] at e2; cases e2; rw [d] at d2; cases d2
structure Dr (prog : Program) (w : World) (A : Around) (it : Addr) (fp : List Addr) (n : Nat) (P : Nat → Value → Prop) (St : Nat → Heap → Prop) : Prop extends Draws prog w A it fp n P St where
  past : ∀ i (s : Shared) (Q : Value → Shared → Prop) (E : Value → Shared → Prop), n ≤ i → St i s.heap →
    (∀ h' e, Heap.ExtBut it s.heap h' → (∃ o, h'.get? e = some o ∧ o.cls = .type "StopIteration") → E (.ref e) { s with heap := h' }) → wpAny (model prog w) A (Builtin.SmallTypes.nextOf (.ref it)) Q E s
theorem drawsK {prog : Program} {w : World} {A : Around} (hh : A.handled = none) (it a : Addr) (hne : a ≠ it) (xs : Array Value) : ∀ k : Bool,
    Dr prog w A it [it, a] xs.size (fun i v => xs[i]? = some v) (fun i h => ItK k h it a i ∧ AtK k h a xs)
  | false => { toDraws := Draws.list hh it a hne xs, past := fun i s Q E hi st hE => wpAny_nextOf_list_end hh st.1 st.2 (by simp; omega) hE }
  | true => { toDraws := Draws.tuple hh it a hne xs, past := fun i s Q E hi st hE => wpAny_nextOf_tuple_end hh st.1 st.2 (by simp; omega) hE }
theorem beginsK (a : Addr) (xs : Array Value) : ∀ k : Bool, Begins (.ref a) (obK k a) fun h => AtK k h a xs
  | false => begins_list a xs
  | true => begins_tuple a xs
theorem itK_of : ∀ {k : Bool} {h : Heap} {it a : Addr}, h.get? it = some (obK k a) → ItK k h it a 0
  | false, _, _, _, e => ⟨_, e, rfl, rfl⟩
  | true, _, _, _, e => ⟨_, e, rfl, rfl⟩
theorem seqK {X : Cx} {pins : List (Addr × Obj)} {σ : L2.St} {H : Hp} {s : Shared} (I : Inv X pins σ H s) : ∀ {k : Bool} {a : Addr} {xs : List V}, SqK X.K k H a xs → ∃ its : List Value, Vals xs its ∧ AtK k s.heap a its.toArray
  | false, _, _, h => by obtain ⟨its, r, p, _⟩ := I.list h; exact ⟨its, r, p.isList⟩
  | true, _, _, h => by obtain ⟨its, r, p, _⟩ := I.tuple h; exact ⟨its, r, p⟩
theorem injK {X : Cx} {pins : List (Addr × Obj)} {σ : L2.St} {H : Hp} {s : Shared} (I : Inv X pins σ H s) : ∀ {k : Bool} {a : Addr} {xs ys : List V}, SqK X.K k H a xs → SqK X.K k H a ys → xs = ys
  | false, _, _, _, h, h' => I.list_inj h h'
  | true, _, _, _, h, h' => I.tuple_inj h h'
theorem self_zip {prog : Program} {w : World} {A : Around} {E : Value → Shared → Prop} {s : Shared} {z TI TO : Addr} {f0 : Value} {f : Bool} {Q : Value → Shared → Prop} (hz : IsZipG s.heap z TI TO f0 f) (h : Q (.ref z) s) : wpAny (model prog w) A (pyIter (.ref z)) Q E s := by
  have hT : s.TypeIs (.ref z) "zip" := ⟨_, hz, rfl⟩
  refine wpAny_pyIter_slot hT F.slot_zip_iter (wpAny_call_entry F.slot_zip_iter hT F.entry_zip_iter ?_ (F.args_zip_iter_1 _))
  show wpAny _ _ (ret (.ref z)) _ _ s
  exact wpAny_pure ⟨_, rfl, "zip", _, hT, F.slot_zip_next.lookup, h⟩
theorem ne_add {N j k : Nat} (h : N + j ≠ N + k) : (N + j : Nat) ≠ N + k := h
theorem vals2' {a b : V} {us : List Value} (r : Vals [a, b] us) : ∃ u v, us = [u, v] ∧ RelV a u ∧ RelV b v := by
  cases r with | cons h t => cases t with | cons h2 t => cases t; exact ⟨_, _, rfl, h, h2⟩
theorem vals3' {a b c : V} {us : List Value} (r : Vals [a, b, c] us) : ∃ u v w, us = [u, v, w] ∧ RelV a u ∧ RelV b v ∧ RelV c w := by
  cases r with | cons h t => cases t with | cons h2 t => cases t with | cons h3 t => cases t; exact ⟨_, _, _, rfl, h, h2, h3⟩
section
variable {prog : Program} {w : World} {A : Around} {E : Value → Shared → Prop} {s : Shared} {z TI TO i1 i2 : Addr} {fp1 fp2 : List Addr} {n1 n2 i : Nat} {P1 P2 : Nat → Value → Prop} {St1 St2 : Nat → Heap → Prop} {a1 a2 : Value} {f0 : Value} {f : Bool}
theorem zip2_next_item {Q : Value → Shared → Prop} (S : ZipSep2 z TI TO i1 i2 fp1 fp2) (D1 : Draws prog w A i1 fp1 n1 P1 St1) (D2 : Draws prog w A i2 fp2 n2 P2 St2)
    (hz : IsZipG s.heap z TI TO f0 f) (ho : Out f0) (hTI : IsTupOf2 s.heap TI (.ref i1) (.ref i2)) (hTO : IsTupOf2 s.heap TO a1 a2) (st1 : St1 i s.heap) (st2 : St2 i s.heap) (hlt1 : i < n1) (hlt2 : i < n2)
    (hQ : ∀ x1 x2 h' tk f0' f', P1 i x1 → P2 i x2 → IsZipG h' z TI TO f0' f' → Out f0' → (∃ b1 b2, IsTupOf2 h' TO b1 b2) → St1 (i + 1) h' → St2 (i + 1) h' → IsTupOf2 h' s.heap.objs.size x1 x2 → h'.objs.size = s.heap.objs.size + 1 →
      (∀ c o, c ≠ z → c ≠ TO → c ≠ i1 → c ≠ i2 → s.heap.get? c = some o → h'.get? c = some o) → Q (.ref s.heap.objs.size) { s with heap := h', toks := tk }) :
    wpAny (model prog w) A (Builtin.«zip.__next__» ⟨[.ref z], []⟩) (fun fin s' => ∃ v, fin = .done (.ret v) ∧ Q v s') E s := by
  obtain ⟨hp, g, d, tk0, os⟩ := s
  show wpAny _ _ (field (.ref z) 2 >>= _) _ _ _
  refine wpAny_bind (wpAny_field hz rfl (x := .bool false) rfl ?_)
  show wpAny _ _ (field (.ref z) 3 >>= _) _ _ _
  refine wpAny_bind (wpAny_field hz rfl (x := .ref TI) rfl ?_)
  refine wpAny_bind (wpAny_seqItems hTI rfl ?_)
  show wpAny _ _ (Builtin.SmallTypes.ownedTupleIsFree (.ref z) >>= _) _ _ _
  refine wpAny_bind (wpAny_isFree hz ho ?_ ?_)
  · simp only [if_true]
    refine wpAny_bind (wpAny_rule ?_)
    refine wpAny_bind (wpAny_field hz rfl (x := .ref TO) rfl ?_)
    refine wpAny_bind (wpAny_setField_rec hz (by simp) fun g0 hz0 hs0 => ?_)
    replace hz0 : IsZipG g0 z TI TO .ellipsis f := hz0
    replace hs0 : Heap.SameBut z hp g0 := hs0
    refine wpAny_bind ?_
    simp only [List.zipIdx_cons, List.zipIdx_nil, List.forIn_cons, List.forIn_nil]
    refine wpAny_bind (wpAny_bind (wpAny_onRaise ?_))
    show wpAny _ _ (Builtin.SmallTypes.nextOf (.ref i1) >>= _) _ _ ⟨g0, g, d, tk0, os⟩
    refine wpAny_bind (D1.item i _ _ _ hlt1 (D1.over st1 hs0 S.zf1) fun x1 p1 tk1 hx1 sn1 hp1 => wpAny_pure ?_)
    replace hp1 : Heap.SameBut i1 g0 p1 := hp1
    have hU1 : IsTupOf2 p1 TO a1 a2 := hp1.extBut _ _ S.Ti1 (hs0.extBut _ _ S.TOz hTO)
    refine wpAny_bind (wpAny_seqItems (s := ⟨p1, g, d, tk1, os⟩) hU1 rfl ?_)
    refine wpAny_bind (updateSeq_IsTupOf2 (s := ⟨p1, g, d, tk1, os⟩) hU1 fun g1 hT1 hs1 => ?_)
    replace hT1 : IsTupOf2 g1 TO x1 a2 := hT1
    replace hs1 : Heap.SameBut TO p1 g1 := hs1
    refine wpAny_bind (wpAny_letGo (wpAny_pure ?_))
    refine wpAny_bind (wpAny_bind (wpAny_onRaise ?_))
    show wpAny _ _ (Builtin.SmallTypes.nextOf (.ref i2) >>= _) _ _ ⟨g1, g, d, tk1, os⟩
    refine wpAny_bind (D2.item i _ _ _ hlt2 (D2.over (D2.over (D2.over st2 hs0 S.zf2) hp1 S.sep1_2) hs1 S.Tf2) fun x2 p2 tk2 hx2 sn2 hp2 => wpAny_pure ?_)
    replace hp2 : Heap.SameBut i2 g1 p2 := hp2
    have hU2 : IsTupOf2 p2 TO x1 a2 := hp2.extBut _ _ S.Ti2 hT1
    refine wpAny_bind (wpAny_seqItems (s := ⟨p2, g, d, tk2, os⟩) hU2 rfl ?_)
    refine wpAny_bind (updateSeq_IsTupOf2 (s := ⟨p2, g, d, tk2, os⟩) hU2 fun g2 hT2 hs2 => ?_)
    replace hT2 : IsTupOf2 g2 TO x1 x2 := hT2
    replace hs2 : Heap.SameBut TO p2 g2 := hs2
    refine wpAny_bind (wpAny_letGo (wpAny_pure (wpAny_pure ?_)))
    refine wpAny_bind (wpAny_seqItems (s := ⟨g2, g, d, tk2, os⟩) hT2 rfl ?_)
    refine wpAny_bind (wpAny_newTuple ?_)
    have hsz : g2.objs.size = hp.objs.size := by rw [hs2.1, hp2.1, hs1.1, hp1.1, hs0.1]
    have hzz : IsZipG g2 z TI TO .ellipsis f := (hs2.extBut _ _ S.TOz.symm (hp2.extBut _ _ S.zi2 (hs1.extBut _ _ S.TOz.symm (hp1.extBut _ _ S.zi1 hz0))))
    have hkk : ∀ c o, c ≠ z → c ≠ TO → c ≠ i1 → c ≠ i2 → hp.get? c = some o → g2.get? c = some o := fun c o cz cT c1 c2 e => (hs2.extBut _ _ cT (hp2.extBut _ _ c2 (hs1.extBut _ _ cT (hp1.extBut _ _ c1 (hs0.extBut _ _ cz e)))))
    have hj1 : St1 (i + 1) g2 := (D1.over (D1.over (D1.over sn1 hs1 S.Tf1) hp2 S.sep2_1) hs2 S.Tf1)
    have hj2 : St2 (i + 1) g2 := (D2.over sn2 hs2 S.Tf2)
    have hzlt : z < g2.objs.size := Heap.lt_size hzz
    show wpAny _ _ (Builtin.SmallTypes.ownedTupleHandOut (.ref z) (.ref g2.objs.size) >>= _) _ _ ⟨g2.push { cls := .type "tuple", data := .seq #[x1, x2] }, g, d, tk2, os⟩
    refine wpAny_bind ?_
    unfold Builtin.SmallTypes.ownedTupleHandOut
    have hz₆ : IsZipG (g2.push { cls := .type "tuple", data := .seq #[x1, x2] }) z TI TO .ellipsis f := Heap.get?_push_of_some _ hzz
    refine wpAny_bind (wpAny_setField_rec hz₆ (by simp) fun h₇ hz₇ hs₇ => ?_)
    replace hz₇ : IsZipG h₇ z TI TO (rawInt g2.objs.size) f := hz₇
    refine wpAny_setField_rec hz₇ (by simp) fun h₈ hz₈ hs₈ => ?_
    replace hz₈ : IsZipG h₈ z TI TO (rawInt g2.objs.size) false := hz₈
    replace hs₇ : Heap.SameBut z (g2.push { cls := .type "tuple", data := .seq #[x1, x2] }) h₇ := hs₇
    replace hs₈ : Heap.SameBut z h₇ h₈ := hs₈
    have up : ∀ c o, c ≠ z → g2.get? c = some o → h₈.get? c = some o := fun c o c1 e => hs₈.extBut _ _ c1 (hs₇.extBut _ _ c1 (Heap.get?_push_of_some _ e))
    have hT₈ : IsTupOf2 h₈ g2.objs.size x1 x2 := hs₈.extBut _ _ (Nat.ne_of_gt hzlt) (hs₇.extBut _ _ (Nat.ne_of_gt hzlt) (Heap.get?_push_size _ rfl))
    have hz8 : h₈.objs.size = g2.objs.size + 1 := by rw [hs₈.1, hs₇.1, Heap.size_push]
    rw [hsz] at hz₈ hT₈ hz8
    refine wpAny_pure ⟨_, rfl, ?_⟩
    show Q (.ref g2.objs.size) ⟨h₈, g, d, tk2, os⟩
    rw [hsz]
    exact hQ x1 x2 h₈ tk2 _ _ hx1 hx2 hz₈ (.inr ⟨_, rfl⟩) ⟨_, _, up _ _ S.TOz hT2⟩ (D1.frame _ _ _ hj1 fun b hb o e => up b o (fun q => S.zf1 (q ▸ hb)) e) (D2.frame _ _ _ hj2 fun b hb o e => up b o (fun q => S.zf2 (q ▸ hb)) e) hT₈ hz8 fun c o cz cT c1 c2 e => up c o cz (hkk c o cz cT c1 c2 e)
  · intro g0 f' hz0 hs0
    replace hz0 : IsZipG g0 z TI TO f0 f' := hz0
    replace hs0 : Heap.SameBut z hp g0 := hs0
    simp only [Bool.false_eq_true, if_false]
    refine wpAny_bind ?_
    rw [← Array.forIn_toList]
    simp only [List.forIn_cons, List.forIn_nil]
    refine wpAny_bind (wpAny_bind (wpAny_holding ?_))
    show wpAny _ _ (Builtin.SmallTypes.nextOf (.ref i1) >>= _) _ _ ⟨g0, g, d, tk0, os⟩
    refine wpAny_bind (D1.item i _ _ _ hlt1 (D1.over st1 hs0 S.zf1) fun x1 p1 tk1 hx1 sn1 hp1 => wpAny_pure ?_)
    replace hp1 : Heap.SameBut i1 g0 p1 := hp1
    refine wpAny_pure ?_
    refine wpAny_bind (wpAny_bind (wpAny_holding ?_))
    show wpAny _ _ (Builtin.SmallTypes.nextOf (.ref i2) >>= _) _ _ ⟨p1, g, d, tk1, os⟩
    refine wpAny_bind (D2.item i _ _ _ hlt2 (D2.over (D2.over st2 hs0 S.zf2) hp1 S.sep1_2) fun x2 p2 tk2 hx2 sn2 hp2 => wpAny_pure ?_)
    replace hp2 : Heap.SameBut i2 p1 p2 := hp2
    refine wpAny_pure (wpAny_pure ?_)
    show wpAny _ _ (newTuple [x1, x2] >>= _) _ _ ⟨p2, g, d, tk2, os⟩
    refine wpAny_bind (wpAny_newTuple ?_)
    have hsz : p2.objs.size = hp.objs.size := by rw [hp2.1, hp1.1, hs0.1]
    have hzz : IsZipG p2 z TI TO f0 f' := (hp2.extBut _ _ S.zi2 (hp1.extBut _ _ S.zi1 hz0))
    have hUU : IsTupOf2 p2 TO a1 a2 := (hp2.extBut _ _ S.Ti2 (hp1.extBut _ _ S.Ti1 (hs0.extBut _ _ S.TOz hTO)))
    have hkk : ∀ c o, c ≠ z → c ≠ TO → c ≠ i1 → c ≠ i2 → hp.get? c = some o → p2.get? c = some o := fun c o cz cT c1 c2 e => (hp2.extBut _ _ c2 (hp1.extBut _ _ c1 (hs0.extBut _ _ cz e)))
    have hj1 : St1 (i + 1) p2 := (D1.over sn1 hp2 S.sep2_1)
    have hj2 : St2 (i + 1) p2 := sn2
    refine wpAny_pure ⟨_, rfl, ?_⟩
    show Q (.ref p2.objs.size) _
    have up : ∀ c o, p2.get? c = some o → (p2.push { cls := .type "tuple", data := .seq #[x1, x2] }).get? c = some o := fun c o e => Heap.get?_push_of_some _ e
    have hTn : IsTupOf2 (p2.push { cls := .type "tuple", data := .seq #[x1, x2] }) p2.objs.size x1 x2 := Heap.get?_push_size _ rfl
    have hz8 : (p2.push { cls := .type "tuple", data := .seq #[x1, x2] }).objs.size = p2.objs.size + 1 := Heap.size_push ..
    rw [hsz] at hTn hz8 ⊢
    exact hQ x1 x2 _ tk2 _ _ hx1 hx2 (up _ _ hzz) ho ⟨_, _, up _ _ hUU⟩ (D1.frame _ _ _ hj1 fun b hb o e => up b o e) (D2.frame _ _ _ hj2 fun b hb o e => up b o e) hTn hz8 fun c o cz cT c1 c2 e => up c o (hkk c o cz cT c1 c2 e)
theorem zip2_next_end {Q : Fin → Shared → Prop} (S : ZipSep2 z TI TO i1 i2 fp1 fp2) (D1 : Dr prog w A i1 fp1 n1 P1 St1) (D2 : Dr prog w A i2 fp2 n2 P2 St2)
    (hz : IsZipG s.heap z TI TO f0 f) (ho : Out f0) (hTI : IsTupOf2 s.heap TI (.ref i1) (.ref i2)) (hTO : IsTupOf2 s.heap TO a1 a2) (st1 : St1 i s.heap) (st2 : St2 i s.heap) (hend : n1 ≤ i ∨ n2 ≤ i)
    (hE : ∀ h' tk e, (∀ c o, c ≠ z → c ≠ TO → c ≠ i1 → c ≠ i2 → s.heap.get? c = some o → h'.get? c = some o) → (∃ o, h'.get? e = some o ∧ o.cls = .type "StopIteration") → E (.ref e) { s with heap := h', toks := tk }) :
    wpAny (model prog w) A (Builtin.«zip.__next__» ⟨[.ref z], []⟩) Q E s := by
  obtain ⟨hp, g, d, tk0, os⟩ := s
  show wpAny _ _ (field (.ref z) 2 >>= _) _ _ _
  refine wpAny_bind (wpAny_field hz rfl (x := .bool false) rfl ?_)
  show wpAny _ _ (field (.ref z) 3 >>= _) _ _ _
  refine wpAny_bind (wpAny_field hz rfl (x := .ref TI) rfl ?_)
  refine wpAny_bind (wpAny_seqItems hTI rfl ?_)
  show wpAny _ _ (Builtin.SmallTypes.ownedTupleIsFree (.ref z) >>= _) _ _ _
  refine wpAny_bind (wpAny_isFree hz ho ?_ ?_)
  · simp only [if_true]
    refine wpAny_bind (wpAny_rule ?_)
    refine wpAny_bind (wpAny_field hz rfl (x := .ref TO) rfl ?_)
    refine wpAny_bind (wpAny_setField_rec hz (by simp) fun g0 hz0 hs0 => ?_)
    replace hz0 : IsZipG g0 z TI TO .ellipsis f := hz0
    replace hs0 : Heap.SameBut z hp g0 := hs0
    refine wpAny_bind ?_
    simp only [List.zipIdx_cons, List.zipIdx_nil, List.forIn_cons, List.forIn_nil]
    refine wpAny_bind (wpAny_bind (wpAny_onRaise ?_))
    show wpAny _ _ (Builtin.SmallTypes.nextOf (.ref i1) >>= _) _ _ ⟨g0, g, d, tk0, os⟩
    by_cases hlt1 : i < n1
    · refine wpAny_bind (D1.item i _ _ _ hlt1 (D1.over st1 hs0 S.zf1) fun x1 p1 tk1 hx1 sn1 hp1 => wpAny_pure ?_)
      replace hp1 : Heap.SameBut i1 g0 p1 := hp1
      have hU1 : IsTupOf2 p1 TO a1 a2 := hp1.extBut _ _ S.Ti1 (hs0.extBut _ _ S.TOz hTO)
      refine wpAny_bind (wpAny_seqItems (s := ⟨p1, g, d, tk1, os⟩) hU1 rfl ?_)
      refine wpAny_bind (updateSeq_IsTupOf2 (s := ⟨p1, g, d, tk1, os⟩) hU1 fun g1 hT1 hs1 => ?_)
      replace hT1 : IsTupOf2 g1 TO x1 a2 := hT1
      replace hs1 : Heap.SameBut TO p1 g1 := hs1
      refine wpAny_bind (wpAny_letGo (wpAny_pure ?_))
      refine wpAny_bind (wpAny_bind (wpAny_onRaise ?_))
      show wpAny _ _ (Builtin.SmallTypes.nextOf (.ref i2) >>= _) _ _ ⟨g1, g, d, tk1, os⟩
      have hi2 : n2 ≤ i := by omega
      refine wpAny_bind (D2.past i ⟨g1, g, d, tk1, os⟩ _ _ hi2 (D2.over (D2.over (D2.over st2 hs0 S.zf2) hp1 S.sep1_2) hs1 S.Tf2) fun q e hq he => ?_)
      replace hq : Heap.ExtBut i2 g1 q := hq
      obtain ⟨oe, hoe, hce⟩ := he
      replace hoe : q.get? e = some oe := hoe
      have hzq : IsZipG q z TI TO .ellipsis f := hq _ _ S.zi2 (hs1.extBut _ _ S.TOz.symm (hp1.extBut _ _ S.zi1 hz0))
      have hez : e ≠ z := fun x => by subst x; rw [hzq] at hoe; cases hoe; simp at hce
      refine wpAny_setField_rec (s := ⟨q, g, d, tk1, os⟩) hzq (by simp) fun q' _ hq' => ?_
      replace hq' : Heap.SameBut z q q' := hq'
      exact hE q' tk1 e (fun c o cz cT c1 c2 x => hq'.extBut _ _ cz (hq _ _ c2 (hs1.extBut _ _ cT (hp1.extBut _ _ c1 (hs0.extBut _ _ cz x))))) ⟨oe, hq'.extBut _ _ hez hoe, hce⟩
    · have hi1 : n1 ≤ i := by omega
      refine wpAny_bind (D1.past i ⟨g0, g, d, tk0, os⟩ _ _ hi1 (D1.over st1 hs0 S.zf1) fun q e hq he => ?_)
      replace hq : Heap.ExtBut i1 g0 q := hq
      obtain ⟨oe, hoe, hce⟩ := he
      replace hoe : q.get? e = some oe := hoe
      have hzq : IsZipG q z TI TO .ellipsis f := hq _ _ S.zi1 hz0
      have hez : e ≠ z := fun x => by subst x; rw [hzq] at hoe; cases hoe; simp at hce
      refine wpAny_setField_rec (s := ⟨q, g, d, tk0, os⟩) hzq (by simp) fun q' _ hq' => ?_
      replace hq' : Heap.SameBut z q q' := hq'
      exact hE q' tk0 e (fun c o cz cT c1 c2 x => hq'.extBut _ _ cz (hq _ _ c1 (hs0.extBut _ _ cz x))) ⟨oe, hq'.extBut _ _ hez hoe, hce⟩
  · intro g0 f' hz0 hs0
    replace hz0 : IsZipG g0 z TI TO f0 f' := hz0
    replace hs0 : Heap.SameBut z hp g0 := hs0
    simp only [Bool.false_eq_true, if_false]
    refine wpAny_bind ?_
    rw [← Array.forIn_toList]
    simp only [List.forIn_cons, List.forIn_nil]
    refine wpAny_bind (wpAny_bind (wpAny_holding ?_))
    show wpAny _ _ (Builtin.SmallTypes.nextOf (.ref i1) >>= _) _ _ ⟨g0, g, d, tk0, os⟩
    by_cases hlt1 : i < n1
    · refine wpAny_bind (D1.item i _ _ _ hlt1 (D1.over st1 hs0 S.zf1) fun x1 p1 tk1 hx1 sn1 hp1 => wpAny_pure ?_)
      replace hp1 : Heap.SameBut i1 g0 p1 := hp1
      refine wpAny_pure ?_
      refine wpAny_bind (wpAny_bind (wpAny_holding ?_))
      show wpAny _ _ (Builtin.SmallTypes.nextOf (.ref i2) >>= _) _ _ ⟨p1, g, d, tk1, os⟩
      have hi2 : n2 ≤ i := by omega
      refine wpAny_bind (D2.past i ⟨p1, g, d, tk1, os⟩ _ _ hi2 (D2.over (D2.over st2 hs0 S.zf2) hp1 S.sep1_2) fun q e hq he => ?_)
      replace hq : Heap.ExtBut i2 p1 q := hq
      exact hE q tk1 e (fun c o cz cT c1 c2 x => hq _ _ c2 (hp1.extBut _ _ c1 (hs0.extBut _ _ cz x))) he
    · have hi1 : n1 ≤ i := by omega
      refine wpAny_bind (D1.past i ⟨g0, g, d, tk0, os⟩ _ _ hi1 (D1.over st1 hs0 S.zf1) fun q e hq he => ?_)
      replace hq : Heap.ExtBut i1 g0 q := hq
      exact hE q tk0 e (fun c o cz cT c1 c2 x => hq _ _ c1 (hs0.extBut _ _ cz x)) he
theorem zip2_item {Q : Option Value → Shared → Prop} (S : ZipSep2 z TI TO i1 i2 fp1 fp2) (D1 : Draws prog w A.in1 i1 fp1 n1 P1 St1) (D2 : Draws prog w A.in1 i2 fp2 n2 P2 St2)
    (hz : IsZipG s.heap z TI TO f0 f) (ho : Out f0) (hTI : IsTupOf2 s.heap TI (.ref i1) (.ref i2)) (hTO : IsTupOf2 s.heap TO a1 a2) (st1 : St1 i s.heap) (st2 : St2 i s.heap) (hlt1 : i < n1) (hlt2 : i < n2)
    (hQ : ∀ x1 x2 h' tk f0' f', P1 i x1 → P2 i x2 → IsZipG h' z TI TO f0' f' → Out f0' → (∃ b1 b2, IsTupOf2 h' TO b1 b2) → St1 (i + 1) h' → St2 (i + 1) h' → IsTupOf2 h' s.heap.objs.size x1 x2 → h'.objs.size = s.heap.objs.size + 1 →
      (∀ c o, c ≠ z → c ≠ TO → c ≠ i1 → c ≠ i2 → s.heap.get? c = some o → h'.get? c = some o) → Q (some (.ref s.heap.objs.size)) { s with heap := h', toks := tk }) : wpAny (model prog w) A (pyNext (.ref z)) Q E s := by
  have hT : s.TypeIs (.ref z) "zip" := ⟨_, hz, rfl⟩
  unfold pyNext
  exact wpAny_bind (wpAny_attempt (wpAny_callSpecial?_slot (name := Str.ofString "__next__") hT F.slot_zip_next
    (wpAny_call_entry F.slot_zip_next hT F.entry_zip_next
      (zip2_next_item S D1 D2 hz ho hTI hTO st1 st2 hlt1 hlt2 fun x1 x2 h' tk f0' f' y1 y2 b1 b2 b3 d1 d2 b5 b6 b7 => wpAny_pure (hQ x1 x2 h' tk f0' f' y1 y2 b1 b2 b3 d1 d2 b5 b6 b7)) (F.args_zip_next_1 _))))
theorem zip2_end {Q : Option Value → Shared → Prop} (S : ZipSep2 z TI TO i1 i2 fp1 fp2) (D1 : Dr prog w A.in1 i1 fp1 n1 P1 St1) (D2 : Dr prog w A.in1 i2 fp2 n2 P2 St2)
    (hz : IsZipG s.heap z TI TO f0 f) (ho : Out f0) (hTI : IsTupOf2 s.heap TI (.ref i1) (.ref i2)) (hTO : IsTupOf2 s.heap TO a1 a2) (st1 : St1 i s.heap) (st2 : St2 i s.heap) (hend : n1 ≤ i ∨ n2 ≤ i)
    (hQ : ∀ h' tk, (∀ c o, c ≠ z → c ≠ TO → c ≠ i1 → c ≠ i2 → s.heap.get? c = some o → h'.get? c = some o) → Q none { s with heap := h', toks := tk }) : wpAny (model prog w) A (pyNext (.ref z)) Q E s := by
  have hT : s.TypeIs (.ref z) "zip" := ⟨_, hz, rfl⟩
  unfold pyNext
  refine wpAny_bind (wpAny_attempt (wpAny_callSpecial?_slot (name := Str.ofString "__next__") hT F.slot_zip_next
    (wpAny_call_entry F.slot_zip_next hT F.entry_zip_next (zip2_next_end S D1 D2 hz ho hTI hTO st1 st2 hend fun h' tk e hk he => ?_) (F.args_zip_next_1 _))))
  obtain ⟨o, ho, hc⟩ := he
  refine wpAny_bind (wpAny_isInstance (T := "StopIteration") (b := true) ⟨o, ho, hc⟩ isSubtype_stop ?_)
  exact wpAny_pure (hQ _ _ hk)
end
/-- the rows at a1 a2 as they stand at each turn, the items in new tuples -/
def Itz2 (K : PySem.W.Frag) (k1 k2 : Bool) (a1 a2 : Addr) : It :=
  ⟨fun i H => ∃ (l1 l2 : List V) (x1 x2 : V), SqK K k1 H a1 l1 ∧ SqK K k2 H a2 l2 ∧ l1[i]? = some x1 ∧ l2[i]? = some x2,
    fun i H v H' => ∃ T x1 x2, v = .ref T ∧ H T = none ∧ H' = upd H T (.tup [x1, x2]) ∧ (∀ l, SqK K k1 H a1 l → l[i]? = some x1) ∧ (∀ l, SqK K k2 H a2 l → l[i]? = some x2),
    fun i H => ∃ l1 l2 : List V, SqK K k1 H a1 l1 ∧ SqK K k2 H a2 l2 ∧ (l1.length ≤ i ∨ l2.length ≤ i)⟩
/-- the zip's own cells lie apart -/
def Ap2 (z TI TO i1 i2 : Addr) : Prop := TI ≠ z ∧ TO ≠ z ∧ TI ≠ TO ∧ TI ≠ i1 ∧ TI ≠ i2 ∧ TO ≠ i1 ∧ TO ≠ i2 ∧ z ≠ i1 ∧ z ≠ i2 ∧ i1 ≠ i2
theorem sep2 {h : Heap} {z TI TO i1 i2 a1 a2 : Addr} {k1 k2 : Bool} {i : Nat} {v1 v2 : Array Value} {f0 : Value} {f : Bool} (D : Ap2 z TI TO i1 i2) (hz : IsZipG h z TI TO f0 f) (hO : a1 ≠ TO ∧ a2 ≠ TO)
    (t1 : ItK k1 h i1 a1 i) (t2 : ItK k2 h i2 a2 i) (p1 : AtK k1 h a1 v1) (p2 : AtK k2 h a2 v2) : ZipSep2 z TI TO i1 i2 [i1, a1] [i2, a2] := by
  obtain ⟨d1, d2, d3, di1, di2, dt1, dt2, dz1, dz2, e12⟩ := D
  obtain ⟨o1, o2⟩ := hO
  have z1 : a1 ≠ z := p1.neF hz rfl
  have z2 : a2 ≠ z := p2.neF hz rfl
  have q11 : a1 ≠ i1 := p1.ne t1
  have q12 : a2 ≠ i1 := p2.ne t1
  have q21 : a1 ≠ i2 := p1.ne t2
  have q22 : a2 ≠ i2 := p2.ne t2
  have mm : ∀ {u x y : Addr}, u ≠ x → y ≠ u → u ∉ [x, y] := fun a b h => by
    rcases List.mem_cons.mp h with e | h
    · exact a e
    · exact b (List.mem_singleton.mp h).symm
  exact { TIz := d1, TOz := d2, TITO := d3, TIi1 := di1, mem1 := List.mem_cons_self .., zf1 := mm dz1 z1, Tf1 := mm dt1 o1, TIi2 := di2, mem2 := List.mem_cons_self .., zf2 := mm dz2 z2, Tf2 := mm dt2 o2, sep1_2 := mm e12 q12, sep2_1 := mm (Ne.symm e12) q21 }
theorem turn_zip2 {P : Program} {w : World} {K : PySem.W.Frag} {tg : Expr} (htg : ∀ (A : Around) (s : Shared) (a b : Addr) (Q : Unit → Shared → Prop) (E : Value → Shared → Prop), Q () s → wpAny (model P w) A (letOwnedTupleGo tg (.ref a) (.ref b)) Q E s) {k1 k2 : Bool} {a1 a2 z TI TO i1 i2 : Addr} (D : Ap2 z TI TO i1 i2) (hO : a1 ≠ TO ∧ a2 ≠ TO) :
    Turn P w K tg (Itz2 K k1 k2 a1 a2) [z, TI, TO, i1, i2] z (fun i h => (∃ f0 f, IsZipG h z TI TO f0 f ∧ Out f0) ∧ IsTupOf2 h TI (.ref i1) (.ref i2) ∧ (∃ x1 x2, IsTupOf2 h TO x1 x2) ∧ ItK k1 h i1 a1 i ∧ ItK k2 h i2 a2 i) where
  mem := by simp
  obj := fun i h st c hc => by
    obtain ⟨⟨f0, f, hz, ho⟩, hTI, ⟨x1, x2, hTO⟩, h1, h2⟩ := st
    have e' : c = z ∨ c = TI ∨ c = TO ∨ c = i1 ∨ c = i2 := by simpa using hc
    rcases e' with q | q | q | q | q
    · rw [q]; exact ⟨_, hz, fun v q => nomatch q⟩
    · rw [q]; exact ⟨_, hTI, fun v q => nomatch q⟩
    · rw [q]; exact ⟨_, hTO, fun v q => nomatch q⟩
    · rw [q]; obtain ⟨o, vs, e, d⟩ := h1.obj; exact ⟨o, e, fun v q => by rw [d] at q; cases q⟩
    · rw [q]; obtain ⟨o, vs, e, d⟩ := h2.obj; exact ⟨o, e, fun v q => by rw [d] at q; cases q⟩
  keep := fun i h h' st k => by
    obtain ⟨⟨f0, f, hz, ho⟩, hTI, ⟨x1, x2, hTO⟩, h1, h2⟩ := st
    exact ⟨⟨f0, f, k z (by simp) _ hz, ho⟩, k TI (by simp) _ hTI, ⟨_, _, k TO (by simp) _ hTO⟩, h1.at fun o q => k i1 (by simp) o q, h2.at fun o q => k i2 (by simp) o q⟩
  item := by
    intro X hP hw hK hc i pins s σ H E I hf st hg
    subst hP hw hK
    obtain ⟨⟨f0, f, hz, ho⟩, hTI, ⟨b1, b2, hTO⟩, h1, h2⟩ := st
    obtain ⟨l1, l2, x1, x2, hq1, hq2, hx1, hx2⟩ := hg
    obtain ⟨its1, rv1, p1⟩ := seqK I hq1
    obtain ⟨u1, hu1, ru1⟩ := rv1.get hx1
    obtain ⟨its2, rv2, p2⟩ := seqK I hq2
    obtain ⟨u2, hu2, ru2⟩ := rv2.get hx2
    have hzl : z < s.heap.objs.size := Heap.lt_size hz
    have S := sep2 D hz hO h1 h2 p1 p2
    have hh : X.A.in1.handled = none := I.ok.hd hc
    refine zip2_item S (drawsK hh i1 a1 (p1.ne h1) its1.toArray k1).toDraws (drawsK hh i2 a2 (p2.ne h2) its2.toArray k2).toDraws hz ho hTI hTO ⟨h1, p1⟩ ⟨h2, p2⟩ (by simp only [List.size_toArray]; exact (List.getElem?_eq_some_iff.mp hu1).1) (by simp only [List.size_toArray]; exact (List.getElem?_eq_some_iff.mp hu2).1) ?_
    intro w1 w2 h' tk f0' f' hw1 hw2 z' o' TO' t1' t2' hT hsz hk
    have ew1 : w1 = u1 := by
      have q : its1.toArray[i]? = some w1 := hw1
      rw [List.getElem?_toArray, hu1] at q
      cases q; rfl
    subst ew1
    have ew2 : w2 = u2 := by
      have q : its2.toArray[i]? = some w2 := hw2
      rw [List.getElem?_toArray, hu2] at q
      cases q; rfl
    subst ew2
    refine ⟨_, rfl, htg _ _ _ _ _ _ ?_⟩
    have new : ObjOk X.prog X.w (upd H s.heap.objs.size (.tup [x1, x2])) h' s.heap.objs.size (.tup [x1, x2]) :=
      ⟨by show 2 ≤ sizeLine; decide, [w1, w2], .cons ru1 (.cons ru2 (.nil)), ⟨_, hT, rfl, _, rfl⟩⟩
    have I1 : Inv X pins σ (upd H s.heap.objs.size (.tup [x1, x2])) { s with heap := h', toks := tk } :=
      I.turnedNew (ch := [z, TI, TO, i1, i2]) (fun c o hb q => hk c o (fun q' => hb (by simp [q'])) (fun q' => hb (by simp [q'])) (fun q' => hb (by simp [q'])) (fun q' => hb (by simp [q'])) q) hf (Nat.le_refl _) new
    refine ⟨.ref s.heap.objs.size, _, I1, rfl, ⟨_, x1, x2, rfl, I.hok.fresh (Nat.le_refl _), rfl, fun l hl => by rw [injK I hl hq1]; exact hx1, fun l hl => by rw [injK I hl hq2]; exact hx2⟩, ⟨⟨f0', f', z', o'⟩, ?_, TO', t1'.1, t2'.1⟩, fun c hcm => ?_⟩
    · exact hk _ _ S.TIz S.TITO S.TIi1 S.TIi2 hTI
    · have hlt : c < s.heap.objs.size := by
        have e' : c = z ∨ c = TI ∨ c = TO ∨ c = i1 ∨ c = i2 := by simpa using hcm
        rcases e' with q | q | q | q | q
        · rw [q]; exact hzl
        · rw [q]; exact Heap.lt_size hTI
        · rw [q]; exact Heap.lt_size hTO
        · rw [q]; exact h1.lt
        · rw [q]; exact h2.lt
      rw [upd_ne (Nat.ne_of_lt hlt)]
      exact (hf c hcm).1
  done := by
    intro X hP hw hK hc i pins s σ H E I hf st hg
    subst hP hw hK
    obtain ⟨⟨f0, f, hz, ho⟩, hTI, ⟨b1, b2, hTO⟩, h1, h2⟩ := st
    obtain ⟨l1, l2, hq1, hq2, hend⟩ := hg
    obtain ⟨its1, rv1, p1⟩ := seqK I hq1
    have e1 := rv1.length
    obtain ⟨its2, rv2, p2⟩ := seqK I hq2
    have e2 := rv2.length
    have S := sep2 D hz hO h1 h2 p1 p2
    have hh : X.A.in1.handled = none := I.ok.hd hc
    refine zip2_end S (drawsK hh i1 a1 (p1.ne h1) its1.toArray k1) (drawsK hh i2 a2 (p2.ne h2) its2.toArray k2) hz ho hTI hTO ⟨h1, p1⟩ ⟨h2, p2⟩ (by simp only [List.size_toArray]; omega) ?_
    exact fun h' tk hk => ⟨rfl, I.turnedL (t' := tk) (ch := [z, TI, TO, i1, i2]) (fun c o hb q =>
      hk c o (fun q' => hb (by simp [q'])) (fun q' => hb (by simp [q'])) (fun q' => hb (by simp [q'])) (fun q' => hb (by simp [q'])) q) hf⟩
  self := fun A i s Q E st h => by
    obtain ⟨⟨f0, f, hz, ho⟩, _⟩ := st
    exact self_zip hz h
def iZip2 (K : PySem.W.Frag) (ta : TA) : TI := fun σ H R => ta σ H fun vs H1 => ∃ (k1 k2 : Bool) (a1 a2 : Addr) (l1 l2 : List V), vs = [.ref a1, .ref a2] ∧ SqK K k1 H1 a1 l1 ∧ SqK K k2 H1 a2 l2 ∧ R (Itz2 K k1 k2 a1 a2) H1
theorem pi_zip2N {X : Cx} {e1 e2 : Expr} {ta : TA} {p pos : Pos} {tg : Expr} (htg : ∀ (A : Around) (s : Shared) (a b : Addr) (Q : Unit → Shared → Prop) (E : Value → Shared → Prop), Q () s → wpAny (model X.prog X.w) A (letOwnedTupleGo tg (.ref a) (.ref b)) Q E s) (hg : Gl X "zip") (hm : X.mg "zip" = none) (ha : PA X [e1, e2] ta)
    (hs : starEach [e1, e2] X.env = (false, eval e1 X.env) :: starEach [e2] X.env) (hpl : (backTo pos (starEach [e2] X.env)).any (·.1) = false) :
    PI X tg (.Call (.Name "zip" p) [e1, e2] [] pos) (iZip2 X.K ta) := by
  refine ⟨fun pins s σ H R I h => ?_⟩
  refine Call_ (ld_blt I hg hm PyProof.Rows.boot_zip (PyProof.Rows.callWith_type1 (thn (ha.run pos pins s σ H _ I h) fun us s1 ⟨vs, H1, I1, r1, q1⟩ => ?_) hs hpl))
  obtain ⟨k1, k2, a1, a2, l1, l2, ex, hq1, hq2, q1⟩ := q1
  subst ex
  obtain ⟨u1, u2, rfl, r1, r2⟩ := vals2' r1
  cases r1
  cases r2
  obtain ⟨its1, rv1, p1⟩ := seqK I1 hq1
  obtain ⟨its2, rv2, p2⟩ := seqK I1 hq2
  have fresh : ∀ c, c ∈ [s1.heap.objs.size + 4, s1.heap.objs.size + 2, s1.heap.objs.size + 3, s1.heap.objs.size, s1.heap.objs.size + 1] → FpOk X pins H1 c := fun c hcm => by
    have hle : s1.heap.objs.size ≤ c := by
      have e' : c = s1.heap.objs.size + 4 ∨ c = s1.heap.objs.size + 2 ∨ c = s1.heap.objs.size + 3 ∨ c = s1.heap.objs.size ∨ c = s1.heap.objs.size + 1 := by simpa using hcm
      rcases e' with z | z | z | z | z <;> (rw [z]; first | exact Nat.le_add_right _ _ | exact Nat.le_refl _)
    exact I1.fpOk hle (I1.hok.fresh hle)
  refine zip_begins2 (beginsK a1 its1.toArray k1) (beginsK a2 its2.toArray k2) p1 p2 fun h' hz hTI hTO g1 g2 hsz hk => ?_
  have hz' : IsZipG h' (s1.heap.objs.size + 4) (s1.heap.objs.size + 2) (s1.heap.objs.size + 3) .none false := hz
  refine self_zip (s := { s1 with heap := h' }) hz' ?_
  have I2 : Inv X pins σ H1 { s1 with heap := h' } := I1.kept (t' := s1.toks) hk
  have lt1 : (a1 : Nat) < s1.heap.objs.size := p1.lt
  have lt2 : (a2 : Nat) < s1.heap.objs.size := p2.lt
  refine ⟨s1.heap.objs.size + 4, [s1.heap.objs.size + 4, s1.heap.objs.size + 2, s1.heap.objs.size + 3, s1.heap.objs.size, s1.heap.objs.size + 1], _, _, H1, rfl, I2, turn_zip2 htg (k1 := k1) (a1 := a1) (TO := s1.heap.objs.size + 3) (show Ap2 (s1.heap.objs.size + 4) (s1.heap.objs.size + 2) (s1.heap.objs.size + 3) (s1.heap.objs.size) (s1.heap.objs.size + 1) from ⟨(show (s1.heap.objs.size + 2 : Nat) ≠ s1.heap.objs.size + 4 by omega), (show (s1.heap.objs.size + 3 : Nat) ≠ s1.heap.objs.size + 4 by omega), (show (s1.heap.objs.size + 2 : Nat) ≠ s1.heap.objs.size + 3 by omega), (show (s1.heap.objs.size + 2 : Nat) ≠ s1.heap.objs.size by omega), (show (s1.heap.objs.size + 2 : Nat) ≠ s1.heap.objs.size + 1 by omega), (show (s1.heap.objs.size + 3 : Nat) ≠ s1.heap.objs.size by omega), (show (s1.heap.objs.size + 3 : Nat) ≠ s1.heap.objs.size + 1 by omega), (show (s1.heap.objs.size + 4 : Nat) ≠ s1.heap.objs.size by omega), (show (s1.heap.objs.size + 4 : Nat) ≠ s1.heap.objs.size + 1 by omega), (show (s1.heap.objs.size : Nat) ≠ s1.heap.objs.size + 1 by omega)⟩) ⟨Nat.ne_of_lt (Nat.lt_of_lt_of_le lt1 (Nat.le_add_right _ _)), Nat.ne_of_lt (Nat.lt_of_lt_of_le lt2 (Nat.le_add_right _ _))⟩, ⟨⟨_, _, hz', .inl rfl⟩, hTI, ⟨_, _, hTO⟩, itK_of g1, itK_of g2⟩, fresh, q1⟩
section
variable {prog : Program} {w : World} {A : Around} {E : Value → Shared → Prop} {s : Shared} {z TI TO i1 i2 i3 : Addr} {fp1 fp2 fp3 : List Addr} {n1 n2 n3 i : Nat} {P1 P2 P3 : Nat → Value → Prop} {St1 St2 St3 : Nat → Heap → Prop} {a1 a2 a3 : Value} {f0 : Value} {f : Bool}
theorem zip3_next_item {Q : Value → Shared → Prop} (S : ZipSep3 z TI TO i1 i2 i3 fp1 fp2 fp3) (D1 : Draws prog w A i1 fp1 n1 P1 St1) (D2 : Draws prog w A i2 fp2 n2 P2 St2) (D3 : Draws prog w A i3 fp3 n3 P3 St3)
    (hz : IsZipG s.heap z TI TO f0 f) (ho : Out f0) (hTI : IsTupOf3 s.heap TI (.ref i1) (.ref i2) (.ref i3)) (hTO : IsTupOf3 s.heap TO a1 a2 a3) (st1 : St1 i s.heap) (st2 : St2 i s.heap) (st3 : St3 i s.heap) (hlt1 : i < n1) (hlt2 : i < n2) (hlt3 : i < n3)
    (hQ : ∀ x1 x2 x3 h' tk f0' f', P1 i x1 → P2 i x2 → P3 i x3 → IsZipG h' z TI TO f0' f' → Out f0' → (∃ b1 b2 b3, IsTupOf3 h' TO b1 b2 b3) → St1 (i + 1) h' → St2 (i + 1) h' → St3 (i + 1) h' → IsTupOf3 h' s.heap.objs.size x1 x2 x3 → h'.objs.size = s.heap.objs.size + 1 →
      (∀ c o, c ≠ z → c ≠ TO → c ≠ i1 → c ≠ i2 → c ≠ i3 → s.heap.get? c = some o → h'.get? c = some o) → Q (.ref s.heap.objs.size) { s with heap := h', toks := tk }) :
    wpAny (model prog w) A (Builtin.«zip.__next__» ⟨[.ref z], []⟩) (fun fin s' => ∃ v, fin = .done (.ret v) ∧ Q v s') E s := by
  obtain ⟨hp, g, d, tk0, os⟩ := s
  show wpAny _ _ (field (.ref z) 2 >>= _) _ _ _
  refine wpAny_bind (wpAny_field hz rfl (x := .bool false) rfl ?_)
  show wpAny _ _ (field (.ref z) 3 >>= _) _ _ _
  refine wpAny_bind (wpAny_field hz rfl (x := .ref TI) rfl ?_)
  refine wpAny_bind (wpAny_seqItems hTI rfl ?_)
  show wpAny _ _ (Builtin.SmallTypes.ownedTupleIsFree (.ref z) >>= _) _ _ _
  refine wpAny_bind (wpAny_isFree hz ho ?_ ?_)
  · simp only [if_true]
    refine wpAny_bind (wpAny_rule ?_)
    refine wpAny_bind (wpAny_field hz rfl (x := .ref TO) rfl ?_)
    refine wpAny_bind (wpAny_setField_rec hz (by simp) fun g0 hz0 hs0 => ?_)
    replace hz0 : IsZipG g0 z TI TO .ellipsis f := hz0
    replace hs0 : Heap.SameBut z hp g0 := hs0
    refine wpAny_bind ?_
    simp only [List.zipIdx_cons, List.zipIdx_nil, List.forIn_cons, List.forIn_nil]
    refine wpAny_bind (wpAny_bind (wpAny_onRaise ?_))
    show wpAny _ _ (Builtin.SmallTypes.nextOf (.ref i1) >>= _) _ _ ⟨g0, g, d, tk0, os⟩
    refine wpAny_bind (D1.item i _ _ _ hlt1 (D1.over st1 hs0 S.zf1) fun x1 p1 tk1 hx1 sn1 hp1 => wpAny_pure ?_)
    replace hp1 : Heap.SameBut i1 g0 p1 := hp1
    have hU1 : IsTupOf3 p1 TO a1 a2 a3 := hp1.extBut _ _ S.Ti1 (hs0.extBut _ _ S.TOz hTO)
    refine wpAny_bind (wpAny_seqItems (s := ⟨p1, g, d, tk1, os⟩) hU1 rfl ?_)
    refine wpAny_bind (updateSeq_IsTupOf3 (s := ⟨p1, g, d, tk1, os⟩) hU1 fun g1 hT1 hs1 => ?_)
    replace hT1 : IsTupOf3 g1 TO x1 a2 a3 := hT1
    replace hs1 : Heap.SameBut TO p1 g1 := hs1
    refine wpAny_bind (wpAny_letGo (wpAny_pure ?_))
    refine wpAny_bind (wpAny_bind (wpAny_onRaise ?_))
    show wpAny _ _ (Builtin.SmallTypes.nextOf (.ref i2) >>= _) _ _ ⟨g1, g, d, tk1, os⟩
    refine wpAny_bind (D2.item i _ _ _ hlt2 (D2.over (D2.over (D2.over st2 hs0 S.zf2) hp1 S.sep1_2) hs1 S.Tf2) fun x2 p2 tk2 hx2 sn2 hp2 => wpAny_pure ?_)
    replace hp2 : Heap.SameBut i2 g1 p2 := hp2
    have hU2 : IsTupOf3 p2 TO x1 a2 a3 := hp2.extBut _ _ S.Ti2 hT1
    refine wpAny_bind (wpAny_seqItems (s := ⟨p2, g, d, tk2, os⟩) hU2 rfl ?_)
    refine wpAny_bind (updateSeq_IsTupOf3 (s := ⟨p2, g, d, tk2, os⟩) hU2 fun g2 hT2 hs2 => ?_)
    replace hT2 : IsTupOf3 g2 TO x1 x2 a3 := hT2
    replace hs2 : Heap.SameBut TO p2 g2 := hs2
    refine wpAny_bind (wpAny_letGo (wpAny_pure ?_))
    refine wpAny_bind (wpAny_bind (wpAny_onRaise ?_))
    show wpAny _ _ (Builtin.SmallTypes.nextOf (.ref i3) >>= _) _ _ ⟨g2, g, d, tk2, os⟩
    refine wpAny_bind (D3.item i _ _ _ hlt3 (D3.over (D3.over (D3.over (D3.over (D3.over st3 hs0 S.zf3) hp1 S.sep1_3) hs1 S.Tf3) hp2 S.sep2_3) hs2 S.Tf3) fun x3 p3 tk3 hx3 sn3 hp3 => wpAny_pure ?_)
    replace hp3 : Heap.SameBut i3 g2 p3 := hp3
    have hU3 : IsTupOf3 p3 TO x1 x2 a3 := hp3.extBut _ _ S.Ti3 hT2
    refine wpAny_bind (wpAny_seqItems (s := ⟨p3, g, d, tk3, os⟩) hU3 rfl ?_)
    refine wpAny_bind (updateSeq_IsTupOf3 (s := ⟨p3, g, d, tk3, os⟩) hU3 fun g3 hT3 hs3 => ?_)
    replace hT3 : IsTupOf3 g3 TO x1 x2 x3 := hT3
    replace hs3 : Heap.SameBut TO p3 g3 := hs3
    refine wpAny_bind (wpAny_letGo (wpAny_pure (wpAny_pure ?_)))
    refine wpAny_bind (wpAny_seqItems (s := ⟨g3, g, d, tk3, os⟩) hT3 rfl ?_)
    refine wpAny_bind (wpAny_newTuple ?_)
    have hsz : g3.objs.size = hp.objs.size := by rw [hs3.1, hp3.1, hs2.1, hp2.1, hs1.1, hp1.1, hs0.1]
    have hzz : IsZipG g3 z TI TO .ellipsis f := (hs3.extBut _ _ S.TOz.symm (hp3.extBut _ _ S.zi3 (hs2.extBut _ _ S.TOz.symm (hp2.extBut _ _ S.zi2 (hs1.extBut _ _ S.TOz.symm (hp1.extBut _ _ S.zi1 hz0))))))
    have hkk : ∀ c o, c ≠ z → c ≠ TO → c ≠ i1 → c ≠ i2 → c ≠ i3 → hp.get? c = some o → g3.get? c = some o := fun c o cz cT c1 c2 c3 e => (hs3.extBut _ _ cT (hp3.extBut _ _ c3 (hs2.extBut _ _ cT (hp2.extBut _ _ c2 (hs1.extBut _ _ cT (hp1.extBut _ _ c1 (hs0.extBut _ _ cz e)))))))
    have hj1 : St1 (i + 1) g3 := (D1.over (D1.over (D1.over (D1.over (D1.over sn1 hs1 S.Tf1) hp2 S.sep2_1) hs2 S.Tf1) hp3 S.sep3_1) hs3 S.Tf1)
    have hj2 : St2 (i + 1) g3 := (D2.over (D2.over (D2.over sn2 hs2 S.Tf2) hp3 S.sep3_2) hs3 S.Tf2)
    have hj3 : St3 (i + 1) g3 := (D3.over sn3 hs3 S.Tf3)
    have hzlt : z < g3.objs.size := Heap.lt_size hzz
    show wpAny _ _ (Builtin.SmallTypes.ownedTupleHandOut (.ref z) (.ref g3.objs.size) >>= _) _ _ ⟨g3.push { cls := .type "tuple", data := .seq #[x1, x2, x3] }, g, d, tk3, os⟩
    refine wpAny_bind ?_
    unfold Builtin.SmallTypes.ownedTupleHandOut
    have hz₆ : IsZipG (g3.push { cls := .type "tuple", data := .seq #[x1, x2, x3] }) z TI TO .ellipsis f := Heap.get?_push_of_some _ hzz
    refine wpAny_bind (wpAny_setField_rec hz₆ (by simp) fun h₇ hz₇ hs₇ => ?_)
    replace hz₇ : IsZipG h₇ z TI TO (rawInt g3.objs.size) f := hz₇
    refine wpAny_setField_rec hz₇ (by simp) fun h₈ hz₈ hs₈ => ?_
    replace hz₈ : IsZipG h₈ z TI TO (rawInt g3.objs.size) false := hz₈
    replace hs₇ : Heap.SameBut z (g3.push { cls := .type "tuple", data := .seq #[x1, x2, x3] }) h₇ := hs₇
    replace hs₈ : Heap.SameBut z h₇ h₈ := hs₈
    have up : ∀ c o, c ≠ z → g3.get? c = some o → h₈.get? c = some o := fun c o c1 e => hs₈.extBut _ _ c1 (hs₇.extBut _ _ c1 (Heap.get?_push_of_some _ e))
    have hT₈ : IsTupOf3 h₈ g3.objs.size x1 x2 x3 := hs₈.extBut _ _ (Nat.ne_of_gt hzlt) (hs₇.extBut _ _ (Nat.ne_of_gt hzlt) (Heap.get?_push_size _ rfl))
    have hz8 : h₈.objs.size = g3.objs.size + 1 := by rw [hs₈.1, hs₇.1, Heap.size_push]
    rw [hsz] at hz₈ hT₈ hz8
    refine wpAny_pure ⟨_, rfl, ?_⟩
    show Q (.ref g3.objs.size) ⟨h₈, g, d, tk3, os⟩
    rw [hsz]
    exact hQ x1 x2 x3 h₈ tk3 _ _ hx1 hx2 hx3 hz₈ (.inr ⟨_, rfl⟩) ⟨_, _, _, up _ _ S.TOz hT3⟩ (D1.frame _ _ _ hj1 fun b hb o e => up b o (fun q => S.zf1 (q ▸ hb)) e) (D2.frame _ _ _ hj2 fun b hb o e => up b o (fun q => S.zf2 (q ▸ hb)) e) (D3.frame _ _ _ hj3 fun b hb o e => up b o (fun q => S.zf3 (q ▸ hb)) e) hT₈ hz8 fun c o cz cT c1 c2 c3 e => up c o cz (hkk c o cz cT c1 c2 c3 e)
  · intro g0 f' hz0 hs0
    replace hz0 : IsZipG g0 z TI TO f0 f' := hz0
    replace hs0 : Heap.SameBut z hp g0 := hs0
    simp only [Bool.false_eq_true, if_false]
    refine wpAny_bind ?_
    rw [← Array.forIn_toList]
    simp only [List.forIn_cons, List.forIn_nil]
    refine wpAny_bind (wpAny_bind (wpAny_holding ?_))
    show wpAny _ _ (Builtin.SmallTypes.nextOf (.ref i1) >>= _) _ _ ⟨g0, g, d, tk0, os⟩
    refine wpAny_bind (D1.item i _ _ _ hlt1 (D1.over st1 hs0 S.zf1) fun x1 p1 tk1 hx1 sn1 hp1 => wpAny_pure ?_)
    replace hp1 : Heap.SameBut i1 g0 p1 := hp1
    refine wpAny_pure ?_
    refine wpAny_bind (wpAny_bind (wpAny_holding ?_))
    show wpAny _ _ (Builtin.SmallTypes.nextOf (.ref i2) >>= _) _ _ ⟨p1, g, d, tk1, os⟩
    refine wpAny_bind (D2.item i _ _ _ hlt2 (D2.over (D2.over st2 hs0 S.zf2) hp1 S.sep1_2) fun x2 p2 tk2 hx2 sn2 hp2 => wpAny_pure ?_)
    replace hp2 : Heap.SameBut i2 p1 p2 := hp2
    refine wpAny_pure ?_
    refine wpAny_bind (wpAny_bind (wpAny_holding ?_))
    show wpAny _ _ (Builtin.SmallTypes.nextOf (.ref i3) >>= _) _ _ ⟨p2, g, d, tk2, os⟩
    refine wpAny_bind (D3.item i _ _ _ hlt3 (D3.over (D3.over (D3.over st3 hs0 S.zf3) hp1 S.sep1_3) hp2 S.sep2_3) fun x3 p3 tk3 hx3 sn3 hp3 => wpAny_pure ?_)
    replace hp3 : Heap.SameBut i3 p2 p3 := hp3
    refine wpAny_pure (wpAny_pure ?_)
    show wpAny _ _ (newTuple [x1, x2, x3] >>= _) _ _ ⟨p3, g, d, tk3, os⟩
    refine wpAny_bind (wpAny_newTuple ?_)
    have hsz : p3.objs.size = hp.objs.size := by rw [hp3.1, hp2.1, hp1.1, hs0.1]
    have hzz : IsZipG p3 z TI TO f0 f' := (hp3.extBut _ _ S.zi3 (hp2.extBut _ _ S.zi2 (hp1.extBut _ _ S.zi1 hz0)))
    have hUU : IsTupOf3 p3 TO a1 a2 a3 := (hp3.extBut _ _ S.Ti3 (hp2.extBut _ _ S.Ti2 (hp1.extBut _ _ S.Ti1 (hs0.extBut _ _ S.TOz hTO))))
    have hkk : ∀ c o, c ≠ z → c ≠ TO → c ≠ i1 → c ≠ i2 → c ≠ i3 → hp.get? c = some o → p3.get? c = some o := fun c o cz cT c1 c2 c3 e => (hp3.extBut _ _ c3 (hp2.extBut _ _ c2 (hp1.extBut _ _ c1 (hs0.extBut _ _ cz e))))
    have hj1 : St1 (i + 1) p3 := (D1.over (D1.over sn1 hp2 S.sep2_1) hp3 S.sep3_1)
    have hj2 : St2 (i + 1) p3 := (D2.over sn2 hp3 S.sep3_2)
    have hj3 : St3 (i + 1) p3 := sn3
    refine wpAny_pure ⟨_, rfl, ?_⟩
    show Q (.ref p3.objs.size) _
    have up : ∀ c o, p3.get? c = some o → (p3.push { cls := .type "tuple", data := .seq #[x1, x2, x3] }).get? c = some o := fun c o e => Heap.get?_push_of_some _ e
    have hTn : IsTupOf3 (p3.push { cls := .type "tuple", data := .seq #[x1, x2, x3] }) p3.objs.size x1 x2 x3 := Heap.get?_push_size _ rfl
    have hz8 : (p3.push { cls := .type "tuple", data := .seq #[x1, x2, x3] }).objs.size = p3.objs.size + 1 := Heap.size_push ..
    rw [hsz] at hTn hz8 ⊢
    exact hQ x1 x2 x3 _ tk3 _ _ hx1 hx2 hx3 (up _ _ hzz) ho ⟨_, _, _, up _ _ hUU⟩ (D1.frame _ _ _ hj1 fun b hb o e => up b o e) (D2.frame _ _ _ hj2 fun b hb o e => up b o e) (D3.frame _ _ _ hj3 fun b hb o e => up b o e) hTn hz8 fun c o cz cT c1 c2 c3 e => up c o (hkk c o cz cT c1 c2 c3 e)
theorem zip3_next_end {Q : Fin → Shared → Prop} (S : ZipSep3 z TI TO i1 i2 i3 fp1 fp2 fp3) (D1 : Dr prog w A i1 fp1 n1 P1 St1) (D2 : Dr prog w A i2 fp2 n2 P2 St2) (D3 : Dr prog w A i3 fp3 n3 P3 St3)
    (hz : IsZipG s.heap z TI TO f0 f) (ho : Out f0) (hTI : IsTupOf3 s.heap TI (.ref i1) (.ref i2) (.ref i3)) (hTO : IsTupOf3 s.heap TO a1 a2 a3) (st1 : St1 i s.heap) (st2 : St2 i s.heap) (st3 : St3 i s.heap) (hend : n1 ≤ i ∨ n2 ≤ i ∨ n3 ≤ i)
    (hE : ∀ h' tk e, (∀ c o, c ≠ z → c ≠ TO → c ≠ i1 → c ≠ i2 → c ≠ i3 → s.heap.get? c = some o → h'.get? c = some o) → (∃ o, h'.get? e = some o ∧ o.cls = .type "StopIteration") → E (.ref e) { s with heap := h', toks := tk }) :
    wpAny (model prog w) A (Builtin.«zip.__next__» ⟨[.ref z], []⟩) Q E s := by
  obtain ⟨hp, g, d, tk0, os⟩ := s
  show wpAny _ _ (field (.ref z) 2 >>= _) _ _ _
  refine wpAny_bind (wpAny_field hz rfl (x := .bool false) rfl ?_)
  show wpAny _ _ (field (.ref z) 3 >>= _) _ _ _
  refine wpAny_bind (wpAny_field hz rfl (x := .ref TI) rfl ?_)
  refine wpAny_bind (wpAny_seqItems hTI rfl ?_)
  show wpAny _ _ (Builtin.SmallTypes.ownedTupleIsFree (.ref z) >>= _) _ _ _
  refine wpAny_bind (wpAny_isFree hz ho ?_ ?_)
  · simp only [if_true]
    refine wpAny_bind (wpAny_rule ?_)
    refine wpAny_bind (wpAny_field hz rfl (x := .ref TO) rfl ?_)
    refine wpAny_bind (wpAny_setField_rec hz (by simp) fun g0 hz0 hs0 => ?_)
    replace hz0 : IsZipG g0 z TI TO .ellipsis f := hz0
    replace hs0 : Heap.SameBut z hp g0 := hs0
    refine wpAny_bind ?_
    simp only [List.zipIdx_cons, List.zipIdx_nil, List.forIn_cons, List.forIn_nil]
    refine wpAny_bind (wpAny_bind (wpAny_onRaise ?_))
    show wpAny _ _ (Builtin.SmallTypes.nextOf (.ref i1) >>= _) _ _ ⟨g0, g, d, tk0, os⟩
    by_cases hlt1 : i < n1
    · refine wpAny_bind (D1.item i _ _ _ hlt1 (D1.over st1 hs0 S.zf1) fun x1 p1 tk1 hx1 sn1 hp1 => wpAny_pure ?_)
      replace hp1 : Heap.SameBut i1 g0 p1 := hp1
      have hU1 : IsTupOf3 p1 TO a1 a2 a3 := hp1.extBut _ _ S.Ti1 (hs0.extBut _ _ S.TOz hTO)
      refine wpAny_bind (wpAny_seqItems (s := ⟨p1, g, d, tk1, os⟩) hU1 rfl ?_)
      refine wpAny_bind (updateSeq_IsTupOf3 (s := ⟨p1, g, d, tk1, os⟩) hU1 fun g1 hT1 hs1 => ?_)
      replace hT1 : IsTupOf3 g1 TO x1 a2 a3 := hT1
      replace hs1 : Heap.SameBut TO p1 g1 := hs1
      refine wpAny_bind (wpAny_letGo (wpAny_pure ?_))
      refine wpAny_bind (wpAny_bind (wpAny_onRaise ?_))
      show wpAny _ _ (Builtin.SmallTypes.nextOf (.ref i2) >>= _) _ _ ⟨g1, g, d, tk1, os⟩
      by_cases hlt2 : i < n2
      · refine wpAny_bind (D2.item i _ _ _ hlt2 (D2.over (D2.over (D2.over st2 hs0 S.zf2) hp1 S.sep1_2) hs1 S.Tf2) fun x2 p2 tk2 hx2 sn2 hp2 => wpAny_pure ?_)
        replace hp2 : Heap.SameBut i2 g1 p2 := hp2
        have hU2 : IsTupOf3 p2 TO x1 a2 a3 := hp2.extBut _ _ S.Ti2 hT1
        refine wpAny_bind (wpAny_seqItems (s := ⟨p2, g, d, tk2, os⟩) hU2 rfl ?_)
        refine wpAny_bind (updateSeq_IsTupOf3 (s := ⟨p2, g, d, tk2, os⟩) hU2 fun g2 hT2 hs2 => ?_)
        replace hT2 : IsTupOf3 g2 TO x1 x2 a3 := hT2
        replace hs2 : Heap.SameBut TO p2 g2 := hs2
        refine wpAny_bind (wpAny_letGo (wpAny_pure ?_))
        refine wpAny_bind (wpAny_bind (wpAny_onRaise ?_))
        show wpAny _ _ (Builtin.SmallTypes.nextOf (.ref i3) >>= _) _ _ ⟨g2, g, d, tk2, os⟩
        have hi3 : n3 ≤ i := by omega
        refine wpAny_bind (D3.past i ⟨g2, g, d, tk2, os⟩ _ _ hi3 (D3.over (D3.over (D3.over (D3.over (D3.over st3 hs0 S.zf3) hp1 S.sep1_3) hs1 S.Tf3) hp2 S.sep2_3) hs2 S.Tf3) fun q e hq he => ?_)
        replace hq : Heap.ExtBut i3 g2 q := hq
        obtain ⟨oe, hoe, hce⟩ := he
        replace hoe : q.get? e = some oe := hoe
        have hzq : IsZipG q z TI TO .ellipsis f := hq _ _ S.zi3 (hs2.extBut _ _ S.TOz.symm (hp2.extBut _ _ S.zi2 (hs1.extBut _ _ S.TOz.symm (hp1.extBut _ _ S.zi1 hz0))))
        have hez : e ≠ z := fun x => by subst x; rw [hzq] at hoe; cases hoe; simp at hce
        refine wpAny_setField_rec (s := ⟨q, g, d, tk2, os⟩) hzq (by simp) fun q' _ hq' => ?_
        replace hq' : Heap.SameBut z q q' := hq'
        exact hE q' tk2 e (fun c o cz cT c1 c2 c3 x => hq'.extBut _ _ cz (hq _ _ c3 (hs2.extBut _ _ cT (hp2.extBut _ _ c2 (hs1.extBut _ _ cT (hp1.extBut _ _ c1 (hs0.extBut _ _ cz x))))))) ⟨oe, hq'.extBut _ _ hez hoe, hce⟩
      · have hi2 : n2 ≤ i := by omega
        refine wpAny_bind (D2.past i ⟨g1, g, d, tk1, os⟩ _ _ hi2 (D2.over (D2.over (D2.over st2 hs0 S.zf2) hp1 S.sep1_2) hs1 S.Tf2) fun q e hq he => ?_)
        replace hq : Heap.ExtBut i2 g1 q := hq
        obtain ⟨oe, hoe, hce⟩ := he
        replace hoe : q.get? e = some oe := hoe
        have hzq : IsZipG q z TI TO .ellipsis f := hq _ _ S.zi2 (hs1.extBut _ _ S.TOz.symm (hp1.extBut _ _ S.zi1 hz0))
        have hez : e ≠ z := fun x => by subst x; rw [hzq] at hoe; cases hoe; simp at hce
        refine wpAny_setField_rec (s := ⟨q, g, d, tk1, os⟩) hzq (by simp) fun q' _ hq' => ?_
        replace hq' : Heap.SameBut z q q' := hq'
        exact hE q' tk1 e (fun c o cz cT c1 c2 c3 x => hq'.extBut _ _ cz (hq _ _ c2 (hs1.extBut _ _ cT (hp1.extBut _ _ c1 (hs0.extBut _ _ cz x))))) ⟨oe, hq'.extBut _ _ hez hoe, hce⟩
    · have hi1 : n1 ≤ i := by omega
      refine wpAny_bind (D1.past i ⟨g0, g, d, tk0, os⟩ _ _ hi1 (D1.over st1 hs0 S.zf1) fun q e hq he => ?_)
      replace hq : Heap.ExtBut i1 g0 q := hq
      obtain ⟨oe, hoe, hce⟩ := he
      replace hoe : q.get? e = some oe := hoe
      have hzq : IsZipG q z TI TO .ellipsis f := hq _ _ S.zi1 hz0
      have hez : e ≠ z := fun x => by subst x; rw [hzq] at hoe; cases hoe; simp at hce
      refine wpAny_setField_rec (s := ⟨q, g, d, tk0, os⟩) hzq (by simp) fun q' _ hq' => ?_
      replace hq' : Heap.SameBut z q q' := hq'
      exact hE q' tk0 e (fun c o cz cT c1 c2 c3 x => hq'.extBut _ _ cz (hq _ _ c1 (hs0.extBut _ _ cz x))) ⟨oe, hq'.extBut _ _ hez hoe, hce⟩
  · intro g0 f' hz0 hs0
    replace hz0 : IsZipG g0 z TI TO f0 f' := hz0
    replace hs0 : Heap.SameBut z hp g0 := hs0
    simp only [Bool.false_eq_true, if_false]
    refine wpAny_bind ?_
    rw [← Array.forIn_toList]
    simp only [List.forIn_cons, List.forIn_nil]
    refine wpAny_bind (wpAny_bind (wpAny_holding ?_))
    show wpAny _ _ (Builtin.SmallTypes.nextOf (.ref i1) >>= _) _ _ ⟨g0, g, d, tk0, os⟩
    by_cases hlt1 : i < n1
    · refine wpAny_bind (D1.item i _ _ _ hlt1 (D1.over st1 hs0 S.zf1) fun x1 p1 tk1 hx1 sn1 hp1 => wpAny_pure ?_)
      replace hp1 : Heap.SameBut i1 g0 p1 := hp1
      refine wpAny_pure ?_
      refine wpAny_bind (wpAny_bind (wpAny_holding ?_))
      show wpAny _ _ (Builtin.SmallTypes.nextOf (.ref i2) >>= _) _ _ ⟨p1, g, d, tk1, os⟩
      by_cases hlt2 : i < n2
      · refine wpAny_bind (D2.item i _ _ _ hlt2 (D2.over (D2.over st2 hs0 S.zf2) hp1 S.sep1_2) fun x2 p2 tk2 hx2 sn2 hp2 => wpAny_pure ?_)
        replace hp2 : Heap.SameBut i2 p1 p2 := hp2
        refine wpAny_pure ?_
        refine wpAny_bind (wpAny_bind (wpAny_holding ?_))
        show wpAny _ _ (Builtin.SmallTypes.nextOf (.ref i3) >>= _) _ _ ⟨p2, g, d, tk2, os⟩
        have hi3 : n3 ≤ i := by omega
        refine wpAny_bind (D3.past i ⟨p2, g, d, tk2, os⟩ _ _ hi3 (D3.over (D3.over (D3.over st3 hs0 S.zf3) hp1 S.sep1_3) hp2 S.sep2_3) fun q e hq he => ?_)
        replace hq : Heap.ExtBut i3 p2 q := hq
        exact hE q tk2 e (fun c o cz cT c1 c2 c3 x => hq _ _ c3 (hp2.extBut _ _ c2 (hp1.extBut _ _ c1 (hs0.extBut _ _ cz x)))) he
      · have hi2 : n2 ≤ i := by omega
        refine wpAny_bind (D2.past i ⟨p1, g, d, tk1, os⟩ _ _ hi2 (D2.over (D2.over st2 hs0 S.zf2) hp1 S.sep1_2) fun q e hq he => ?_)
        replace hq : Heap.ExtBut i2 p1 q := hq
        exact hE q tk1 e (fun c o cz cT c1 c2 c3 x => hq _ _ c2 (hp1.extBut _ _ c1 (hs0.extBut _ _ cz x))) he
    · have hi1 : n1 ≤ i := by omega
      refine wpAny_bind (D1.past i ⟨g0, g, d, tk0, os⟩ _ _ hi1 (D1.over st1 hs0 S.zf1) fun q e hq he => ?_)
      replace hq : Heap.ExtBut i1 g0 q := hq
      exact hE q tk0 e (fun c o cz cT c1 c2 c3 x => hq _ _ c1 (hs0.extBut _ _ cz x)) he
theorem zip3_item {Q : Option Value → Shared → Prop} (S : ZipSep3 z TI TO i1 i2 i3 fp1 fp2 fp3) (D1 : Draws prog w A.in1 i1 fp1 n1 P1 St1) (D2 : Draws prog w A.in1 i2 fp2 n2 P2 St2) (D3 : Draws prog w A.in1 i3 fp3 n3 P3 St3)
    (hz : IsZipG s.heap z TI TO f0 f) (ho : Out f0) (hTI : IsTupOf3 s.heap TI (.ref i1) (.ref i2) (.ref i3)) (hTO : IsTupOf3 s.heap TO a1 a2 a3) (st1 : St1 i s.heap) (st2 : St2 i s.heap) (st3 : St3 i s.heap) (hlt1 : i < n1) (hlt2 : i < n2) (hlt3 : i < n3)
    (hQ : ∀ x1 x2 x3 h' tk f0' f', P1 i x1 → P2 i x2 → P3 i x3 → IsZipG h' z TI TO f0' f' → Out f0' → (∃ b1 b2 b3, IsTupOf3 h' TO b1 b2 b3) → St1 (i + 1) h' → St2 (i + 1) h' → St3 (i + 1) h' → IsTupOf3 h' s.heap.objs.size x1 x2 x3 → h'.objs.size = s.heap.objs.size + 1 →
      (∀ c o, c ≠ z → c ≠ TO → c ≠ i1 → c ≠ i2 → c ≠ i3 → s.heap.get? c = some o → h'.get? c = some o) → Q (some (.ref s.heap.objs.size)) { s with heap := h', toks := tk }) : wpAny (model prog w) A (pyNext (.ref z)) Q E s := by
  have hT : s.TypeIs (.ref z) "zip" := ⟨_, hz, rfl⟩
  unfold pyNext
  exact wpAny_bind (wpAny_attempt (wpAny_callSpecial?_slot (name := Str.ofString "__next__") hT F.slot_zip_next
    (wpAny_call_entry F.slot_zip_next hT F.entry_zip_next
      (zip3_next_item S D1 D2 D3 hz ho hTI hTO st1 st2 st3 hlt1 hlt2 hlt3 fun x1 x2 x3 h' tk f0' f' y1 y2 y3 b1 b2 b3 d1 d2 d3 b5 b6 b7 => wpAny_pure (hQ x1 x2 x3 h' tk f0' f' y1 y2 y3 b1 b2 b3 d1 d2 d3 b5 b6 b7)) (F.args_zip_next_1 _))))
theorem zip3_end {Q : Option Value → Shared → Prop} (S : ZipSep3 z TI TO i1 i2 i3 fp1 fp2 fp3) (D1 : Dr prog w A.in1 i1 fp1 n1 P1 St1) (D2 : Dr prog w A.in1 i2 fp2 n2 P2 St2) (D3 : Dr prog w A.in1 i3 fp3 n3 P3 St3)
    (hz : IsZipG s.heap z TI TO f0 f) (ho : Out f0) (hTI : IsTupOf3 s.heap TI (.ref i1) (.ref i2) (.ref i3)) (hTO : IsTupOf3 s.heap TO a1 a2 a3) (st1 : St1 i s.heap) (st2 : St2 i s.heap) (st3 : St3 i s.heap) (hend : n1 ≤ i ∨ n2 ≤ i ∨ n3 ≤ i)
    (hQ : ∀ h' tk, (∀ c o, c ≠ z → c ≠ TO → c ≠ i1 → c ≠ i2 → c ≠ i3 → s.heap.get? c = some o → h'.get? c = some o) → Q none { s with heap := h', toks := tk }) : wpAny (model prog w) A (pyNext (.ref z)) Q E s := by
  have hT : s.TypeIs (.ref z) "zip" := ⟨_, hz, rfl⟩
  unfold pyNext
  refine wpAny_bind (wpAny_attempt (wpAny_callSpecial?_slot (name := Str.ofString "__next__") hT F.slot_zip_next
    (wpAny_call_entry F.slot_zip_next hT F.entry_zip_next (zip3_next_end S D1 D2 D3 hz ho hTI hTO st1 st2 st3 hend fun h' tk e hk he => ?_) (F.args_zip_next_1 _))))
  obtain ⟨o, ho, hc⟩ := he
  refine wpAny_bind (wpAny_isInstance (T := "StopIteration") (b := true) ⟨o, ho, hc⟩ isSubtype_stop ?_)
  exact wpAny_pure (hQ _ _ hk)
end
/-- the rows at a1 a2 a3 as they stand at each turn, the items in new tuples -/
def Itz3 (K : PySem.W.Frag) (k1 k2 k3 : Bool) (a1 a2 a3 : Addr) : It :=
  ⟨fun i H => ∃ (l1 l2 l3 : List V) (x1 x2 x3 : V), SqK K k1 H a1 l1 ∧ SqK K k2 H a2 l2 ∧ SqK K k3 H a3 l3 ∧ l1[i]? = some x1 ∧ l2[i]? = some x2 ∧ l3[i]? = some x3,
    fun i H v H' => ∃ T x1 x2 x3, v = .ref T ∧ H T = none ∧ H' = upd H T (.tup [x1, x2, x3]) ∧ (∀ l, SqK K k1 H a1 l → l[i]? = some x1) ∧ (∀ l, SqK K k2 H a2 l → l[i]? = some x2) ∧ (∀ l, SqK K k3 H a3 l → l[i]? = some x3),
    fun i H => ∃ l1 l2 l3 : List V, SqK K k1 H a1 l1 ∧ SqK K k2 H a2 l2 ∧ SqK K k3 H a3 l3 ∧ (l1.length ≤ i ∨ l2.length ≤ i ∨ l3.length ≤ i)⟩
/-- the zip's own cells lie apart -/
def Ap3 (z TI TO i1 i2 i3 : Addr) : Prop := TI ≠ z ∧ TO ≠ z ∧ TI ≠ TO ∧ TI ≠ i1 ∧ TI ≠ i2 ∧ TI ≠ i3 ∧ TO ≠ i1 ∧ TO ≠ i2 ∧ TO ≠ i3 ∧ z ≠ i1 ∧ z ≠ i2 ∧ z ≠ i3 ∧ i1 ≠ i2 ∧ i1 ≠ i3 ∧ i2 ≠ i3
theorem sep3 {h : Heap} {z TI TO i1 i2 i3 a1 a2 a3 : Addr} {k1 k2 k3 : Bool} {i : Nat} {v1 v2 v3 : Array Value} {f0 : Value} {f : Bool} (D : Ap3 z TI TO i1 i2 i3) (hz : IsZipG h z TI TO f0 f) (hO : a1 ≠ TO ∧ a2 ≠ TO ∧ a3 ≠ TO)
    (t1 : ItK k1 h i1 a1 i) (t2 : ItK k2 h i2 a2 i) (t3 : ItK k3 h i3 a3 i) (p1 : AtK k1 h a1 v1) (p2 : AtK k2 h a2 v2) (p3 : AtK k3 h a3 v3) : ZipSep3 z TI TO i1 i2 i3 [i1, a1] [i2, a2] [i3, a3] := by
  obtain ⟨d1, d2, d3, di1, di2, di3, dt1, dt2, dt3, dz1, dz2, dz3, e12, e13, e23⟩ := D
  obtain ⟨o1, o2, o3⟩ := hO
  have z1 : a1 ≠ z := p1.neF hz rfl
  have z2 : a2 ≠ z := p2.neF hz rfl
  have z3 : a3 ≠ z := p3.neF hz rfl
  have q11 : a1 ≠ i1 := p1.ne t1
  have q12 : a2 ≠ i1 := p2.ne t1
  have q13 : a3 ≠ i1 := p3.ne t1
  have q21 : a1 ≠ i2 := p1.ne t2
  have q22 : a2 ≠ i2 := p2.ne t2
  have q23 : a3 ≠ i2 := p3.ne t2
  have q31 : a1 ≠ i3 := p1.ne t3
  have q32 : a2 ≠ i3 := p2.ne t3
  have q33 : a3 ≠ i3 := p3.ne t3
  have mm : ∀ {u x y : Addr}, u ≠ x → y ≠ u → u ∉ [x, y] := fun a b h => by
    rcases List.mem_cons.mp h with e | h
    · exact a e
    · exact b (List.mem_singleton.mp h).symm
  exact { TIz := d1, TOz := d2, TITO := d3, TIi1 := di1, mem1 := List.mem_cons_self .., zf1 := mm dz1 z1, Tf1 := mm dt1 o1, TIi2 := di2, mem2 := List.mem_cons_self .., zf2 := mm dz2 z2, Tf2 := mm dt2 o2, TIi3 := di3, mem3 := List.mem_cons_self .., zf3 := mm dz3 z3, Tf3 := mm dt3 o3, sep1_2 := mm e12 q12, sep1_3 := mm e13 q13, sep2_1 := mm (Ne.symm e12) q21, sep2_3 := mm e23 q23, sep3_1 := mm (Ne.symm e13) q31, sep3_2 := mm (Ne.symm e23) q32 }
theorem turn_zip3 {P : Program} {w : World} {K : PySem.W.Frag} {tg : Expr} (htg : ∀ (A : Around) (s : Shared) (a b : Addr) (Q : Unit → Shared → Prop) (E : Value → Shared → Prop), Q () s → wpAny (model P w) A (letOwnedTupleGo tg (.ref a) (.ref b)) Q E s) {k1 k2 k3 : Bool} {a1 a2 a3 z TI TO i1 i2 i3 : Addr} (D : Ap3 z TI TO i1 i2 i3) (hO : a1 ≠ TO ∧ a2 ≠ TO ∧ a3 ≠ TO) :
    Turn P w K tg (Itz3 K k1 k2 k3 a1 a2 a3) [z, TI, TO, i1, i2, i3] z (fun i h => (∃ f0 f, IsZipG h z TI TO f0 f ∧ Out f0) ∧ IsTupOf3 h TI (.ref i1) (.ref i2) (.ref i3) ∧ (∃ x1 x2 x3, IsTupOf3 h TO x1 x2 x3) ∧ ItK k1 h i1 a1 i ∧ ItK k2 h i2 a2 i ∧ ItK k3 h i3 a3 i) where
  mem := by simp
  obj := fun i h st c hc => by
    obtain ⟨⟨f0, f, hz, ho⟩, hTI, ⟨x1, x2, x3, hTO⟩, h1, h2, h3⟩ := st
    have e' : c = z ∨ c = TI ∨ c = TO ∨ c = i1 ∨ c = i2 ∨ c = i3 := by simpa using hc
    rcases e' with q | q | q | q | q | q
    · rw [q]; exact ⟨_, hz, fun v q => nomatch q⟩
    · rw [q]; exact ⟨_, hTI, fun v q => nomatch q⟩
    · rw [q]; exact ⟨_, hTO, fun v q => nomatch q⟩
    · rw [q]; obtain ⟨o, vs, e, d⟩ := h1.obj; exact ⟨o, e, fun v q => by rw [d] at q; cases q⟩
    · rw [q]; obtain ⟨o, vs, e, d⟩ := h2.obj; exact ⟨o, e, fun v q => by rw [d] at q; cases q⟩
    · rw [q]; obtain ⟨o, vs, e, d⟩ := h3.obj; exact ⟨o, e, fun v q => by rw [d] at q; cases q⟩
  keep := fun i h h' st k => by
    obtain ⟨⟨f0, f, hz, ho⟩, hTI, ⟨x1, x2, x3, hTO⟩, h1, h2, h3⟩ := st
    exact ⟨⟨f0, f, k z (by simp) _ hz, ho⟩, k TI (by simp) _ hTI, ⟨_, _, _, k TO (by simp) _ hTO⟩, h1.at fun o q => k i1 (by simp) o q, h2.at fun o q => k i2 (by simp) o q, h3.at fun o q => k i3 (by simp) o q⟩
  item := by
    intro X hP hw hK hc i pins s σ H E I hf st hg
    subst hP hw hK
    obtain ⟨⟨f0, f, hz, ho⟩, hTI, ⟨b1, b2, b3, hTO⟩, h1, h2, h3⟩ := st
    obtain ⟨l1, l2, l3, x1, x2, x3, hq1, hq2, hq3, hx1, hx2, hx3⟩ := hg
    obtain ⟨its1, rv1, p1⟩ := seqK I hq1
    obtain ⟨u1, hu1, ru1⟩ := rv1.get hx1
    obtain ⟨its2, rv2, p2⟩ := seqK I hq2
    obtain ⟨u2, hu2, ru2⟩ := rv2.get hx2
    obtain ⟨its3, rv3, p3⟩ := seqK I hq3
    obtain ⟨u3, hu3, ru3⟩ := rv3.get hx3
    have hzl : z < s.heap.objs.size := Heap.lt_size hz
    have S := sep3 D hz hO h1 h2 h3 p1 p2 p3
    have hh : X.A.in1.handled = none := I.ok.hd hc
    refine zip3_item S (drawsK hh i1 a1 (p1.ne h1) its1.toArray k1).toDraws (drawsK hh i2 a2 (p2.ne h2) its2.toArray k2).toDraws (drawsK hh i3 a3 (p3.ne h3) its3.toArray k3).toDraws hz ho hTI hTO ⟨h1, p1⟩ ⟨h2, p2⟩ ⟨h3, p3⟩ (by simp only [List.size_toArray]; exact (List.getElem?_eq_some_iff.mp hu1).1) (by simp only [List.size_toArray]; exact (List.getElem?_eq_some_iff.mp hu2).1) (by simp only [List.size_toArray]; exact (List.getElem?_eq_some_iff.mp hu3).1) ?_
    intro w1 w2 w3 h' tk f0' f' hw1 hw2 hw3 z' o' TO' t1' t2' t3' hT hsz hk
    have ew1 : w1 = u1 := by
      have q : its1.toArray[i]? = some w1 := hw1
      rw [List.getElem?_toArray, hu1] at q
      cases q; rfl
    subst ew1
    have ew2 : w2 = u2 := by
      have q : its2.toArray[i]? = some w2 := hw2
      rw [List.getElem?_toArray, hu2] at q
      cases q; rfl
    subst ew2
    have ew3 : w3 = u3 := by
      have q : its3.toArray[i]? = some w3 := hw3
      rw [List.getElem?_toArray, hu3] at q
      cases q; rfl
    subst ew3
    refine ⟨_, rfl, htg _ _ _ _ _ _ ?_⟩
    have new : ObjOk X.prog X.w (upd H s.heap.objs.size (.tup [x1, x2, x3])) h' s.heap.objs.size (.tup [x1, x2, x3]) :=
      ⟨by show 3 ≤ sizeLine; decide, [w1, w2, w3], .cons ru1 (.cons ru2 (.cons ru3 (.nil))), ⟨_, hT, rfl, _, rfl⟩⟩
    have I1 : Inv X pins σ (upd H s.heap.objs.size (.tup [x1, x2, x3])) { s with heap := h', toks := tk } :=
      I.turnedNew (ch := [z, TI, TO, i1, i2, i3]) (fun c o hb q => hk c o (fun q' => hb (by simp [q'])) (fun q' => hb (by simp [q'])) (fun q' => hb (by simp [q'])) (fun q' => hb (by simp [q'])) (fun q' => hb (by simp [q'])) q) hf (Nat.le_refl _) new
    refine ⟨.ref s.heap.objs.size, _, I1, rfl, ⟨_, x1, x2, x3, rfl, I.hok.fresh (Nat.le_refl _), rfl, fun l hl => by rw [injK I hl hq1]; exact hx1, fun l hl => by rw [injK I hl hq2]; exact hx2, fun l hl => by rw [injK I hl hq3]; exact hx3⟩, ⟨⟨f0', f', z', o'⟩, ?_, TO', t1'.1, t2'.1, t3'.1⟩, fun c hcm => ?_⟩
    · exact hk _ _ S.TIz S.TITO S.TIi1 S.TIi2 S.TIi3 hTI
    · have hlt : c < s.heap.objs.size := by
        have e' : c = z ∨ c = TI ∨ c = TO ∨ c = i1 ∨ c = i2 ∨ c = i3 := by simpa using hcm
        rcases e' with q | q | q | q | q | q
        · rw [q]; exact hzl
        · rw [q]; exact Heap.lt_size hTI
        · rw [q]; exact Heap.lt_size hTO
        · rw [q]; exact h1.lt
        · rw [q]; exact h2.lt
        · rw [q]; exact h3.lt
      rw [upd_ne (Nat.ne_of_lt hlt)]
      exact (hf c hcm).1
  done := by
    intro X hP hw hK hc i pins s σ H E I hf st hg
    subst hP hw hK
    obtain ⟨⟨f0, f, hz, ho⟩, hTI, ⟨b1, b2, b3, hTO⟩, h1, h2, h3⟩ := st
    obtain ⟨l1, l2, l3, hq1, hq2, hq3, hend⟩ := hg
    obtain ⟨its1, rv1, p1⟩ := seqK I hq1
    have e1 := rv1.length
    obtain ⟨its2, rv2, p2⟩ := seqK I hq2
    have e2 := rv2.length
    obtain ⟨its3, rv3, p3⟩ := seqK I hq3
    have e3 := rv3.length
    have S := sep3 D hz hO h1 h2 h3 p1 p2 p3
    have hh : X.A.in1.handled = none := I.ok.hd hc
    refine zip3_end S (drawsK hh i1 a1 (p1.ne h1) its1.toArray k1) (drawsK hh i2 a2 (p2.ne h2) its2.toArray k2) (drawsK hh i3 a3 (p3.ne h3) its3.toArray k3) hz ho hTI hTO ⟨h1, p1⟩ ⟨h2, p2⟩ ⟨h3, p3⟩ (by simp only [List.size_toArray]; omega) ?_
    exact fun h' tk hk => ⟨rfl, I.turnedL (t' := tk) (ch := [z, TI, TO, i1, i2, i3]) (fun c o hb q =>
      hk c o (fun q' => hb (by simp [q'])) (fun q' => hb (by simp [q'])) (fun q' => hb (by simp [q'])) (fun q' => hb (by simp [q'])) (fun q' => hb (by simp [q'])) q) hf⟩
  self := fun A i s Q E st h => by
    obtain ⟨⟨f0, f, hz, ho⟩, _⟩ := st
    exact self_zip hz h
def iZip3 (K : PySem.W.Frag) (ta : TA) : TI := fun σ H R => ta σ H fun vs H1 => ∃ (k1 k2 k3 : Bool) (a1 a2 a3 : Addr) (l1 l2 l3 : List V), vs = [.ref a1, .ref a2, .ref a3] ∧ SqK K k1 H1 a1 l1 ∧ SqK K k2 H1 a2 l2 ∧ SqK K k3 H1 a3 l3 ∧ R (Itz3 K k1 k2 k3 a1 a2 a3) H1
theorem pi_zip3N {X : Cx} {e1 e2 e3 : Expr} {ta : TA} {p pos : Pos} {tg : Expr} (htg : ∀ (A : Around) (s : Shared) (a b : Addr) (Q : Unit → Shared → Prop) (E : Value → Shared → Prop), Q () s → wpAny (model X.prog X.w) A (letOwnedTupleGo tg (.ref a) (.ref b)) Q E s) (hg : Gl X "zip") (hm : X.mg "zip" = none) (ha : PA X [e1, e2, e3] ta)
    (hs : starEach [e1, e2, e3] X.env = (false, eval e1 X.env) :: starEach [e2, e3] X.env) (hpl : (backTo pos (starEach [e2, e3] X.env)).any (·.1) = false) :
    PI X tg (.Call (.Name "zip" p) [e1, e2, e3] [] pos) (iZip3 X.K ta) := by
  refine ⟨fun pins s σ H R I h => ?_⟩
  refine Call_ (ld_blt I hg hm PyProof.Rows.boot_zip (PyProof.Rows.callWith_type1 (thn (ha.run pos pins s σ H _ I h) fun us s1 ⟨vs, H1, I1, r1, q1⟩ => ?_) hs hpl))
  obtain ⟨k1, k2, k3, a1, a2, a3, l1, l2, l3, ex, hq1, hq2, hq3, q1⟩ := q1
  subst ex
  obtain ⟨u1, u2, u3, rfl, r1, r2, r3⟩ := vals3' r1
  cases r1
  cases r2
  cases r3
  obtain ⟨its1, rv1, p1⟩ := seqK I1 hq1
  obtain ⟨its2, rv2, p2⟩ := seqK I1 hq2
  obtain ⟨its3, rv3, p3⟩ := seqK I1 hq3
  have fresh : ∀ c, c ∈ [s1.heap.objs.size + 5, s1.heap.objs.size + 3, s1.heap.objs.size + 4, s1.heap.objs.size, s1.heap.objs.size + 1, s1.heap.objs.size + 2] → FpOk X pins H1 c := fun c hcm => by
    have hle : s1.heap.objs.size ≤ c := by
      have e' : c = s1.heap.objs.size + 5 ∨ c = s1.heap.objs.size + 3 ∨ c = s1.heap.objs.size + 4 ∨ c = s1.heap.objs.size ∨ c = s1.heap.objs.size + 1 ∨ c = s1.heap.objs.size + 2 := by simpa using hcm
      rcases e' with z | z | z | z | z | z <;> (rw [z]; first | exact Nat.le_add_right _ _ | exact Nat.le_refl _)
    exact I1.fpOk hle (I1.hok.fresh hle)
  refine zip_begins3 (beginsK a1 its1.toArray k1) (beginsK a2 its2.toArray k2) (beginsK a3 its3.toArray k3) p1 p2 p3 fun h' hz hTI hTO g1 g2 g3 hsz hk => ?_
  have hz' : IsZipG h' (s1.heap.objs.size + 5) (s1.heap.objs.size + 3) (s1.heap.objs.size + 4) .none false := hz
  refine self_zip (s := { s1 with heap := h' }) hz' ?_
  have I2 : Inv X pins σ H1 { s1 with heap := h' } := I1.kept (t' := s1.toks) hk
  have lt1 : (a1 : Nat) < s1.heap.objs.size := p1.lt
  have lt2 : (a2 : Nat) < s1.heap.objs.size := p2.lt
  have lt3 : (a3 : Nat) < s1.heap.objs.size := p3.lt
  refine ⟨s1.heap.objs.size + 5, [s1.heap.objs.size + 5, s1.heap.objs.size + 3, s1.heap.objs.size + 4, s1.heap.objs.size, s1.heap.objs.size + 1, s1.heap.objs.size + 2], _, _, H1, rfl, I2, turn_zip3 htg (k1 := k1) (a1 := a1) (TO := s1.heap.objs.size + 4) (show Ap3 (s1.heap.objs.size + 5) (s1.heap.objs.size + 3) (s1.heap.objs.size + 4) (s1.heap.objs.size) (s1.heap.objs.size + 1) (s1.heap.objs.size + 2) from ⟨(show (s1.heap.objs.size + 3 : Nat) ≠ s1.heap.objs.size + 5 by omega), (show (s1.heap.objs.size + 4 : Nat) ≠ s1.heap.objs.size + 5 by omega), (show (s1.heap.objs.size + 3 : Nat) ≠ s1.heap.objs.size + 4 by omega), (show (s1.heap.objs.size + 3 : Nat) ≠ s1.heap.objs.size by omega), (show (s1.heap.objs.size + 3 : Nat) ≠ s1.heap.objs.size + 1 by omega), (show (s1.heap.objs.size + 3 : Nat) ≠ s1.heap.objs.size + 2 by omega), (show (s1.heap.objs.size + 4 : Nat) ≠ s1.heap.objs.size by omega), (show (s1.heap.objs.size + 4 : Nat) ≠ s1.heap.objs.size + 1 by omega), (show (s1.heap.objs.size + 4 : Nat) ≠ s1.heap.objs.size + 2 by omega), (show (s1.heap.objs.size + 5 : Nat) ≠ s1.heap.objs.size by omega), (show (s1.heap.objs.size + 5 : Nat) ≠ s1.heap.objs.size + 1 by omega), (show (s1.heap.objs.size + 5 : Nat) ≠ s1.heap.objs.size + 2 by omega), (show (s1.heap.objs.size : Nat) ≠ s1.heap.objs.size + 1 by omega), (show (s1.heap.objs.size : Nat) ≠ s1.heap.objs.size + 2 by omega), (show (s1.heap.objs.size + 1 : Nat) ≠ s1.heap.objs.size + 2 by omega)⟩) ⟨Nat.ne_of_lt (Nat.lt_of_lt_of_le lt1 (Nat.le_add_right _ _)), Nat.ne_of_lt (Nat.lt_of_lt_of_le lt2 (Nat.le_add_right _ _)), Nat.ne_of_lt (Nat.lt_of_lt_of_le lt3 (Nat.le_add_right _ _))⟩, ⟨⟨_, _, hz', .inl rfl⟩, hTI, ⟨_, _, _, hTO⟩, itK_of g1, itK_of g2, itK_of g3⟩, fresh, q1⟩
end ZN
end
section
set_option Elab.async false
set_option linter.all false
set_option maxRecDepth 100000
set_option maxHeartbeats 1000000
set_option autoImplicit false
/-! S2: dicts by hand: sorted(d), dict(pairs). -/
namespace Y
open PySem PySem.Spec PyProof.Rows L2 LamX NdefX PySem.W PySem.SeqAt PySem.Calls
def dlen : HO → Option Nat
  | .dK kvs => some kvs.length
  | .dT kvs => some kvs.length
  | _ => none
/-- the i-th key, as it stands -/
def KAt (H : Hp) (o : HO) (i : Nat) (v : V) : Prop := match o with
  | .dT kvs => ∃ b w x, kvs[i]? = some (w, x) ∧ v = .ref b ∧ H b = some (.tup (w.map kV))
  | .dK kvs => ∃ k x, kvs[i]? = some (k, x) ∧ v = kV k
  | _ => False
theorem paired_get {α β : Type} {F : α → β → Prop} : ∀ {l : List α} {m : List β}, Paired F l m → ∀ (i : Nat) (y : β), m[i]? = some y → ∃ x, l[i]? = some x ∧ F x y
  | _, _, .nil, i, y, h => by simp at h
  | _, _, .cons (a := a) r t, 0, y, h => by simp at h; subst h; exact ⟨a, rfl, r⟩
  | _, _, .cons r t, i + 1, y, h => by simpa using paired_get t i y (by simpa using h)
theorem paired_get' {α β : Type} {F : α → β → Prop} : ∀ {l : List α} {m : List β}, Paired F l m → ∀ (i : Nat) (x : α), l[i]? = some x → ∃ y, m[i]? = some y ∧ F x y
  | _, _, .nil, i, y, h => by simp at h
  | _, _, .cons (b := b) r t, 0, y, h => by simp at h; subst h; exact ⟨b, rfl, r⟩
  | _, _, .cons r t, i + 1, y, h => by simpa using paired_get' t i y (by simpa using h)
section
variable {X : Cx} {pins : List (Addr × Obj)} {σ : L2.St} {H : Hp} {s : Shared} {a : Addr} {o : HO} {n : Nat}
theorem raw_keys (I : Inv X pins σ H s) (e : H a = some o) (hn : dlen o = some n) : ∃ (es : Array DictEntry) (ep : Nat) (ks : List V), s.heap.DictRaw a es ep ∧ es.size = n ∧ n ≤ sizeLine ∧ (a == sysModules) = false ∧ ks.length = n ∧
    (∀ i v, ks[i]? = some v → KAt H o i v) ∧ ∀ i (hi : i < es.size), ∃ v, ks[i]? = some v ∧ RelV v es[i].key := by
  cases o with
  | dK kvs =>
    cases hn
    obtain ⟨z, hd, vs, rel, dd⟩ := dk_of I.hok e
    obtain ⟨es, ep, hr, hs, he⟩ := dd.raw
    refine ⟨es, ep, kvs.map fun p => kV p.1, hr, by rw [hs, ← rel.length], z, hd, by simp, fun i v hv => ?_, fun i hi => ?_⟩
    · rw [List.getElem?_map] at hv
      cases hk : kvs[i]? with
      | none => rw [hk] at hv; cases hv
      | some p => rw [hk] at hv; cases hv; exact ⟨p.1, p.2, hk, rfl⟩
    · have hl : i < vs.length := hs ▸ hi
      obtain ⟨p, hp, hq⟩ := paired_get rel i vs[i] (List.getElem?_eq_getElem hl)
      refine ⟨kV p.1, by rw [List.getElem?_map, hp]; rfl, ?_⟩
      have := (he i hi vs[i].1 vs[i].2 (List.getElem?_eq_getElem hl)).1
      rw [← hq.1] at this
      exact relV_key this
  | dT kvs =>
    cases hn
    obtain ⟨z, hd, xs, rel, dd⟩ := dt_of I.hok e
    obtain ⟨es, ep, hr, hs, he⟩ := dd.raw
    refine ⟨es, ep, xs.map fun y => V.ref y.2.1, hr, by rw [hs, ← Paired.length rel], z, hd, by simp [Paired.length rel], fun i v hv => ?_, fun i hi => ?_⟩
    · rw [List.getElem?_map] at hv
      cases hk : xs[i]? with
      | none => rw [hk] at hv; cases hv
      | some y =>
        rw [hk] at hv; cases hv
        obtain ⟨p, hp, h1, h2, h3⟩ := paired_get rel i y hk
        exact ⟨y.2.1, p.1, p.2, hp, rfl, h2⟩
    · obtain ⟨y, hy, h1, _⟩ := he i hi
      refine ⟨.ref y.2.1, by rw [List.getElem?_map, hy]; rfl, ?_⟩
      rw [h1]; rfl
  | _ => cases hn
end
theorem vals_get : ∀ {ks : List V} {us : List Value}, ks.length = us.length → (∀ (i : Nat) (u : Value), us[i]? = some u → ∃ v, ks[i]? = some v ∧ RelV v u) → Vals ks us
  | [], [], _, _ => .nil
  | v :: ks, u :: us, hl, h => by
    obtain ⟨v', e, r⟩ := h 0 u rfl
    cases e
    exact .cons r (vals_get (by simpa using hl) fun i u hu => by simpa using h (i + 1) u (by simpa using hu))
  | [], _ :: _, hl, _ => by simp at hl
  | _ :: _, [], hl, _ => by simp at hl
section
variable {prog : Program} {w : World} {A : Around} {E : Value → Shared → Prop} {s : Shared} {T : String} {r d : Addr} {n : Nat} {P : Nat → Value → Prop} {OK : Heap → Prop}
/-- the items of a dict's own iterator, collected; the new list's place is told -/
theorem collect_d {R : List Value → Shared → Prop} (K : KdlSrc prog w T r d n P OK) (hh : A.handled = none) (hok : OK s.heap) (hn : n ≤ sizeLine)
    (h : ∀ (h' : Heap) (tk : Nat) (acc : Array Value), (∀ b o, s.heap.get? b = some o → h'.get? b = some o) → s.heap.objs.size < h'.objs.size → ItemsOf P acc n → R acc.toList { s with heap := h', toks := tk }) :
    wpAny (model prog w) A (collect (.ref r)) R E s := by
  have hlt := K.there _ hok
  unfold collect
  refine wpAny_bind (wpAny_runValue (codeAny_builtin entry_proto_collect' ?_))
  rw [Around.under_plainId PySem.F.plain_proto_collect _]
  show wpAny _ A.in1 (newList [] >>= fun l => again (.builtin "list.__iadd__" ⟨[l, .ref r], []⟩)) _ _ s
  refine wpAny_bind (wpAny_newObj_type ?_)
  refine wpAny_pure ⟨plainId_quiet PySem.F.plain_list_iadd _, codeAny_builtin entry_list_iadd' ?_⟩
  rw [Around.under_plainId PySem.F.plain_list_iadd _]
  have hS₁ : (s.heap.push { cls := .type "list", data := .seq ([] : List Value).toArray }).get? s.heap.objs.size = some { cls := .type "list", data := .seq #[] } := Heap.get?_push_size _ rfl
  show wpAny _ A.in1 (Builtin.List.listExtendWith (.ref s.heap.objs.size) (.ref r) (.ref s.heap.objs.size)) _ _ _
  have key := kdl_extend (A := A) (s := { s with heap := s.heap.push { cls := .type "list", data := .seq ([] : List Value).toArray } })
    (R := fun (q : Result) (s' : Shared) => ∃ (h' : Heap) (tk : Nat) (acc' : Array Value) (c' : Nat), q = .ok (.ret (.ref s.heap.objs.size)) ∧ s' = { s with heap := h', toks := tk } ∧
      (∀ b o, s.heap.get? b = some o → h'.get? b = some o) ∧ h'.get? s.heap.objs.size = some { cls := .type "list", dict := none, data := .seq acc' c', slots := #[] } ∧ ItemsOf P acc' n)
    K hh (K.keep _ _ hok fun b _ o e => Heap.get?_push_of_some _ e) s.heap.objs.size (Nat.ne_of_gt hlt.1) (Nat.ne_of_gt hlt.2) (.ref s.heap.objs.size) 0 hS₁
    (fun h' tk acc' c' hk hS' hacc => ⟨h', tk, acc', c', rfl, rfl, fun b o e => hk b o (Nat.ne_of_lt (Heap.lt_size e)) (Heap.get?_push_of_some _ e), hS', hacc⟩) hn
  refine wpAny_mono key (fun fin s' x => ?_) fun e s' x => ?_
  · cases fin with
    | done f =>
      obtain ⟨h', tk, acc', c', e, rfl, hk, hS', hacc⟩ := x
      cases e
      show wpAny _ A (load s.heap.objs.size >>= _) _ _ _
      refine wpAny_bind (wpAny_load hS' ?_)
      exact wpAny_pure (h h' tk acc' hk (Heap.lt_size hS') hacc)
    | again c₁ =>
      refine ⟨x.1, codeAny_mono x.2 fun q s₂ y => ?_⟩
      obtain ⟨h', tk, acc', c', rfl, rfl, hk, hS', hacc⟩ := y
      show wpAny _ A (load s.heap.objs.size >>= _) _ _ _
      refine wpAny_bind (wpAny_load hS' ?_)
      exact wpAny_pure (h h' tk acc' hk (Heap.lt_size hS') hacc)
  · obtain ⟨_, _, _, _, e', _⟩ := x
    cases e'
end
/-- sorted(d) -/
def rSortK (K : PySem.W.Frag) : List V → Hp → VK → Prop := fun vs H Q => ∃ (a : Addr) (o : HO) (n : Nat) (ds : List PyData), vs = [V.ref a] ∧ H a = some o ∧ dlen o = some n ∧ ds.length = n ∧ AllAlike ds ∧ Srt0 ds ∧ (∀ d ∈ ds, d.depth ≤ 60) ∧
  ∀ xs : List V, xs.length = n → (∀ i v, xs[i]? = some v → KAt H o i v) → DpAll K H xs ds ∧ ∀ p, H p = none → Q (.ref p) (upd H p (.lst (((xs.zip ds).mergeSort (dataLe false Prod.snd)).map Prod.fst)))
theorem cr_sortK {X : Cx} (hc : X.calm = true) (hu : X.A.units + 64 < cLine) : CallR X (.builtin "sorted") (rSortK X.K) := by
  intro pins s σ H vs us Q I r h
  obtain ⟨a, o, n, ds, rfl, ha, hn, hdl, hal, hk, hdep, q⟩ := h
  obtain ⟨u, rfl, ru⟩ := vals1 r
  obtain rfl : u = Value.ref a := ru
  obtain ⟨es, ep, ks, hr, hs, hz, hd, hkl, hka, hkr⟩ := raw_keys I ha hn
  obtain ⟨hdp, q⟩ := q ks hkl hka
  have hh : X.A.in1.handled = none := I.ok.hd hc
  refine call_function_entry kind_sorted plain_sorted entry_sorted (args_sorted1 _) ?_
  unfold Builtin.«sorted»
  refine wpAny_bind (m := checkCount "sorted" 1 1 _) (wpAny_pure ?_)
  refine wpAny_bind (collect_d (A := X.A.in1) (KdlSrc.rawDict hd) hh hr (by omega) fun h' tk acc hkeep hlt hacc => ?_)
  have hal' : acc.toList.length = n := by rw [Array.length_toList, hacc.1, hs]
  refine wpAny_bind (wpAny_newList ?_ (by rw [hal']; exact hz))
  have rv : Vals ks acc.toList := vals_get (by omega) fun i u hu => by
    obtain ⟨hi, e⟩ := hacc.2 i u (by rw [← Array.getElem?_toList]; exact hu)
    rw [e]
    exact hkr i hi
  generalize acc.toList = its at rv hal' ⊢
  have I' : Inv X pins σ H { s with heap := h'.push (seqObj "list" its.toArray 0), toks := tk } := I.kept fun b o e => Heap.get?_push_of_some _ (hkeep b o e)
  have e := each_zip hdp rv
  have hlen := dpAll_len hdp
  have em : (ks.zip ds).map Prod.snd = ds := by rw [List.map_snd_zip]; omega
  have at' : (h'.push (seqObj "list" its.toArray 0)).get? h'.objs.size = some (seqObj "list" its.toArray 0) := Heap.get?_push_size _ rfl
  have old : ∀ b ob, s.heap.get? b = some ob → (sortingHeap (h'.push (seqObj "list" its.toArray 0)) h'.objs.size its).get? b = some ob := fun b ob hb =>
    sortingHeap_old (Nat.ne_of_lt (Nat.lt_trans (Heap.lt_size hb) hlt)) (Heap.get?_push_of_some _ (hkeep b ob hb))
  have er : EachIs (fun v b => ∃ as, Reads (sortingHeap (h'.push (seqObj "list" its.toArray 0)) h'.objs.size its) v (Prod.snd b) as) its (ks.zip ds) := e.mono fun u b hb => by
    obtain ⟨as, rr⟩ := Dp.reads I _ _ _ hb.2 hb.1
    exact ⟨as, PyProof.Rows.Reads.keeps old rr⟩
  refine wpAny_bind (wpAny_holding (wpAny_call_entry_kw (slot_list_sort) ⟨_, at', rfl⟩ entry_list_sort ?body (args_list_sort _)))
  case body =>
    show wpAny (model X.prog X.w) X.A.in1.in1 (Builtin.«list.sort» ⟨[.ref h'.objs.size], []⟩) _ _ _
    refine list_sort_vals (s := { s with heap := h'.push (seqObj "list" its.toArray 0), toks := tk }) at' (sorts_data (each_map (R := fun v d => ∃ as, Reads (sortingHeap (h'.push (seqObj "list" its.toArray 0)) h'.objs.size its) v d as) Prod.snd er) (by rw [em]; exact hal) (by rw [em]; exact hk) (bound_map (fun b hb => ?_))) (by omega) ?_
    · have := hdep b.2 (by rw [← em]; exact List.mem_map_of_mem hb)
      have e1 : X.A.in1.in1.units = X.A.units + 2 := rfl
      omega
    · refine ⟨_, rfl, wpAny_pure ⟨_, rfl, ?_⟩⟩
      have hv := each_vals (sortVals_data false e er (by rw [em]; exact hal))
      obtain ⟨n', hn'⟩ := sortedHeap_at at'
      have hsz : (((ks.zip ds).mergeSort (dataLe false Prod.snd)).map Prod.fst).length ≤ sizeLine := by
        rw [List.length_map, List.length_mergeSort, List.length_zip, ← hlen, Nat.min_self]
        omega
      refine ⟨.ref h'.objs.size, upd H h'.objs.size (.lst (((ks.zip ds).mergeSort (dataLe false Prod.snd)).map Prod.fst)), I.laid (t' := tk) (fun b o ho => ?_) (Nat.le_of_lt hlt) ⟨hsz, _, n', hv, hn'⟩, rfl, q _ (I.hok.fresh (Nat.le_of_lt hlt))⟩
      have hb : b < h'.objs.size := Nat.lt_trans (Heap.lt_size ho) hlt
      rw [sortedHeap_old (Nat.ne_of_lt hb) (by rw [size_push']; exact Nat.lt_succ_of_lt hb)]
      exact Heap.get?_push_of_some _ (hkeep b o ho)
end Y
namespace Y
open PySem PySem.Spec PyProof.Rows L2 LamX NdefX PySem.W PySem.SeqAt PySem.Calls
section
variable {X : Cx}
def mergT (kvs more : List (List Key × V)) : List (List Key × V) := more.foldl (fun acc kv => putK acc kv.1 kv.2) kvs
theorem mergT_len : ∀ (more kvs : List (List Key × V)), (mergT kvs more).length ≤ kvs.length + more.length
  | [], _ => by simp [mergT]
  | p :: r, kvs => by
    have h1 := mergT_len r (putK kvs p.1 p.2)
    have h2 := length_putK kvs p.1 p.2
    simp only [mergT, List.foldl_cons, List.length_cons] at h1 ⊢
    omega
theorem pairsT {pins : List (Addr × Obj)} {σ : L2.St} {H : Hp} {s : Shared} (I : Inv X pins σ H s) : ∀ {ps : List Addr} {kvs : List (List Key × V)}, Paired (fun p kv => ∃ b, SqT X.K H p [.ref b, kv.2] ∧ H b = some (.tup (kv.1.map kV))) ps kvs →
    ∃ prs : List (List Key × Addr × Value), KT H kvs prs ∧ prs.length = ps.length ∧ ∀ (j : Nat) (q : List Key × Addr × Value), prs[j]? = some q → ∃ b : Addr, ps[j]? = some b ∧ IsTup s.heap b #[.ref q.2.1, q.2.2]
  | _, _, .nil => ⟨[], .nil, rfl, fun j q e => by simp at e⟩
  | _, _, .cons (a := p) (b := kv) h t => by
    obtain ⟨prs, r, hl, hp⟩ := pairsT I t
    obtain ⟨b, h, hb⟩ := h
    obtain ⟨its, rv, ht, _⟩ := I.tuple h
    obtain ⟨u, y, ei, ru, ry⟩ := vals2 rv
    subst ei
    obtain rfl : u = Value.ref b := ru
    refine ⟨(kv.1, b, y) :: prs, .cons ⟨rfl, hb, ry⟩ r, by rw [List.length_cons, List.length_cons, hl], fun j q e => ?_⟩
    cases j with
    | zero =>
      have e' : (kv.1, b, y) = q := Option.some.inj e
      subst e'
      exact ⟨p, rfl, ht⟩
    | succ j =>
      obtain ⟨b', e1, e2⟩ := hp j q (by simpa using e)
      exact ⟨b', by simpa using e1, e2⟩
theorem kt_merge {H : Hp} : ∀ {kvs : List (List Key × V)} {prs : List (List Key × Addr × Value)} {acc : List (List Key × V)} {ac : List (List Key × Addr × Value)}, KT H kvs prs → KT H acc ac → KT H (mergT acc kvs) (storedAllH ac prs)
  | _, _, _, _, .nil, h => h
  | (k, _) :: _, (k', _, _) :: _, _, _, .cons ⟨h1, h2, h3⟩ t, h => by
    obtain rfl : k = k' := h1
    have z := kt_merge t (h.put k h2 h3)
    exact z
/-- dict(xs) of a list of pairs, the keys rows -/
def rDictT (K : PySem.W.Frag) : List V → Hp → VK → Prop := fun xs H Q => ∃ (a : Addr) (ps : List Addr) (kvs : List (List Key × V)), xs = [.ref a] ∧ SqL K H a (ps.map V.ref) ∧ Paired (fun p kv => ∃ b, SqT K H p [.ref b, kv.2] ∧ H b = some (.tup (kv.1.map kV))) ps kvs ∧
    ∀ p, H p = none → Q (.ref p) (upd H p (.dT (mergT [] kvs)))
theorem cr_dictT (hcalm : X.calm = true) (hu : X.A.units + 64 < cLine) : CallR X (.type "dict") (rDictT X.K) := by
  intro pins s σ H xs us Q I r q
  obtain ⟨a, ps, kvs, ex, hq, hp, q⟩ := q
  subst ex
  obtain ⟨u, eu, rx⟩ := vals1 r
  subst eu
  cases rx
  obtain ⟨its, rv, pl, hz⟩ := I.list hq
  have ei := refs_at rv
  subst ei
  rw [List.length_map] at hz
  obtain ⟨prs, rel, hl, hpr⟩ := pairsT I hp
  obtain ⟨o, n, ho, hc, hd, hdat⟩ := pl
  have keys : ∀ x ∈ prs, H x.2.1 = some (.tup (x.1.map kV)) := fun x hx => by
    obtain ⟨j, hj⟩ := List.mem_iff_getElem?.mp hx
    obtain ⟨y, _, h1, h2, _⟩ := paired_get rel j x hj
    rw [← h1]; exact h2
  have hm : (s.heap.objs.size == sysModules) = false := beq_eq_false_iff_ne.mpr (Nat.ne_of_gt I.big)
  refine call_dict_pairsH (knd := tupleKind (mixKind X.prog X.w)) (ps := prs)
    (PairArg.list a (ps.map Value.ref).toArray (fun j => (ps[j]?).getD 0) (prs.map fun q => (Value.ref q.2.1, q.2.2))) (I.ok.hd hcalm)
    (show X.A.units + 2 < cLine by omega) ⟨⟨o, n, ho, hc, hd, hdat⟩, by simp [hl], fun j k v hj => ?_⟩ ⟨by simp, fun i key v hr => ?_⟩ (fun h' hk x hx => ?_) (by simp [hl]; exact hz) fun h' tk hd' hk => ?_
  · rw [List.getElem?_map] at hj
    cases hq' : prs[j]? with
    | none => rw [hq'] at hj; cases hj
    | some q' =>
      rw [hq'] at hj; cases hj
      obtain ⟨b, e1, e2⟩ := hpr j q' hq'
      refine ⟨by simp [e1], .inl ?_⟩
      show s.heap.IsTuple ((ps[j]?).getD 0) _
      rw [e1]
      exact e2
  · have hr' : (prs.map fun q => (Value.ref q.2.1, q.2.2))[i]? = some (key, v) := hr
    rw [List.getElem?_map] at hr'
    cases hq' : prs[i]? with
    | none => rw [hq'] at hr'; cases hr'
    | some q' => rw [hq'] at hr'; cases hr'; exact ⟨q'.1, q'.2.1, rfl, rfl⟩
  · obtain ⟨ob, it, m, e1, e2, e3, e4⟩ := key_of (P := X.prog) (w := X.w) I.hok (keys x hx)
    exact ⟨ob, it, m, hk _ _ (Nat.ne_of_lt (Heap.lt_size e1)) (by simp) e1, e2, e3, e4⟩
  · have hlen : (mergT [] kvs).length ≤ sizeLine := by
      refine Nat.le_trans (mergT_len kvs []) ?_
      rw [List.length_nil, Nat.zero_add, Paired.length rel, hl]
      exact hz
    have hn := I.hok.fresh (Nat.le_refl s.heap.objs.size)
    obtain ⟨o', es, ep, h1, h2, h3, h4, _, h5⟩ := hd'
    exact ⟨.ref s.heap.objs.size, upd H s.heap.objs.size (.dT (mergT [] kvs)), I.laid (t' := tk) (fun b o e => hk b o (by simp) e) (Nat.le_refl _)
      (show ObjOk X.prog X.w _ _ _ (.dT (mergT [] kvs)) from ⟨hlen, hm, storedAllH [] prs, (kt_merge rel .nil).keeps (fun b ys hb => by rw [upd_ne (fun z => by rw [z, hn] at hb; cases hb)]; exact hb), o', es, ep, h1, h2, h3, h4, h5⟩), rfl, q _ hn⟩
end
end Y
end
section
set_option Elab.async false
set_option linter.all false
set_option maxRecDepth 100000
set_option maxHeartbeats 1000000
set_option autoImplicit false
/-! Y8: built-in functions, isinstance, methods of lists, lambdas. -/
namespace Y
open PySem PySem.Spec PyProof.Rows L2 LamX NdefX
variable {Z : Lk} {C : Cs} {c : Cf} {CE : List (Str × Addr)} {X : Cx} {E : XK} {pos : Pos} {x y z : Expr} {a b d : Y.E} {n : Nat} {k : Nat}
theorem cr_imp {f : Value} {r r' : List V → Hp → VK → Prop} (h : CallR X f r) (i : ∀ xs H Q, r' xs H Q → r xs H Q) : CallR X f r' := fun pins s σ H xs us Q I r q => h pins s σ H xs us Q I r (i xs H Q q)
/-- our reading of a built-in -/
def rBi (Z : Lk) (E : XK) (b : Bi) : List V → Hp → VK → Prop := fun vs H Q => ∃ bx bs μ st xs, StoR Z bx μ st H ∧ Reps Z H μ vs xs ∧ tR (relD Z) Z E bx bs μ st H (Res.of (biD b (xs.map (deref st))) st) Q
section
variable {bx : List Nat} {bs : Nat} {μ : Mu} {st : Sto} {H : Hp}
theorem bi1 {vs : List V} {xs : List D} {e : D} (s : StoR Z bx μ st H) (r : Reps Z H μ vs xs) (h : xs.map (deref st) = [e]) : ∃ v, vs = [v] ∧ Vw Z H μ v e := by
  cases r with
  | nil => cases h
  | cons q r =>
    cases r with
    | nil =>
      simp only [List.map_cons, List.map_nil, List.cons.injEq, and_true] at h
      subst h; exact ⟨_, rfl, vw_of s q⟩
    | cons _ _ => cases h
theorem bi2 {vs : List V} {xs : List D} {e f : D} (s : StoR Z bx μ st H) (r : Reps Z H μ vs xs) (h : xs.map (deref st) = [e, f]) : ∃ v w, vs = [v, w] ∧ Vw Z H μ v e ∧ Vw Z H μ w f := by
  cases r with
  | nil => cases h
  | cons q r =>
    cases r with
    | nil => cases h
    | cons q2 r =>
      cases r with
      | nil =>
        simp only [List.map_cons, List.map_nil, List.cons.injEq, and_true] at h
        obtain ⟨h1, h2⟩ := h
        subst h1 h2; exact ⟨_, _, rfl, vw_of s q, vw_of s q2⟩
      | cons _ _ => cases h
end
theorem foldl_max : ∀ (ns : List Int) (n : Int), (ns.foldl max n ∈ n :: ns) ∧ ∀ y ∈ n :: ns, y ≤ ns.foldl max n
  | [], n => by simp
  | m :: ns, n => by
    obtain ⟨h1, h2⟩ := foldl_max ns (max n m)
    simp only [List.foldl_cons]
    refine ⟨?_, fun y hy => ?_⟩
    · rcases List.mem_cons.mp h1 with e | e
      · rw [e]; rcases Int.le_total n m with q | q
        · simp [Int.max_eq_right q]
        · simp [Int.max_eq_left q]
      · simp [e]
    · have h3 := h2 (max n m) (by simp)
      rcases List.mem_cons.mp hy with e | e
      · subst e; omega
      · rcases List.mem_cons.mp e with e | e
        · subst e; omega
        · exact h2 y (by simp [e])
theorem foldl_min : ∀ (ns : List Int) (n : Int), (ns.foldl min n ∈ n :: ns) ∧ ∀ y ∈ n :: ns, ns.foldl min n ≤ y
  | [], n => by simp
  | m :: ns, n => by
    obtain ⟨h1, h2⟩ := foldl_min ns (min n m)
    simp only [List.foldl_cons]
    refine ⟨?_, fun y hy => ?_⟩
    · rcases List.mem_cons.mp h1 with e | e
      · rw [e]; rcases Int.le_total n m with q | q
        · simp [Int.min_eq_left q]
        · simp [Int.min_eq_right q]
      · simp [e]
    · have h3 := h2 (min n m) (by simp)
      rcases List.mem_cons.mp hy with e | e
      · subst e; omega
      · rcases List.mem_cons.mp e with e | e
        · subst e; omega
        · exact h2 y (by simp [e])
theorem bi_of (b : Bi) {r : List V → Hp → VK → Prop} (h : CallR X (biV b) r) (i : ∀ (bx : List Nat) (bs : Nat) (μ : Mu) (st : Sto) (vs : List V) (xs : List D) (H : Hp) (Q : VK) (e : D), StoR Z bx μ st H → Reps Z H μ vs xs → biD b (xs.map (deref st)) = some e → tR (relD Z) Z E bx bs μ st H (Res.of (some e) st) Q → r vs H Q) : CallR X (biV b) (rBi Z E b) :=
  cr_imp h fun vs H Q ⟨bx, bs, μ, st, xs, s, r, h⟩ => by
    obtain ⟨e, he, hq⟩ := tR_of s h
    exact i bx bs μ st vs xs H Q e s r he hq
theorem cr_or {f : Value} {r r' : List V → Hp → VK → Prop} (h : CallR X f r) (h' : CallR X f r') : CallR X f (fun xs H Q => r xs H Q ∨ r' xs H Q) := fun pins s σ H xs us Q I rv q => q.elim (h pins s σ H xs us Q I rv) (h' pins s σ H xs us Q I rv)
theorem zip_len {k : DK} {vs : List V} (h : k.len = vs.length) : dlen (k.ho vs) = some vs.length := by
  cases k <;> (simp only [DK.ho, dlen, List.length_zip, List.length_map]; simp only [DK.len] at h; rw [h, Nat.min_self])
theorem bi_len (hK : X.K = Z.K) : CallR X (.builtin "len") (rBi Z E .len) := bi_of .len (cr_or call_len (cr_or call_lenD call_len_dT)) fun bx bs μ st vs xs H Q e s r he hq => by
  have hq : ∀ v, Rep Z H μ v e → Q v H := fun v => hq v H μ (NxE.refl s)
  generalize e2 : xs.map (deref st) = ds at he
  replace he : bLen ds = some e := he
  unfold bLen at he
  split at he
  · cases he
    obtain ⟨v, rfl, w⟩ := bi1 s r e2
    obtain ⟨a, vs, rfl, hl, rl⟩ := w.lst'
    exact .inl ⟨_, vs.length, rfl, .inl ⟨vs, by rw [hK]; exact hl, rfl⟩, by rw [rl.length]; exact hq _ (.int _)⟩
  · cases he
    obtain ⟨v, rfl, w⟩ := bi1 s r e2
    obtain ⟨a, vs, rfl, hl, rl⟩ := w.tup
    exact .inl ⟨_, vs.length, rfl, .inr ⟨vs, by rw [hK]; exact hl.sqt, rfl⟩, by rw [rl.length]; exact hq _ (.int _)⟩
  · rename_i zs
    by_cases hl : line zs.length = true
    · rw [if_pos hl] at he; cases he
      obtain ⟨v, rfl, w⟩ := bi1 s r e2
      rw [w.str]
      exact .inl ⟨_, zs.length, rfl, ⟨line_le hl, rfl⟩, hq _ (.int _)⟩
    · rw [if_neg hl] at he; cases he
  · rename_i k zs
    by_cases hl : k.len = zs.length
    · rw [if_pos hl] at he; cases he
      obtain ⟨v, rfl, w⟩ := bi1 s r e2
      obtain ⟨a, vs, rfl, g2, g3, g4⟩ := w.dct'
      have hz := zip_len g3
      refine .inr ?_
      cases k with
      | iw ks =>
        refine .inl ⟨a, _, rfl, g2, ?_⟩
        rw [Option.some.inj hz, g4.length]; exact hq _ (.int _)
      | rw ks =>
        refine .inr ⟨a, _, rfl, g2, ?_⟩
        rw [Option.some.inj hz, g4.length]; exact hq _ (.int _)
    · rw [if_neg hl] at he; cases he
  · cases he
theorem bi_int : CallR X (.type "int") (rBi Z E .int) := bi_of .int call_int1 fun bx bs μ st vs xs H Q e s r he hq => by
  have hq : ∀ v, Rep Z H μ v e → Q v H := fun v => hq v H μ (NxE.refl s)
  generalize e2 : xs.map (deref st) = ds at he
  replace he : bInt ds = some e := he
  unfold bInt at he
  split at he
  · cases he
    obtain ⟨v, rfl, w⟩ := bi1 s r e2
    rw [w.int]
    exact .inl ⟨_, rfl, hq _ (.int _)⟩
  · cases he
    obtain ⟨v, rfl, w⟩ := bi1 s r e2
    rw [w.bl]
    exact .inr ⟨_, rfl, hq _ (.int _)⟩
  · cases he
theorem bi_abs : CallR X (.builtin "abs") (rBi Z E .abs) := bi_of .abs call_abs fun bx bs μ st vs xs H Q e s r he hq => by
  have hq : ∀ v, Rep Z H μ v e → Q v H := fun v => hq v H μ (NxE.refl s)
  generalize e2 : xs.map (deref st) = ds at he
  replace he : bAbs ds = some e := he
  unfold bAbs at he
  split at he
  · cases he
    obtain ⟨v, rfl, w⟩ := bi1 s r e2
    rw [w.int]
    exact ⟨_, rfl, hq _ (.int _)⟩
  · cases he
theorem bi_tuple (hK : X.K = Z.K) : CallR X (.type "tuple") (rBi Z E .tuple) := bi_of .tuple call_tuple_of fun bx bs μ st vs xs H Q e s r he hq => by
  generalize e2 : xs.map (deref st) = ds at he
  replace he : bTuple ds = some e := he
  unfold bTuple at he
  split at he
  · cases he
    obtain ⟨v, rfl, w⟩ := bi1 s r e2
    obtain ⟨a, vs, rfl, hl, rl⟩ := w.lst'
    exact ⟨_, vs, rfl, .inl ⟨by rw [hK]; exact hl, fun p hp => of_lay hq s hp (rep_tup s hp rl)⟩⟩
  · cases he
    obtain ⟨v, rfl, w⟩ := bi1 s r e2
    obtain ⟨a, vs, rfl, hl, rl⟩ := w.tup
    exact ⟨_, vs, rfl, .inr ⟨by rw [hK]; exact hl.sqt, of_ok hq s (.tup hl rl)⟩⟩
  · cases he
theorem bi_list (hK : X.K = Z.K) : CallR X (.type "list") (rBi Z E .list) := bi_of .list call_list_of fun bx bs μ st vs xs H Q e s r he hq => by
  generalize e2 : xs.map (deref st) = ds at he
  replace he : bList ds = some e := he
  unfold bList at he
  split at he
  · cases he
    obtain ⟨v, rfl, w⟩ := bi1 s r e2
    obtain ⟨a, vs, rfl, hl, rl⟩ := w.lst'
    exact ⟨_, vs, rfl, .inl (by rw [hK]; exact hl), fun p hp => of_lay hq s hp (rep_lst s hp rl)⟩
  · cases he
    obtain ⟨v, rfl, w⟩ := bi1 s r e2
    obtain ⟨a, vs, rfl, hl, rl⟩ := w.tup
    exact ⟨_, vs, rfl, .inr (by rw [hK]; exact hl.sqt), fun p hp => of_lay hq s hp (rep_lst s hp rl)⟩
  · cases he
theorem bi_sum (hK : X.K = Z.K) (hc : X.calm = true) : CallR X (.builtin "sum") (rBi Z E .sum) := bi_of .sum (cr_sum hc) fun bx bs μ st vs xs H Q e s r he hq => by
  generalize e2 : xs.map (deref st) = ds at he
  replace he : bSum ds = some e := he
  unfold bSum at he
  split at he
  · obtain ⟨ns, h1, rfl⟩ := Option.map_eq_some_iff.mp he
    obtain ⟨v, rfl, w⟩ := bi1 s r e2
    obtain ⟨a, vs, rfl, hl, rl⟩ := w.lst'
    rw [Reps.ints rl h1] at hl
    exact ⟨_, ns, rfl, by rw [hK]; exact hl, of_ok hq s (.int _)⟩
  · cases he
theorem bi_all (hK : X.K = Z.K) (hc : X.calm = true) : CallR X (.builtin "all") (rBi Z E .all) := bi_of .all (cr_all hc) fun bx bs μ st vs xs H Q e s r he hq => by
  generalize e2 : xs.map (deref st) = ds at he
  replace he : bAll ds = some e := he
  unfold bAll at he
  split at he
  · obtain ⟨ns, h1, rfl⟩ := Option.map_eq_some_iff.mp he
    obtain ⟨v, rfl, w⟩ := bi1 s r e2
    obtain ⟨a, vs, rfl, hl, rl⟩ := w.lst'
    rw [Reps.bls rl h1] at hl
    exact ⟨_, ns, rfl, by rw [hK]; exact hl, of_ok hq s (.bl _)⟩
  · cases he
theorem bi_any (hK : X.K = Z.K) (hc : X.calm = true) : CallR X (.builtin "any") (rBi Z E .any) := bi_of .any (cr_any hc) fun bx bs μ st vs xs H Q e s r he hq => by
  generalize e2 : xs.map (deref st) = ds at he
  replace he : bAny ds = some e := he
  unfold bAny at he
  split at he
  · obtain ⟨ns, h1, rfl⟩ := Option.map_eq_some_iff.mp he
    obtain ⟨v, rfl, w⟩ := bi1 s r e2
    obtain ⟨a, vs, rfl, hl, rl⟩ := w.lst'
    rw [Reps.bls rl h1] at hl
    exact ⟨_, ns, rfl, by rw [hK]; exact hl, of_ok hq s (.bl _)⟩
  · cases he
theorem or_call {f : Value} {r1 r2 : List V → Hp → VK → Prop} (h1 : CallR X f r1) (h2 : CallR X f r2) : CallR X f (fun xs H Q => r1 xs H Q ∨ r2 xs H Q) := fun pins s σ H xs us Q I r q => q.elim (h1 pins s σ H xs us Q I r) (h2 pins s σ H xs us Q I r)
theorem bi_max (hK : X.K = Z.K) (hc : X.calm = true) : CallR X (.builtin "max") (rBi Z E .max) := bi_of .max (or_call (cr_max hc) (call_max2 hc)) fun bx bs μ st vs xs H Q e s r he hq => by
  generalize e2 : xs.map (deref st) = ds at he
  replace he : bMax ds = some e := he
  unfold bMax at he
  split at he
  · split at he
    · rename_i n0 ns0 h1; cases he
      obtain ⟨v, rfl, w⟩ := bi1 s r e2
      obtain ⟨a, vs, rfl, hl, rl⟩ := w.lst'
      rw [Reps.ints rl h1] at hl
      refine .inl ⟨_, _, rfl, by rw [hK]; exact hl, by simp, fun m hm hy => ?_⟩
      obtain ⟨q1, q2⟩ := foldl_max ns0 n0
      have := hy _ q1; have := q2 _ hm
      have e3 : m = List.foldl max n0 ns0 := by omega
      rw [e3]; exact of_ok hq s (.int _)
    · cases he
  · cases he
    obtain ⟨v, w, rfl, w1, w2⟩ := bi2 s r e2
    rw [w1.int, w2.int]
    exact .inr ⟨_, _, rfl, of_ok hq s (.int _)⟩
  · cases he
theorem bi_min (hK : X.K = Z.K) (hc : X.calm = true) : CallR X (.builtin "min") (rBi Z E .min) := bi_of .min (or_call (cr_min hc) (call_min2 hc)) fun bx bs μ st vs xs H Q e s r he hq => by
  generalize e2 : xs.map (deref st) = ds at he
  replace he : bMin ds = some e := he
  unfold bMin at he
  split at he
  · split at he
    · rename_i n0 ns0 h1; cases he
      obtain ⟨v, rfl, w⟩ := bi1 s r e2
      obtain ⟨a, vs, rfl, hl, rl⟩ := w.lst'
      rw [Reps.ints rl h1] at hl
      refine .inl ⟨_, _, rfl, by rw [hK]; exact hl, by simp, fun m hm hy => ?_⟩
      obtain ⟨q1, q2⟩ := foldl_min ns0 n0
      have := hy _ q1; have := q2 _ hm
      have e3 : m = List.foldl min n0 ns0 := by omega
      rw [e3]; exact of_ok hq s (.int _)
    · cases he
  · cases he
    obtain ⟨v, w, rfl, w1, w2⟩ := bi2 s r e2
    rw [w1.int, w2.int]
    exact .inr ⟨_, _, rfl, of_ok hq s (.int _)⟩
  · cases he
theorem bi_divmod : CallR X (.builtin "divmod") (rBi Z E .divmod) := bi_of .divmod call_divmod fun bx bs μ st vs xs H Q e s r he hq => by
  generalize e2 : xs.map (deref st) = ds at he
  replace he : bDivmod ds = some e := he
  unfold bDivmod at he
  split at he
  · split at he <;> cases he
    rename_i hc
    simp only [Bool.and_eq_true, decide_eq_true_eq] at hc
    obtain ⟨v, w, rfl, w1, w2⟩ := bi2 s r e2
    rw [w1.int, w2.int]
    exact ⟨_, _, rfl, hc, fun p hp => of_lay hq s hp (rep_tup s hp (.cons (.int _) (.cons (.int _) .nil)))⟩
  · cases he
mutual
theorem nodict : ∀ d : PyData, d.plain = true → d.hasDict = false
  | .none, _ => rfl
  | .bool _, _ => rfl
  | .int _, _ => rfl
  | .str _, _ => rfl
  | .list xs, h => nodicts xs h
  | .tuple xs, h => nodicts xs h
  | .dict _, h => by cases h
theorem nodicts : ∀ ds : List PyData, PyData.plainAll ds = true → PyData.hasDictAll ds = false
  | [], _ => rfl
  | x :: xs, h => by
    have h' : (x.plain && PyData.plainAll xs) = true := h
    simp only [Bool.and_eq_true] at h'
    show (x.hasDict || PyData.hasDictAll xs) = false
    rw [nodict x h'.1, nodicts xs h'.2]; rfl
end
/-- repr(x) of plain data -/
def rReprY (K : PySem.W.Frag) : List V → Hp → VK → Prop := fun vs H Q => ∃ x d, vs = [x] ∧ Dp K H x d ∧ d.plain = true ∧ d.showable = true ∧ d.depth ≤ 60 ∧ d.shown.length ≤ sizeLine ∧ Q (.str d.shown) H
theorem call_reprY (hu : X.A.units + 64 < cLine) (hg : X.A.guards = some []) : CallR X (.builtin "repr") (rReprY X.K) := by
  intro pins s σ H vs us Q I rv h
  obtain ⟨x, d, rfl, hd, hp, hs, hz, hl, q⟩ := h
  obtain ⟨u, rfl, ru⟩ := vals1 rv
  obtain ⟨as, r⟩ := Dp.reads I d x u hd ru
  have key : ∀ (h' : Heap) (t' tk : Nat), (∀ b o, s.heap.get? b = some o → h'.get? b = some o) → EP X pins σ Q (.str d.shown t') { s with heap := h', toks := tk } := fun h' t' tk k => ⟨.str d.shown, H, I.kept k, ⟨_, rfl⟩, q⟩
  cases d with
  | none =>
    cases r
    simp only [PyData.shown] at key
    exact PySem.P.repr_of_none (key s.heap _ _ fun _ _ e => e)
  | bool b =>
    cases r
    simp only [PyData.shown] at key
    exact PySem.P.repr_of_bool (key s.heap _ _ fun _ _ e => e)
  | int i =>
    cases r
    simp only [PyData.shown] at key
    exact PySem.P.repr_of_int (by simpa [PyData.showable] using hs) (key s.heap _ _ fun _ _ e => e)
  | str y =>
    cases r
    simp only [PyData.shown] at key hl
    exact PySem.P.repr_of_str (key s.heap _ _ fun _ _ e => e) hl
  | list xs =>
    obtain ⟨a, rfl⟩ : ∃ a, u = .ref a := by cases r; exact ⟨_, rfl⟩
    exact repr_of_reads' r hs (fun z => by rw [nodict _ hp] at z; cases z) hg (by omega) (fun _ _ e => e) (fun h' t tk k => key h' t tk k) hl
  | tuple xs =>
    obtain ⟨a, rfl⟩ : ∃ a, u = .ref a := by cases r; exact ⟨_, rfl⟩
    exact repr_of_reads' r hs (fun z => by rw [nodict _ hp] at z; cases z) hg (by omega) (fun _ _ e => e) (fun h' t tk k => key h' t tk k) hl
  | dict _ => cases hp
theorem bi_repr (hK : X.K = Z.K) (hu : X.A.units + 64 < cLine) (hg : X.A.guards = some []) : CallR X (.builtin "repr") (rBi Z E .repr) := bi_of .repr (call_reprY hu hg) fun bx bs μ st vs xs H Q e s r he hq => by
  generalize e2 : xs.map (deref st) = ds at he
  replace he : bRepr ds = some e := he
  unfold bRepr at he
  split at he
  · split at he
    · rename_i d hc
      cases he
      simp only [Bool.and_eq_true] at hc
      obtain ⟨v, rfl, w⟩ := bi1 s r e2
      obtain ⟨p1, p2⟩ := py_plain d 40 hc.1.1
      refine ⟨v, d.py, rfl, by rw [hK]; exact w.dp hc.1.1, p1, hc.1.2, by omega, line_le hc.2, ?_⟩
      exact hq _ H μ (NxE.refl s) (.str _)
    · cases he
  · cases he
theorem reps_zip {μ : Mu} {H : Hp} : ∀ {vs : List V} {xs : List D}, Reps Z H μ vs xs → ∀ p ∈ vs.zip xs, Rep Z H μ p.1 p.2
  | _, _, .nil, p, hp => by simp at hp
  | _, _, .cons h r, p, hp => by
    rw [List.zip_cons_cons] at hp
    rcases List.mem_cons.mp hp with e | hp
    · rw [e]; exact h
    · exact reps_zip r p hp
theorem reps_of_get {Z : Lk} {μ : Mu} {H : Hp} : ∀ {vs : List V} {xs : List D}, vs.length = xs.length → (∀ (i : Nat) (v : V) (e : D), vs[i]? = some v → xs[i]? = some e → Rep Z H μ v e) → Reps Z H μ vs xs
  | [], [], _, _ => .nil
  | v :: vs, x :: xs, hl, h => .cons (h 0 v x rfl rfl) (reps_of_get (by simpa using hl) fun i w e hw he => h (i + 1) w e (by simpa using hw) (by simpa using he))
  | [], _ :: _, hl, _ => by simp at hl
  | _ :: _, [], hl, _ => by simp at hl
theorem reps_of {μ : Mu} {H : Hp} : ∀ {ps : List (V × D)}, (∀ p ∈ ps, Rep Z H μ p.1 p.2) → Reps Z H μ (ps.map Prod.fst) (ps.map Prod.snd)
  | [], _ => .nil
  | p :: ps, h => .cons (h p (by simp)) (reps_of fun q hq => h q (by simp [hq]))
theorem pys_map0 : ∀ xs : List D, D.pys xs = xs.map D.py
  | [] => rfl
  | x :: xs => by simp only [D.pys, List.map_cons, pys_map0 xs]
theorem reps_sort {μ : Mu} {H : Hp} {vs : List V} {xs : List D} (r : Reps Z H μ vs xs) : Reps Z H μ (((vs.zip (D.pys xs)).mergeSort (PySem.W.dataLe false Prod.snd)).map Prod.fst) (xs.mergeSort leD) := by
  have e1 : vs.zip (D.pys xs) = (vs.zip xs).map fun p => (p.1, p.2.py) := by
    rw [pys_map0, List.zip_map_right]; rfl
  have e2 : (vs.zip xs).map Prod.snd = xs := by rw [List.map_snd_zip]; rw [r.length]; exact Nat.le_refl _
  have m1 := List.map_mergeSort (r := fun p q : V × D => leD p.2 q.2) (s := PySem.W.dataLe false Prod.snd) (f := fun p : V × D => (p.1, p.2.py)) (l := vs.zip xs) (fun a _ b _ => by rw [PySem.W.dataLe_eq]; rfl)
  have m2 := List.map_mergeSort (r := fun p q : V × D => leD p.2 q.2) (s := leD) (f := Prod.snd) (l := vs.zip xs) (fun a _ b _ => rfl)
  rw [e2] at m2
  rw [e1, ← m1, ← m2, List.map_map]
  exact reps_of fun p hp => reps_zip r p (List.mem_mergeSort.mp hp)
theorem srt_of {xs : List D} (h : srtB xs = true) : PySem.W.AllAlike (D.pys xs) ∧ Srt0 (D.pys xs) ∧ (∀ d ∈ D.pys xs, d.depth ≤ 60) ∧ ∀ x ∈ xs, D.plN 39 x = true := by
  unfold srtB at h
  simp only [Bool.and_eq_true, Bool.or_eq_true, List.all_eq_true] at h
  obtain ⟨⟨h1, h2⟩, h3⟩ := h
  rw [pys_map0]
  refine ⟨?_, ?_, ?_, h1⟩
  · intro d hd d' hd'
    obtain ⟨x, hx, rfl⟩ := List.mem_map.mp hd
    obtain ⟨y, hy, rfl⟩ := List.mem_map.mp hd'
    exact h2 x hx y hy
  · rcases h3 with (h3 | h3) | ⟨h3, h4⟩
    · refine .inl (.inl fun d hd => ?_)
      obtain ⟨x, hx, rfl⟩ := List.mem_map.mp hd
      have q := h3 x hx
      match x, q with
      | .tup (a :: r), _ => exact ⟨a.py, D.pys r, by simp only [D.py, D.pys]⟩
    · refine .inl (.inr fun d hd => ?_)
      obtain ⟨x, hx, rfl⟩ := List.mem_map.mp hd
      have q := h3 x hx
      have p := h1 x hx
      match x, q, p with
      | .bl _, _, _ => exact ⟨by simp [D.py], by simp [D.py]⟩
      | .int _, _, _ => exact ⟨by simp [D.py], by simp [D.py]⟩
      | .str _, _, _ => exact ⟨by simp [D.py], by simp [D.py]⟩
      | .lst _, _, _ => exact ⟨by simp [D.py], by simp [D.py]⟩
      | .ref _, _, p => exact absurd p (by simp [D.plN])
      | .fn _, _, p => exact absurd p (by simp [D.plN])
      | .clo _ _, _, p => exact absurd p (by simp [D.plN])
    · refine .inr ?_
      match xs, h3, h4 with
      | .tup [] :: r, _, h4 =>
        refine ⟨r.map D.py, by simp only [List.map_cons, D.py, D.pys], fun d hd => ?_⟩
        obtain ⟨x, hx, rfl⟩ := List.mem_map.mp hd
        have q := h4 x hx
        match x, q with
        | .tup a, _ => exact ⟨D.pys a, by simp only [D.py]⟩
  · intro d hd
    obtain ⟨x, hx, rfl⟩ := List.mem_map.mp hd
    have := (py_plain x 39 (h1 x hx)).2
    omega
theorem no_tup {bx : List Nat} {μ : Mu} {st : Sto} {H : Hp} {b : Addr} {xs : List V} (s : StoR Z bx μ st H) (h : H b = some (.tup xs)) : μ.no b := by
  refine ⟨fun hm => ?_, fun hm => ?_⟩
  · obtain ⟨n, hn⟩ := List.mem_iff_getElem?.mp hm
    have hl : n < st.length := by rw [← s.len]; exact (List.getElem?_eq_some_iff.mp hn).1
    cases hc : st[n] with
    | lst ys =>
      obtain ⟨a, vs, e1, e2, _⟩ := s.cell n ys (by rw [List.getElem?_eq_getElem hl, hc])
      rw [hn] at e1; cases e1
      rw [h] at e2; cases e2
    | dct k ys =>
      obtain ⟨a, vs, e1, e2, _⟩ := s.dc n k ys (by rw [List.getElem?_eq_getElem hl, hc])
      rw [hn] at e1; cases e1
      rw [h] at e2
      cases k <;> cases e2
    | var od =>
      have e1 := s.var n od (by rw [List.getElem?_eq_getElem hl, hc])
      rw [hn] at e1; cases e1
  · obtain ⟨⟨vs, e⟩, _⟩ := s.hot b hm
    rw [h] at e; cases e
theorem reps_ints {μ : Mu} {H : Hp} : ∀ (w : List Int), Reps Z H μ ((w.map (Sum.inl : Int → Key)).map kV) (w.map D.int)
  | [] => .nil
  | i :: w => .cons (.int i) (reps_ints w)
/-- a dict's keys, as they stand -/
theorem keys_rep {bx : List Nat} {μ : Mu} {st : Sto} {H : Hp} (s : StoR Z bx μ st H) {k : DK} {vs ks : List V} (hl : k.len = vs.length) (hk : ks.length = vs.length) (h : ∀ i v, ks[i]? = some v → KAt H (k.ho vs) i v) : Reps Z H μ ks k.ds := by
  have hd : k.ds.length = ks.length := by cases k <;> simp only [DK.ds, List.length_map] <;> simp only [DK.len] at hl <;> omega
  refine reps_of_get hd.symm fun i v e hv he => ?_
  have q := h i v hv
  cases k with
  | rw ws =>
    obtain ⟨b, w, x, h1, rfl, h2⟩ := q
    have hw : ∃ w0, ws[i]? = some w0 ∧ w = w0.map Sum.inl := by
      have hi := (List.getElem?_eq_some_iff.mp h1)
      obtain ⟨hi, h1⟩ := hi
      simp only [List.getElem_zip, List.getElem_map, Prod.mk.injEq] at h1
      simp only [List.length_zip, List.length_map] at hi
      exact ⟨ws[i], List.getElem?_eq_getElem (by omega), h1.1.symm⟩
    obtain ⟨w0, hw0, rfl⟩ := hw
    simp only [DK.ds, List.getElem?_map, hw0, Option.map_some, Option.some.injEq] at he
    subst he
    exact .tup ⟨no_tup s h2, h2⟩ (reps_ints w0)
  | iw ws =>
    obtain ⟨w, x, h1, rfl⟩ := q
    have hw : ∃ w0, ws[i]? = some w0 ∧ w = Sum.inl w0 := by
      obtain ⟨hi, h1⟩ := (List.getElem?_eq_some_iff.mp h1)
      simp only [List.getElem_zip, List.getElem_map, Prod.mk.injEq] at h1
      simp only [List.length_zip, List.length_map] at hi
      exact ⟨ws[i], List.getElem?_eq_getElem (by omega), h1.1.symm⟩
    obtain ⟨w0, hw0, rfl⟩ := hw
    simp only [DK.ds, List.getElem?_map, hw0, Option.map_some, Option.some.injEq] at he
    subst he
    exact .int w0
theorem bi_sorted (hK : X.K = Z.K) (hc : X.calm = true) (hu : X.A.units + 64 < cLine) : CallR X (.builtin "sorted") (rBi Z E .sorted) := bi_of .sorted (cr_or (cr_sortD hu) (cr_sortK hc hu)) fun bx bs μ st vs xs H Q e s r he hq => by
  generalize e2 : xs.map (deref st) = ds at he
  replace he : bSorted ds = some e := he
  unfold bSorted at he
  split at he
  · rename_i zs
    by_cases hz : srtB zs = true
    · rw [if_pos hz] at he; cases he
      obtain ⟨v, rfl, w⟩ := bi1 s r e2
      obtain ⟨a, vs, rfl, hl, rl⟩ := w.lst'
      obtain ⟨q1, q2, q3, q4⟩ := srt_of hz
      exact .inl ⟨a, vs, D.pys zs, rfl, by rw [hK]; exact hl, by rw [hK]; exact dps_reps 39 rl q4, q1, q2, q3, fun p hp => of_lay hq s hp (rep_lst s hp (reps_sort rl))⟩
    · rw [if_neg hz] at he; cases he
  · rename_i k zs
    by_cases hz : srtB k.ds = true
    · rw [if_pos hz] at he; cases he
      obtain ⟨v, rfl, w⟩ := bi1 s r e2
      obtain ⟨a, vs, rfl, g2, g3, g4⟩ := w.dct'
      obtain ⟨q1, q2, q3, q4⟩ := srt_of hz
      have hd : (D.pys k.ds).length = vs.length := by rw [pys_map0, List.length_map]; cases k <;> simp only [DK.ds, List.length_map] <;> exact g3
      refine .inr ⟨a, _, _, D.pys k.ds, rfl, g2, zip_len g3, hd, q1, q2, q3, fun ks hl hk => ?_⟩
      have rl := keys_rep s g3 hl hk
      exact ⟨by rw [hK]; exact dps_reps 39 rl q4, fun p hp => of_lay hq s hp (rep_lst s hp (reps_sort rl))⟩
    · rw [if_neg hz] at he; cases he
  · cases he
theorem bi_cr (hK : X.K = Z.K) (hc : X.calm = true) (hu : X.A.units + 64 < cLine) (hgd : X.A.guards = some []) : ∀ b, biOk b = true → CallR X (biV b) (rBi Z E b)
  | .len, _ => bi_len hK
  | .int, _ => bi_int
  | .abs, _ => bi_abs
  | .tuple, _ => bi_tuple hK
  | .list, _ => bi_list hK
  | .sum, _ => bi_sum hK hc
  | .max, _ => bi_max hK hc
  | .min, _ => bi_min hK hc
  | .max2, _ => bi_max hK hc
  | .min2, _ => bi_min hK hc
  | .all, _ => bi_all hK hc
  | .any, _ => bi_any hK hc
  | .divmod, _ => bi_divmod
  | .repr, _ => bi_repr hK hu hgd
  | .sorted, _ => bi_sorted hK hc hu
theorem y_bi {f : Bi} {es : Es} {xs : List Expr} {p : Pos} (G : Good Z C c CE X E) (hb : biOk f = true) (hg : glB c.sc (biN f) = true) (hm : bltNames.contains (biN f) = true) (hx : (x :: xs).all okHead = true) (ha : PA X (x :: xs) (YEs Z C c CE E es)) : PE X (.Call (.Name (biN f) p) (x :: xs) [] pos) (YE Z C c CE E (.bi f es)) := by
  have h1 : starEach (x :: xs) X.env = (false, eval x X.env) :: starEach xs X.env := star_cons (by simp only [List.all_cons, Bool.and_eq_true] at hx; exact hx.1)
  have h2 : (backTo pos (starEach xs X.env)).any (·.1) = false := star_any (by simp only [List.all_cons, Bool.and_eq_true] at hx; exact hx.2)
  have hn := G.bl _ (List.contains_iff_mem.mp hm)
  have key : PE X (.Call (.Name (biN f) p) (x :: xs) [] pos) (tCB (rBi Z E f) (YEs Z C c CE E es)) := by
    have cr := bi_cr (Z := Z) (E := E) G.K G.calm G.units G.guards f hb
    cases f <;> first | exact absurd hb (by decide) | exact pe_callB cr (G.gl hg) hn rfl ha (by decide) (by decide) h1 h2 | exact pe_callTy cr (G.gl hg) hn rfl ha (by decide) (by decide) h1 h2
  refine key.imp fun σ H Q ⟨ρ, μ, st, fr, h⟩ => ?_
  simp only [evE] at h
  exact sub_A (sem := fun ρ st => evEs C ρ es st) fr h fun vs H1 ds st1 μ1 n1 fr1 r1 h1 => ⟨ρ.bx, ρ.bs, μ1, st1, ds, fr1.sto, r1, h1⟩
/-- list(x), to be changed -/
def rLm (Z : Lk) (E : XK) : List V → Hp → VK → Prop := fun vs H Q => ∃ bx bs μ st xs, bs ≤ st.length ∧ StoR Z bx μ st H ∧ Reps Z H μ vs xs ∧ tR (relD Z) Z E bx bs μ st H (match bList (xs.map (deref st)) with
    | some (.lst ys) => if line ys.length then .ok (.ref st.length) (st ++ [.lst ys]) else .no
    | _ => .no) Q
theorem lm_cr (hK : X.K = Z.K) : CallR X (.type "list") (rLm Z E) := cr_imp call_list_of fun vs H Q ⟨bx, bs, μ, st, xs, hb, s, r, h⟩ => by
  split at h
  · rename_i ys he
    have h' : tR (relD Z) Z E bx bs μ st H (if line ys.length then (if true then .ok (.ref st.length) (st ++ [.lst ys]) else .ok (.lst ys) st) else .no) Q := h
    generalize e2 : xs.map (deref st) = ds at he
    unfold bList at he
    split at he
    · cases he
      obtain ⟨v, rfl, w⟩ := bi1 s r e2
      obtain ⟨a, vs, rfl, hl, rl⟩ := w.lst'
      exact ⟨_, vs, rfl, .inl (by rw [hK]; exact hl), fun p hp => mk_lst s hb hp rl h'⟩
    · cases he
      obtain ⟨v, rfl, w⟩ := bi1 s r e2
      obtain ⟨a, vs, rfl, hl, rl⟩ := w.tup
      exact ⟨_, vs, rfl, .inr (by rw [hK]; exact hl.sqt), fun p hp => mk_lst s hb hp rl h'⟩
    · cases he
  · exact h.elim
theorem y_lstm {es : Es} {xs : List Expr} {p : Pos} (G : Good Z C c CE X E) (hg : glB c.sc "list" = true) (hx : (x :: xs).all okHead = true) (ha : PA X (x :: xs) (YEs Z C c CE E es)) : PE X (.Call (.Name "list" p) (x :: xs) [] pos) (YE Z C c CE E (.lstm es)) := by
  have h1 : starEach (x :: xs) X.env = (false, eval x X.env) :: starEach xs X.env := star_cons (by simp only [List.all_cons, Bool.and_eq_true] at hx; exact hx.1)
  have h2 : (backTo pos (starEach xs X.env)).any (·.1) = false := star_any (by simp only [List.all_cons, Bool.and_eq_true] at hx; exact hx.2)
  have hn : X.mg "list" = none := G.bl _ (by decide)
  have key : PE X (.Call (.Name "list" p) (x :: xs) [] pos) (tCB (rLm Z E) (YEs Z C c CE E es)) := pe_callTy (lm_cr (Z := Z) (E := E) G.K) (G.gl hg) hn rfl ha (by decide) (by decide) h1 h2
  refine key.imp fun σ H Q ⟨ρ, μ, st, fr, h⟩ => ?_
  simp only [evE] at h
  exact sub_A (sem := fun ρ st => evEs C ρ es st) fr h fun vs H1 ds st1 μ1 n1 fr1 r1 h1 => ⟨ρ.bx, ρ.bs, μ1, st1, ds, fr1.bs, fr1.sto, r1, h1⟩
end Y
end
section
set_option Elab.async false
set_option linter.all false
set_option maxRecDepth 100000
set_option maxHeartbeats 1000000
set_option autoImplicit false
/-! Y9: list(range(..)), isinstance, append, extend, turned about. -/
namespace Y
open PySem PySem.Spec PyProof.Rows L2 LamX NdefX
variable {Z : Lk} {C : Cs} {c : Cf} {CE : List (Str × Addr)} {X : Cx} {E : XK} {pos : Pos} {x y z : Expr} {a b d : Y.E} {n : Nat} {k : Nat}
theorem i62_iff {i : Int} (h : i62 i = true) : -(2 ^ 62) ≤ i ∧ i < 2 ^ 62 := by simpa [i62, Bool.and_eq_true, decide_eq_true_eq] using h
theorem reps_range {H : Hp} {μ : Mu} {m : Int} : ∀ l : List Nat, Reps Z H μ (l.map fun i => V.int (m + (i : Nat))) (l.map fun (i : Nat) => D.int (m + i))
  | [] => .nil
  | i :: l => .cons (.int _) (reps_range l)
theorem reps_range0 {H : Hp} {μ : Mu} {m : Int} : Reps Z H μ (rgV 0 m) ((List.range m.toNat).map fun (i : Nat) => D.int i) := by
  have h := reps_range (Z := Z) (H := H) (μ := μ) (m := 0) (List.range m.toNat)
  simp only [Int.zero_add] at h
  unfold rgV
  simp only [Int.sub_zero, Int.zero_add]
  exact h
theorem y_listrange {p p2 p3 : Pos} (G : Good Z C c CE X E) (h1 : glB c.sc "list" = true) (h2 : glB c.sc "range" = true) (hx : okHead x = true) (ha : PE X x (YE Z C c CE E a)) :
    PE X (.Call (.Name "list" p) [.Call (.Name "range" p2) [x] [] p3] [] pos) (YE Z C c CE E (.bi .listrange (.cons a .nil))) := by
  have b1 := G.bl "list" (by decide)
  have b2 := G.bl "range" (by decide)
  refine (pe_listRg G.calm (G.gl h1) b1 (prg_1 (G.gl h2) b2 ha (star_cons hx)) (star_cons rfl)).imp fun σ H Q ⟨ρ, μ, st, fr, h⟩ => ?_
  have e0 : ∀ (ρ : Env) (st : Sto), evE C ρ (.bi .listrange (.cons a .nil)) st = (evE C ρ a st).bind fun x st => .of (bListrange [deref st x]) st := by
    intro ρ st
    simp only [evE, evEs, Res.bind_bind, Res.bind_ok, List.map_cons, List.map_nil]; rfl
  replace h : tR (relD Z) Z E ρ.bx ρ.bs μ st H (evE C ρ (.bi .listrange (.cons a .nil)) st) Q := h
  rw [e0] at h
  refine sub_E fr h fun v H1 d1 st1 μ1 n1 fr1 r1 h1 => ?_
  obtain ⟨e, he, hq⟩ := tR_of fr1.sto h1
  have w := vw_of fr1.sto r1
  unfold bListrange at he
  split at he
  · rename_i m hm
    cases hm' : deref st1 d1 <;> rw [hm'] at hm <;> cases hm
    rw [hm'] at w
    split at he <;> cases he
    rename_i hc
    simp only [Bool.and_eq_true] at hc
    obtain ⟨q1, q2⟩ := i62_iff hc.1
    have q3 := line_le hc.2
    rw [sizeLine_eq] at q3
    refine ⟨m, w.int, ⟨by omega, by omega, q1, q2, ?_⟩, fun q hq' => hq _ _ μ1 (Nx.lay fr1.sto hq') (rep_lst fr1.sto hq' reps_range0)⟩
    rw [Int.sub_zero]; omega
  · cases he
/-! ### isinstance -/
def isT (d : PyData) : Ty → Bool
  | .int => d.isInt | .bool => d.isBool | .str => d.isStr | .tuple => d.isTuple | .list => d.isList
def tyS : Ty → String
  | .int => "int" | .bool => "bool" | .str => "str" | .tuple => "tuple" | .list => "list"
theorem call_isT (t : Ty) : CallR X (.builtin "isinstance") (fun vs H Q => ∃ v e, vs = [v, .ty (tyS t)] ∧ Dp X.K H v e ∧ Q (.bl (isT e t)) H) := by
  intro pins s σ H vs us Q I r h
  obtain ⟨v, e, rfl, hd, q⟩ := h
  obtain ⟨u1, u2, rfl, r1, r2⟩ := r.two
  obtain rfl : u2 = .type (tyS t) := r2
  obtain ⟨as, hr⟩ := Dp.reads I e v u1 hd r1
  cases t
  · exact PySem.W.isinstance_int_data hr fun tk _ => ⟨.bl _, H, I.kept (fun _ _ z => z), rfl, q⟩
  · exact PySem.W.isinstance_bool_data hr fun tk _ => ⟨.bl _, H, I.kept (fun _ _ z => z), rfl, q⟩
  · exact PySem.W.isinstance_str_data hr fun tk _ => ⟨.bl _, H, I.kept (fun _ _ z => z), rfl, q⟩
  · exact PySem.W.isinstance_tuple_data hr fun tk _ => ⟨.bl _, H, I.kept (fun _ _ z => z), rfl, q⟩
  · exact PySem.W.isinstance_list_data hr fun tk _ => ⟨.bl _, H, I.kept (fun _ _ z => z), rfl, q⟩
theorem isa_py {e : D} {t : Ty} {k : Bool} (h : isaD e t = some k) : e.pl = true ∧ isT e.py t = k := by
  unfold isaD at h
  by_cases hp : e.pl = true
  · simp only [if_pos hp] at h
    refine ⟨hp, ?_⟩
    replace h := Option.some.inj h
    rw [← h]
    cases e <;> cases t <;> first | rfl | (simp [D.pl, D.plN] at hp)
  · simp only [if_neg hp] at h; cases h
theorem y_isa {t : Ty} {p p2 : Pos} (G : Good Z C c CE X E) (h1 : glB c.sc "isinstance" = true) (h2 : glB c.sc (tyN t) = true) (hx : okHead x = true) (ha : PE X x (YE Z C c CE E a)) :
    PE X (.Call (.Name "isinstance" p) [x, .Name (tyN t) p2] [] pos) (YE Z C c CE E (.isa a t)) := by
  have b1 := G.bl "isinstance" (by decide)
  have b2 : X.mg (tyN t) = none := G.bl _ (by cases t <;> decide)
  have s1 : starEach [.Name (tyN t) p2] X.env = (false, eval (.Name (tyN t) p2) X.env) :: starEach [] X.env := star_cons rfl
  have hT : PE X (.Name (tyN t) p2) (tC (.ty (tyS t))) := by
    cases t <;> exact pe_bltn (G.gl h2) b2 rfl rfl (by decide) (by decide)
  have key := pe_callB (pos := pos) (p := p) (call_isT (X := X) t) (G.gl h1) b1 rfl (pa_cons ha (pa_cons hT pa_nil s1) (star_cons hx)) (by decide) (by decide) (star_cons hx) (by rw [s1]; rfl)
  refine key.imp fun σ H Q ⟨ρ, μ, st, fr, h⟩ => ?_
  simp only [evE] at h
  refine sub_E fr h fun v H1 d1 st1 μ1 n1 fr1 r1 h1 => ?_
  obtain ⟨k, hk, q⟩ := of_map fr1.sto h1
  obtain ⟨q1, q2⟩ := isa_py hk
  exact ⟨v, _, rfl, by rw [G.K]; exact (vw_of fr1.sto r1).dp q1, by rw [q2]; exact q⟩
/-! ### methods of lists -/
theorem base_of {nm : Str} (h : okBase x = true) (env : PySem.Env) : attributeBase x nm env (eval x env) = eval x env := by
  cases x <;> first | rfl | (simp [okBase] at h)
theorem few_of {p : Pos} {env : PySem.Env} (h : okHead y = true) : ((backTo p (starEach [y] env)).all (fun x => !x.1) && (backToKw p (keywordEach [] env)).all (fun x => x.1.isSome)
      && decide ([y].length + ([] : List Keyword).length + (if ([] : List Keyword).isEmpty then 0 else 1) < 30)) = true := by
  rw [star_cons h]; rfl
theorem isL_at {bx : List Nat} {μ : Mu} {st : Sto} {H : Hp} {v : V} {e : D} (s : StoR Z bx μ st H) (r : Rep Z H μ v e) (h : isL st e = true) : ∃ m xs p, e = .ref m ∧ v = .ref p ∧ st[m]? = some (Cell.lst xs) ∧ μ.m[m]? = some (some p) ∧ ∃ vs, H p = some (.lst vs) ∧ Reps Z H μ vs xs := by
  unfold isL at h
  split at h
  · rename_i m
    split at h
    · rename_i xs hs
      obtain ⟨p, vs, h1, h2, h3⟩ := s.cell m xs hs
      cases r with
      | ref hp =>
        rw [h1] at hp; cases hp
        exact ⟨m, xs, p, rfl, rfl, hs, h1, vs, h2, h3⟩
    · cases h
  · cases h
theorem olds_app {bb : Nat} : ∀ {xs ys : List D}, D.olds bb xs = true → D.olds bb ys = true → D.olds bb (xs ++ ys) = true
  | [], _, _, h => h
  | x :: xs, ys, h1, h2 => by
    simp only [List.cons_append, D.olds, Bool.and_eq_true] at h1 ⊢
    exact ⟨h1.1, olds_app h1.2 h2⟩
theorem appD_cases (base m : Nat) (y : D) (st : Sto) : appD base (.ref m) y st = .no ∨ ∃ xs, st[m]? = some (Cell.lst xs) ∧ line (xs.length + 1) = true ∧ wrOk base m y = true ∧ appD base (.ref m) y st = .ok .non (st.set m (.lst (xs ++ [y]))) := by
  have e0 : appD base (.ref m) y st = match st[m]? with
    | some (.lst xs) => if line (xs.length + 1) && wrOk base m y then .ok .non (st.set m (.lst (xs ++ [y]))) else .no
    | _ => .no := rfl
  rw [e0]
  cases e : st[m]? with
  | none => exact .inl rfl
  | some q =>
    cases q with
    | var _ => exact .inl rfl
    | dct _ _ => exact .inl rfl
    | lst xs =>
      by_cases hc : (line (xs.length + 1) && wrOk base m y) = true
      · have hc' := hc
        simp only [Bool.and_eq_true] at hc'
        exact .inr ⟨xs, rfl, hc'.1, hc'.2, if_pos hc⟩
      · exact .inl (if_neg hc)
theorem tyV_list {K : PySem.W.Frag} {H : Hp} {p : Addr} {vs : List V} (h : SqL K H p vs) : tyV K "list" (.ref p) H := .inl ⟨rfl, vs, h⟩
theorem y_app {p : Pos} (G : Good Z C c CE X E) (hb : okBase x = true) (hl : (p.endLine == pos.line) = true) (hy : okHead y = true) (ha : PE X x (YE Z C c CE E a)) (hc : PE X y (YE Z C c CE E b)) :
    PE X (.Call (.Attribute x "append" p) [y] [] pos) (YE Z C c CE E (.app a b)) := by
  have s1 : starEach [y] X.env = (false, eval y X.env) :: starEach [] X.env := star_cons hy
  refine (pe_bm F.plainAttrs_list F.slot_list_append F.type_list_append mt_append ha (pa_cons hc pa_nil s1) (base_of hb _) (few_of hy) hl s1 rfl).imp fun σ H Q ⟨ρ, μ, st, fr, h⟩ => ?_
  simp only [evE] at h
  refine sub_E fr h fun v H1 d1 st1 μ1 n1 fr1 r1 h1 => ?_
  split at h1
  · rename_i hL
    obtain ⟨m, xs, p1, rfl, rfl, hs, hp, vs, hH, rv⟩ := isL_at fr1.sto r1 hL
    refine ⟨tyV_list (by rw [G.K]; exact SqL.of hH), sub_E fr1 h1 fun w H2 d2 st2 μ2 n2 fr2 r2 h2 => ?_⟩
    have r1' := r1.ext n2.ext
    rcases appD_cases ρ.bs m d2 st2 with e | ⟨ys, hs2, hl2, hw2, e⟩
    · rw [e] at h2; exact h2.elim
    · rw [e] at h2
      obtain ⟨q, ws, hq, hH2, rw2⟩ := fr2.sto.cell m ys hs2
      cases r1' with
      | ref hq' =>
        rw [hq] at hq'; cases hq'
        refine ⟨_, ws, w, rfl, rfl, hH2, ?_, ?_⟩
        · have := line_le hl2; rw [rw2.length]; omega
        · refine h2 .non _ μ2 (NxE.wr fr2.sto hq hs2 (rw2.append (.cons r2 .nil)) ?_) .non
          simp only [wrOk, Bool.or_eq_true, decide_eq_true_eq] at hw2
          rcases hw2 with h3 | h3
          · exact .inl h3
          · refine .inr (.inr fun bb hbb => ?_)
            exact olds_app hbb (by simp only [D.olds, Bool.and_true]; exact old_nr _ bb h3)
  · exact h1.elim
theorem ext_gen (l : Addr) (xs : Array Value) (n : Nat) (b : Addr) (dc : Option Addr) (sl : Array (Option Value)) (ys : Array Value) (m : Nat) (h0 : ¬(!xs.isEmpty && Builtin.List.listTooLong (xs.size + ys.size)) = true) (h1 : xs.size ≤ sizeLine) (h2 : xs.size + ys.size ≤ sizeLine + 1) :
    Meets (Builtin.«list.extend» ⟨[.ref l, .ref b], []⟩) fun _ R s => s.heap.get? l = some { cls := .type "list", data := .seq xs n } ∧ s.heap.get? b = some ⟨.type "list", dc, .seq ys m, sl⟩ ∧
      R (.ok (.ret Value.none)) { s with heap := s.heap.update l (Obj.mapSeq fun x => x ++ ys), toks := s.toks } :=
  .of_wp fun prog w A R s h => by
    obtain ⟨hp, g, d, tk, os⟩ := s
    obtain ⟨hl, hb, h⟩ := h
    have f1 := AutoSeq1.idx_int
    have f2 := AutoSeq1.sub_tuple_tuple
    have f3 := AutoSeq1.sub_list_list
    have f4 := AutoSeq1.sub_tuple_list
    have f5 := AutoSeq1.sub_list_tuple
    have hz : (xs ++ ys).size ≤ sizeLine + 1 := by rw [Array.size_append]; exact h2
    wp_walk using (wpAny_updateSeq hl rfl (hz := h1) (_hz' := hz)), wpAny_loadPart' hl, wpAny_loadPart' hb
    exact ⟨_, rfl, h⟩
def rExt (K : PySem.W.Frag) : V → List V → Hp → VK → Prop := fun x vs H Q => ∃ l b xs zs, x = .ref l ∧ vs = [V.ref b] ∧ H l = some (.lst xs) ∧ SqL K H b zs ∧ xs.length + zs.length ≤ sizeLine ∧ Q .non (L2.upd H l (.lst (xs ++ zs)))
theorem mt_ext : MtR X "list.extend" (rExt X.K) := by
  intro pins s σ H x vs v us Q I rx rv h
  obtain ⟨l, b, xs, zs, rfl, rfl, hH, hB, hz, q⟩ := h
  cases rx
  obtain ⟨u, rfl, ru⟩ := rv.one
  cases ru
  obtain ⟨z, its, n, r, hl, e⟩ := I.lstM hH
  obtain ⟨its2, r2, ⟨⟨cl, dc, da, sl⟩, n2, e2, q1, q2, q3⟩, z2⟩ := I.list hB
  simp only at q1 q2 q3
  subst q1 q3
  have hl2 := r2.length
  have hsz : its.toArray.size + its2.toArray.size ≤ sizeLine := by rw [List.size_toArray, List.size_toArray]; omega
  have hlong : ¬ (!its.toArray.isEmpty && Builtin.List.listTooLong (its.toArray.size + its2.toArray.size)) = true := by
    rw [notLongL hsz, Bool.and_false]
    exact Bool.false_ne_true
  refine call_meets F.slot_list_extend ⟨_, e, rfl⟩ F.entry_list_extend (F.args_list_extend_2 _ _) (ext_gen l its.toArray n b dc sl its2.toArray n2 hlong (by rw [List.size_toArray]; omega) (by omega)) ⟨e, e2, ?_⟩
  refine ⟨.non, _, I.lset (its' := its ++ its2) hH e (by simp) (r.append r2) ?_, rfl, q⟩
  rw [List.length_append]; omega
theorem extD_cases (base m : Nat) (y : D) (st : Sto) : extD base (.ref m) y st = .no ∨ ∃ xs ys, y = .lst ys ∧ st[m]? = some (Cell.lst xs) ∧ line (xs.length + ys.length) = true ∧ (base ≤ m ∨ D.nrs ys = true) ∧ extD base (.ref m) y st = .ok .non (st.set m (.lst (xs ++ ys))) := by
  cases y with
  | lst ys =>
    have e0 : extD base (.ref m) (.lst ys) st = match st[m]? with
      | some (.lst xs) => if line (xs.length + ys.length) && (decide (base ≤ m) || D.nrs ys) then .ok .non (st.set m (.lst (xs ++ ys))) else .no
      | _ => .no := rfl
    rw [e0]
    cases e : st[m]? with
    | none => exact .inl rfl
    | some q =>
      cases q with
      | var _ => exact .inl rfl
      | dct _ _ => exact .inl rfl
      | lst xs =>
        by_cases hc : (line (xs.length + ys.length) && (decide (base ≤ m) || D.nrs ys)) = true
        · have hc' := hc
          simp only [Bool.and_eq_true, Bool.or_eq_true, decide_eq_true_eq] at hc'
          exact .inr ⟨xs, ys, rfl, rfl, hc'.1, hc'.2, if_pos hc⟩
        · exact .inl (if_neg hc)
  | _ => exact .inl rfl
theorem y_ext {p : Pos} (G : Good Z C c CE X E) (hb : okBase x = true) (hl : (p.endLine == pos.line) = true) (hy : okHead y = true) (ha : PE X x (YE Z C c CE E a)) (hc : PE X y (YE Z C c CE E b)) :
    PE X (.Call (.Attribute x "extend" p) [y] [] pos) (YE Z C c CE E (.ext a b)) := by
  have s1 : starEach [y] X.env = (false, eval y X.env) :: starEach [] X.env := star_cons hy
  refine (pe_bm F.plainAttrs_list F.slot_list_extend F.type_list_extend mt_ext ha (pa_cons hc pa_nil s1) (base_of hb _) (few_of hy) hl s1 rfl).imp fun σ H Q ⟨ρ, μ, st, fr, h⟩ => ?_
  simp only [evE] at h
  refine sub_E fr h fun v H1 d1 st1 μ1 n1 fr1 r1 h1 => ?_
  split at h1
  · rename_i hL
    obtain ⟨m, xs, p1, rfl, rfl, hs, hp, vs, hH, rv⟩ := isL_at fr1.sto r1 hL
    refine ⟨tyV_list (by rw [G.K]; exact SqL.of hH), sub_E fr1 h1 fun w H2 d2 st2 μ2 n2 fr2 r2 h2 => ?_⟩
    have r1' := r1.ext n2.ext
    rcases extD_cases ρ.bs m d2 st2 with e | ⟨ys, zs, rfl, hs2, hl2, hw2, e⟩
    · rw [e] at h2; exact h2.elim
    · rw [e] at h2
      obtain ⟨q, ws, hq, hH2, rw2⟩ := fr2.sto.cell m ys hs2
      cases r1' with
      | ref hq' =>
        rw [hq] at hq'; cases hq'
        cases r2 with
        | lst hl3 rl3 =>
          refine ⟨_, _, ws, _, rfl, rfl, hH2, by rw [G.K]; exact hl3.sql, ?_, ?_⟩
          · have := line_le hl2; rw [rw2.length, rl3.length]; omega
          · refine h2 .non _ μ2 (NxE.wr fr2.sto hq hs2 (rw2.append rl3) ?_) .non
            rcases hw2 with h3 | h3
            · exact .inl h3
            · exact .inr (.inr fun bb hbb => olds_app hbb (olds_nr _ bb h3))
  · exact h1.elim
theorem y_rev {j : Nat} {p1 p2 p3 : Pos} (G : Good Z C c CE X E) (ha : PE X x (YE Z C c CE E a)) : PE X (.Subscript x (.Slice none none (some (.UnaryOp .USub (.Constant (.int 1) j p1) p2)) p3) pos) (YE Z C c CE E (.rev a)) := by
  refine (pe_revL ha).imp fun σ H Q ⟨ρ, μ, st, fr, h⟩ => ?_
  simp only [evE] at h
  refine sub_E fr h fun v H1 d1 st1 μ1 n1 fr1 r1 h1 => ?_
  obtain ⟨e, he, hq⟩ := tR_of fr1.sto h1
  have w := vw_of fr1.sto r1
  unfold revD at he
  split at he
  · rename_i e0
    cases he
    rw [e0] at w
    obtain ⟨q, vs, rfl, h3, h4⟩ := w.lst'
    exact ⟨q, vs, rfl, by rw [G.K]; exact h3, fun l hl => of_lay (E := E) hq fr1.sto hl (rep_lst fr1.sto hl h4.reverse)⟩
  · cases he
/-! ### dicts -/
theorem y_dnewT (G : Good Z C c CE X E) : PE X (.Dict [] [] pos) (YE Z C c CE E (.dnew true)) := by
  refine pe_dnewT.imp fun σ H Q ⟨ρ, μ, st, fr, h⟩ => fun p hp => ?_
  simp only [evE] at h
  refine h (.ref p) _ _ (NxE.pushC (c := .dct (.rw []) []) fr.sto hp fr.bs ⟨[], rfl, rfl, .nil⟩) (.ref ?_)
  show (μ.m ++ [some p])[st.length]? = _
  rw [List.getElem?_append_right (by rw [fr.sto.len]; exact Nat.le_refl _), fr.sto.len, Nat.sub_self]; rfl
theorem y_dnewK (G : Good Z C c CE X E) : PE X (.Dict [] [] pos) (YE Z C c CE E (.dnew false)) := by
  refine pe_dnewK.imp fun σ H Q ⟨ρ, μ, st, fr, h⟩ => fun p hp => ?_
  simp only [evE] at h
  refine h (.ref p) _ _ (NxE.pushC (c := .dct (.iw []) []) fr.sto hp fr.bs ⟨[], rfl, rfl, .nil⟩) (.ref ?_)
  show (μ.m ++ [some p])[st.length]? = _
  rw [List.getElem?_append_right (by rw [fr.sto.len]; exact Nat.le_refl _), fr.sto.len, Nat.sub_self]; rfl
theorem y_dget {p : Pos} (G : Good Z C c CE X E) (hb : okBase x = true) (hl : (p.endLine == pos.line) = true) (hy : okHead y = true) (hz : okHead z = true) (ha : PE X x (YE Z C c CE E a)) (hc : PE X y (YE Z C c CE E b)) (hd : PE X z (YE Z C c CE E d)) :
    PE X (.Call (.Attribute x "get" p) [y, z] [] pos) (YE Z C c CE E (.dget a b d)) := by
  have hu : X.A.units + 1 < cLine := by have := G.units; omega
  have s1 : starEach [y, z] X.env = [(false, eval y X.env), (false, eval z X.env)] := by rw [star_cons hy, star_cons hz]; rfl
  refine (pe_dget2 hu ha hc hd ⟨base_of hb _, by rw [s1]; rfl, hl, by rw [s1]; rfl⟩).imp fun σ H Q ⟨ρ, μ, st, fr, h⟩ => ?_
  simp only [evE] at h
  refine sub_E fr h fun v H1 d1 st1 μ1 n1 fr1 r1 h1 => ?_
  split at h1
  · rename_i hD
    have w := vw_of fr1.sto r1
    cases q : deref st1 d1 with
    | dct k xs =>
      rw [q] at w
      obtain ⟨a', vs, rfl, g2, g3, g4⟩ := w.dct'
      refine ⟨a', rfl, ?_, sub_E fr1 h1 fun y' H2 d2 st2 μ2 n2 fr2 r2 h2 => sub_E fr2 h2 fun z' H3 d3 st3 μ3 n3 fr3 r3 h3 => ?_⟩
      · cases k
        · exact .inr ⟨_, .inl g2⟩
        · exact .inl ⟨_, .inl g2⟩
      · have w3 := vw_of fr3.sto ((r1.ext n2.ext).ext n3.ext)
        obtain ⟨e, he, hq⟩ := tR_of fr3.sto h3
        unfold dgetD at he
        split at he
        · rename_i k' xs' e0
          obtain ⟨o, ho, rfl⟩ := Option.map_eq_some_iff.mp he
          rw [e0] at w3
          obtain ⟨a2, vs', e1, m2, m3, m4⟩ := w3.dct'
          cases e1
          have r2' := r2.ext n3.ext
          obtain ⟨g, dg, lk⟩ := dget_of m2 m3 m4 (.rep r2' (fun xs z => by subst z; cases k' <;> simp [DK.get] at ho) (fun k xs z => by subst z; cases k' <;> simp [DK.get] at ho)) ho
          refine ⟨g, dg, ?_⟩
          cases o with
          | some _ => obtain ⟨v', rfl, rv⟩ := lk; exact hq v' H3 μ3 (NxE.refl fr3.sto) rv
          | none => subst lk; exact hq z' H3 μ3 (NxE.refl fr3.sto) r3
        · cases he
    | _ => rw [q] at hD; cases hD
  · exact h1.elim
/-! ### a dict is written -/
section
variable {H : Hp} {μ : Mu}
theorem any_zip {α κ : Type} [DecidableEq α] [DecidableEq κ] (f : α → κ) (hf : ∀ a b, f a = f b → a = b) (k : α) : ∀ (ks : List α) (vs : List V), ks.length = vs.length → (((ks.map f).zip vs).any fun kv => decide (kv.1 = f k)) = ks.any fun a => decide (a = k)
  | [], _, _ => by simp
  | a :: ks, [], h => by simp at h
  | a :: ks, v :: vs, h => by
    have e : decide (f a = f k) = decide (a = k) := by
      by_cases q : a = k
      · simp [q]
      · have : f a ≠ f k := fun z => q (hf _ _ z)
        simp [q, this]
    simp only [List.map_cons, List.zip_cons_cons, List.any_cons, e, any_zip f hf k ks vs (by simpa using h)]
theorem map_zip {α κ : Type} [DecidableEq α] [DecidableEq κ] (f : α → κ) (hf : ∀ a b, f a = f b → a = b) (k : α) (v : V) : ∀ (ks : List α) (vs : List V), ((ks.map f).zip vs).map (fun kv => if kv.1 = f k then (kv.1, v) else kv) = (ks.map f).zip (List.zipWith (fun a x => if a = k then v else x) ks vs)
  | [], _ => by simp
  | a :: ks, [] => by simp
  | a :: ks, w :: vs => by
    simp only [List.map_cons, List.zip_cons_cons, List.zipWith_cons_cons, map_zip f hf k v ks vs]
    by_cases q : a = k
    · simp [q]
    · have : f a ≠ f k := fun z => q (hf _ _ z)
      simp [q, this]
theorem reps_zw {α : Type} [DecidableEq α] (k : α) {v : V} {e : D} (r : Rep Z H μ v e) : ∀ (ks : List α) {vs : List V} {xs : List D}, Reps Z H μ vs xs → Reps Z H μ (List.zipWith (fun a x => if a = k then v else x) ks vs) (List.zipWith (fun a x => if a = k then e else x) ks xs)
  | [], _, _, _ => by simp; exact .nil
  | a :: ks, _, _, .nil => by simp; exact .nil
  | a :: ks, _, _, .cons h t => by
    simp only [List.zipWith_cons_cons]
    refine .cons ?_ (reps_zw k r ks t)
    by_cases q : a = k
    · rw [if_pos q, if_pos q]; exact r
    · rw [if_neg q, if_neg q]; exact h
theorem putK_rel {α κ : Type} [DecidableEq α] [DecidableEq κ] (f : α → κ) (hf : ∀ a b, f a = f b → a = b) (k : α) {ks : List α} {vs : List V} {xs : List D} {v : V} {e : D} (rs : Reps Z H μ vs xs) (hl : ks.length = vs.length) (r : Rep Z H μ v e) :
    ∃ vs', putK ((ks.map f).zip vs) (f k) v = ((putKs k e ks xs).1.map f).zip vs' ∧ (putKs k e ks xs).1.length = vs'.length ∧ Reps Z H μ vs' (putKs k e ks xs).2 := by
  have ea := any_zip f hf k ks vs hl
  unfold putK putKs
  simp only [ea]
  by_cases q : (ks.any fun a => decide (a = k)) = true
  · rw [if_pos q, if_pos q]
    exact ⟨_, map_zip f hf k v ks vs, by simp [hl], reps_zw k r ks rs⟩
  · rw [if_neg q, if_neg q]
    refine ⟨vs ++ [v], ?_, by simp [hl], rs.append (.cons r .nil)⟩
    simp only [List.map_append, List.map_cons, List.map_nil]
    rw [List.zip_append (by simp [hl])]
    rfl
theorem put_rel {k k' : DK} {xs xs' : List D} {vs : List V} {a : Addr} {y : V} {i : D} {v : V} {e : D} (ha : H a = some (k.ho vs)) (hl : k.len = vs.length) (rs : Reps Z H μ vs xs) (ri : Rep Z H μ y i) (r : Rep Z H μ v e) (hp : k.put xs i e = some (k', xs')) (hs : xs.length < sizeLine) :
    ∃ vs', DPut H a y v (L2.upd H a (k'.ho vs')) ∧ k'.len = vs'.length ∧ Reps Z H μ vs' xs' := by
  have hz : vs.length < sizeLine := by rw [rs.length]; exact hs
  cases k with
  | rw ks =>
    cases i with
    | tup w =>
      simp only [DK.put, Option.map_eq_some_iff] at hp
      obtain ⟨ns, h1, h2⟩ := hp
      cases h2
      cases ri with
      | tup hb rw' =>
        have ew := ints_V rw' h1
        obtain ⟨vs', q1, q2, q3⟩ := putK_rel (fun w : List Int => w.map (Sum.inl : Int → Key)) inl_inj ns rs hl r
        refine ⟨vs', .inr ⟨_, ns.map Sum.inl, _, ha, rfl, by rw [hb.2, ew], by rw [List.length_zip]; simp; omega, ?_⟩, q2, q3⟩
        show _ = L2.upd H a (.dT _)
        rw [q1]; rfl
    | _ => cases hp
  | iw ks =>
    cases i with
    | int n =>
      simp only [DK.put] at hp
      cases hp
      cases ri
      obtain ⟨vs', q1, q2, q3⟩ := putK_rel (fun i : Int => (Sum.inl i : Key)) (fun _ _ z => by cases z; rfl) n rs hl r
      refine ⟨vs', .inl ⟨_, Sum.inl n, ha, rfl, by rw [List.length_zip]; simp; omega, ?_⟩, q2, q3⟩
      show _ = L2.upd H a (.dK _)
      rw [q1]; rfl
    | _ => cases hp
end
theorem dof_rel {Z : Lk} {bx : List Nat} {st : Sto} {H : Hp} {μ : Mu} : ∀ (ps : List D) (us : List V) {ks : List (List Int)} {k' : DK} {xs xs' : List D} {vs : List V}, Reps Z H μ us ps → Reps Z H μ vs xs → ks.length = vs.length → dofL (.rw ks) xs ps = some (k', xs') →
    ∃ (as : List Addr) (kvs : List (List Key × V)), us = as.map V.ref ∧ Paired (fun p kv => ∃ b, SqT Z.K H p [.ref b, kv.2] ∧ H b = some (.tup (kv.1.map kV))) as kvs ∧
      ∃ vs', k'.ho vs' = .dT (mergT ((ks.map fun w => w.map (Sum.inl : Int → Key)).zip vs) kvs) ∧ k'.len = vs'.length ∧ Reps Z H μ vs' xs'
  | [], _, ks, k', xs, xs', vs, .nil, rs, hl, h => by
    simp only [dofL, Option.some.injEq, Prod.mk.injEq] at h
    obtain ⟨rfl, rfl⟩ := h
    exact ⟨[], [], rfl, .nil, vs, rfl, hl, rs⟩
  | p :: ps, _, ks, k', xs, xs', vs, .cons r t, rs, hl, h => by
    unfold dofL at h
    split at h
    · rename_i e0; cases e0
    · rename_i y v r' e0
      rename_i k0 xs0
      rename_i ek ex
      cases e0
      split at h
      · rename_i k1 xs1 hp
        cases r with
        | tup ht rr =>
          cases rr with
          | cons ry rr =>
            cases rr with
            | cons rv rr =>
              cases rr
              cases y with
              | tup w =>
                simp only [DK.put, Option.map_eq_some_iff] at hp
                obtain ⟨ns, h1, h2⟩ := hp
                cases h2
                cases ry with
                | tup hb rw' =>
                  have ew := ints_V rw' h1
                  obtain ⟨vs1, q1, q2, q3⟩ := putK_rel (fun w : List Int => w.map (Sum.inl : Int → Key)) inl_inj ns rs hl rv
                  obtain ⟨as, kvs, g1, g2, vs', g3, g4, g5⟩ := dof_rel (bx := bx) (st := st) ps _ t q3 q2 h
                  refine ⟨_ :: as, (ns.map Sum.inl, _) :: kvs, by rw [g1]; rfl, .cons ⟨_, ht.sqt, by rw [hb.2, ew]⟩ g2, vs', ?_, g4, g5⟩
                  rw [g3, ← q1]; rfl
              | _ => cases hp
      · cases h
    · cases h
/-- dict(xs), to be changed -/
def rDm (Z : Lk) (E : XK) : List V → Hp → VK → Prop := fun vs H Q => ∃ bx bs μ st xs, bs ≤ st.length ∧ StoR Z bx μ st H ∧ Reps Z H μ vs xs ∧ tR (relD Z) Z E bx bs μ st H (match dofD (xs.map (deref st)) with
    | some (k, ys) => .ok (.ref st.length) (st ++ [.dct k ys])
    | none => .no) Q
theorem dm_cr (hK : X.K = Z.K) (hc : X.calm = true) (hu : X.A.units + 64 < cLine) : CallR X (.type "dict") (rDm Z E) := cr_imp (cr_dictT hc hu) fun vs H Q ⟨bx, bs, μ, st, xs, hb, s, r, h⟩ => by
  split at h
  · rename_i k ys he
    generalize e2 : xs.map (deref st) = ds at he
    unfold dofD at he
    split at he
    · rename_i ps
      obtain ⟨v, rfl, w⟩ := bi1 s r e2
      obtain ⟨a, us, rfl, hl, rl⟩ := w.lst'
      obtain ⟨as, kvs, g1, g2, vs', g3, g4, g5⟩ := dof_rel (bx := bx) (st := st) ps us rl .nil rfl he
      subst g1
      refine ⟨a, as, kvs, rfl, by rw [hK]; exact hl, by rw [hK]; exact g2, fun p hp => ?_⟩
      have g3' : k.ho vs' = .dT (mergT [] kvs) := g3
      rw [← g3']
      refine h (.ref p) _ _ (NxE.pushC (c := .dct k ys) s hp hb ⟨vs', rfl, g4, g5⟩) (.ref ?_)
      show (μ.m ++ [some p])[st.length]? = _
      rw [List.getElem?_append_right (by rw [s.len]; exact Nat.le_refl _), s.len, Nat.sub_self]; rfl
    · cases he
  · exact h.elim
theorem y_dof {es : Es} {xs : List Expr} {p : Pos} (G : Good Z C c CE X E) (hg : glB c.sc "dict" = true) (hx : (x :: xs).all okHead = true) (ha : PA X (x :: xs) (YEs Z C c CE E es)) : PE X (.Call (.Name "dict" p) (x :: xs) [] pos) (YE Z C c CE E (.dof es)) := by
  have h1 : starEach (x :: xs) X.env = (false, eval x X.env) :: starEach xs X.env := star_cons (by simp only [List.all_cons, Bool.and_eq_true] at hx; exact hx.1)
  have h2 : (backTo pos (starEach xs X.env)).any (·.1) = false := star_any (by simp only [List.all_cons, Bool.and_eq_true] at hx; exact hx.2)
  have hn : X.mg "dict" = none := G.bl _ (by decide)
  have key : PE X (.Call (.Name "dict" p) (x :: xs) [] pos) (tCB (rDm Z E) (YEs Z C c CE E es)) := pe_callTy (dm_cr (Z := Z) (E := E) G.K G.calm (by have := G.units; omega)) (G.gl hg) hn rfl ha (by decide) (by decide) h1 h2
  refine key.imp fun σ H Q ⟨ρ, μ, st, fr, h⟩ => ?_
  simp only [evE] at h
  exact sub_A (sem := fun ρ st => evEs C ρ es st) fr h fun vs H1 ds st1 μ1 n1 fr1 r1 h1 => ⟨ρ.bx, ρ.bs, μ1, st1, ds, fr1.bs, fr1.sto, r1, h1⟩
end Y
end
section
set_option Elab.async false
set_option linter.all false
set_option maxRecDepth 100000
set_option maxHeartbeats 1000000
set_option autoImplicit false
/-! Y10: what is walked. -/
namespace Y
open PySem PySem.Spec PyProof.Rows L2 LamX NdefX
/-! ### enumerate of a tuple -/
theorem enum_new {v : Value} {o : Obj} {H : Heap → Prop} (B : Begins v o H) :
    Meets (Builtin.«enumerate.__new__» ⟨[.type "enumerate", v], []⟩) fun _ R s => H s.heap ∧
      R (.ok (.ret (.ref (s.heap.push o).objs.size))) { s with heap := (s.heap.push o).push { cls := .type "enumerate", data := .fields #[.none, .bool false, .ref s.heap.objs.size, rawInt 0, .none, .none] } } :=
  .of_wp fun prog w A R s h => by
    obtain ⟨hp, g, d, tk, os⟩ := s
    obtain ⟨h1, h⟩ := h
    have hsub := sub_enumerate
    have q1 : ∀ {A' : Around} {E : Value → Shared → Prop} {Q : Value → Shared → Prop}, Q (.ref hp.objs.size) ⟨hp.push o, g, d, tk, os⟩ → wpAny (model prog w) A' (pyIter v) Q E ⟨hp, g, d, tk, os⟩ := fun q => B.iter prog w _ _ ⟨hp, g, d, tk, os⟩ _ h1 q
    wp_walk using q1
    refine wpAny_stack_any fun st => wpAny_pure ?_
    split
    · rename_i c _ _ _ _ _
      cases (c == Value.type "enumerate")
      · wp_walk using q1
        exact ⟨_, rfl, h⟩
      · wp_walk using q1
        exact ⟨_, rfl, h⟩
    · wp_walk using q1
      exact ⟨_, rfl, h⟩
section
variable {prog : Program} {w : World} {A : Around} {E : Value → Shared → Prop} {s : Shared}
theorem call_enum {v : Value} {o : Obj} {H : Heap → Prop} {Q : Value → Shared → Prop} (B : Begins v o H) (h1 : H s.heap)
    (h : ∀ h', IsEnum h' (s.heap.objs.size + 1) s.heap.objs.size 0 .none → h'.get? s.heap.objs.size = some o → h'.objs.size = s.heap.objs.size + 2 → (∀ b o, s.heap.get? b = some o → h'.get? b = some o) → Q (.ref (s.heap.objs.size + 1)) { s with heap := h' }) :
    wpAny (model prog w) A (call (.type "enumerate") [v]) Q E s := by
  refine callType_new F.called_enumerate (by decide) (F.typeCall_enumerate_1 _) (F.newCall_enumerate_1 _) (fun obj => F.args_object_init_2 obj _) F.entry_enumerate_new (enum_new B) ⟨h1, ?_⟩
  have hz : (s.heap.push o).objs.size = s.heap.objs.size + 1 := Heap.size_push ..
  show _ ∧ _
  rw [hz]
  have he : IsEnum ((s.heap.push o).push { cls := .type "enumerate", data := .fields #[.none, .bool false, .ref s.heap.objs.size, rawInt 0, .none, .none] }) (s.heap.objs.size + 1) s.heap.objs.size 0 .none := by
    have q := Heap.get?_push_size (s.heap.push o) (o := { cls := .type "enumerate", data := .fields #[.none, .bool false, .ref s.heap.objs.size, rawInt 0, .none, .none] }) rfl
    rw [hz] at q
    exact q
  exact ⟨⟨_, he, rfl⟩, h _ he (Heap.get?_push_of_some _ (Heap.get?_push_size _ B.free)) (by rw [Heap.size_push, hz]) fun b o x => Heap.get?_push_of_some _ (Heap.get?_push_of_some _ x)⟩
end
/-- the tuple at a, each item in a new pair -/
def Iet (K : PySem.W.Frag) (a : Addr) : L2.It :=
  ⟨fun i H => ∃ (xs : List V) (x : V), SqT K H a xs ∧ xs[i]? = some x, fun i H v H' => ∃ T x, v = .ref T ∧ H T = none ∧ H' = L2.upd H T (.tup [.int (i : Nat), x]) ∧ ∀ xs, SqT K H a xs → xs[i]? = some x, fun i H => ∃ xs : List V, SqT K H a xs ∧ xs.length ≤ i⟩
theorem turn_enumT {P : Program} {w : World} {K : PySem.W.Frag} {elts : List Expr} {kk : Nat} {tpos : Pos} (a e it : Addr) (hai : a ≠ it) (hae : a ≠ e) :
    Turn P w K (.Tuple elts kk tpos) (Iet K a) [e, it] e (fun i h => (∃ old, IsEnum h e it ((i : Nat) : Int) old) ∧ h.IsTupleIter it a i ∧ e ≠ it) where
  mem := by simp
  obj := fun i h st b hb => by
    obtain ⟨⟨old, he⟩, ⟨o, ho, hc, hd⟩, _⟩ := st
    have e' : b = e ∨ b = it := by simpa using hb
    rcases e' with z | z
    · rw [z]; exact ⟨_, he, fun v q => nomatch q⟩
    · rw [z]; exact ⟨o, ho, fun v q => by rw [hd] at q; cases q⟩
  keep := fun i h h' st k => by
    obtain ⟨⟨old, he⟩, hi, hne⟩ := st
    exact ⟨⟨old, k e (by simp) _ he⟩, hi.at fun o q => k it (by simp) o q, hne⟩
  item := by
    intro X hP hw hK hc i pins s σ H E I hf st hg
    subst hP hw hK
    obtain ⟨⟨old, he⟩, hit, hne⟩ := st
    obtain ⟨xs, x, hq, hx⟩ := hg
    obtain ⟨its, rv, p, hz⟩ := I.tuple hq
    obtain ⟨u, hu, ru⟩ := rv.get hx
    have hel : e < s.heap.objs.size := Heap.lt_size he
    have hil : it < s.heap.objs.size := by obtain ⟨_, q, _⟩ := hit; exact Heap.lt_size q
    have hlt : i < its.toArray.size := by rw [List.size_toArray]; exact (List.getElem?_eq_some_iff.mp hu).1
    refine wpAny_pyNext_enum_itemD (Draws.tuple (A := X.A.in1) (I.ok.hd hc) it a hai its.toArray) he ⟨hit, p⟩ hlt hne (by simp [hne, Ne.symm hae]) fun x' h' tk hP ho hst hT hsz hk => ?_
    have hx' : x' = u := by
      have q : its.toArray[i]? = some x' := hP
      simp only [List.getElem?_toArray] at q
      rw [hu] at q
      exact (Option.some.inj q).symm
    subst hx'
    refine ⟨_, rfl, wpAny_letOwnedTupleGo_enum (s := { s with heap := h', toks := tk + 1 }) ho fun h'' he' sb => ?_⟩
    have hT2 : h''.get? s.heap.objs.size = some { cls := .type "tuple", data := .seq #[.int i tk, x'] } := (sb.2 _ (Nat.ne_of_gt hel)).trans hT
    have new : ObjOk X.prog X.w (L2.upd H s.heap.objs.size (.tup [.int (i : Nat), x])) h'' s.heap.objs.size (.tup [.int (i : Nat), x]) :=
      ⟨by show 2 ≤ sizeLine; decide, [.int i tk, x'], .cons ⟨_, rfl⟩ (.cons ru .nil), ⟨_, hT2, rfl, _, rfl⟩⟩
    have I1 : Inv X pins σ (L2.upd H s.heap.objs.size (.tup [.int (i : Nat), x])) { s with heap := h'', toks := tk + 1 } :=
      I.turnedNew (ch := [e, it]) (fun b ob hb q => (sb.2 b (fun z => hb (by simp [z]))).trans (hk b ob (fun z => hb (by simp [z])) (fun z => hb (by simp [z])) q)) hf (Nat.le_refl _) new
    refine ⟨.ref s.heap.objs.size, _, I1, rfl, ⟨_, x, rfl, I.hok.fresh (Nat.le_refl _), rfl, fun ys hy => by rw [I.tuple_inj hy hq]; exact hx⟩, ⟨⟨x', ?_⟩, hst.1.at fun o q => (sb.2 it (Ne.symm hne)).trans q, hne⟩, fun b hb => ?_⟩
    · have e1 : ((i + 1 : Nat) : Int) = (i : Int) + 1 := by omega
      rw [e1]; exact he'
    · have hb' : b < s.heap.objs.size := by
        have e' : b = e ∨ b = it := by simpa using hb
        rcases e' with z | z
        · rw [z]; exact hel
        · rw [z]; exact hil
      rw [upd_ne (Nat.ne_of_lt hb')]
      exact (hf b hb).1
  done := by
    intro X hP hw hK hc i pins s σ H E I hf st hg
    subst hP hw hK
    obtain ⟨⟨old, he⟩, hit, hne⟩ := st
    obtain ⟨xs, hq, hx⟩ := hg
    obtain ⟨its, rv, p, hz⟩ := I.tuple hq
    obtain ⟨f0, f1, f2, f3, f4, f5⟩ := hf it (by simp)
    have hl := rv.length
    have hT : s.TypeIs (.ref e) "enumerate" := ⟨_, he, rfl⟩
    unfold pyNext
    refine wpAny_bind (wpAny_attempt (wpAny_callSpecial?_slot (name := Str.ofString "__next__") hT F.slot_enumerate_next (wpAny_call_entry F.slot_enumerate_next hT F.entry_enumerate_next ?_ (F.args_enumerate_next_1 _))))
    show wpAny _ _ (field (.ref e) 2 >>= _) _ _ _
    refine wpAny_bind (wpAny_field he rfl (x := .ref it) rfl ?_)
    refine wpAny_bind (wpAny_nextOf_tuple_end (A := X.A.in1) (I.ok.hd hc) hit (show s.heap.IsTuple a its.toArray from p) (by simp; omega) fun h' x he' hx' => ?_)
    obtain ⟨o, ho, hc'⟩ := hx'
    refine wpAny_bind (wpAny_isInstance (T := "StopIteration") (b := true) ⟨o, ho, hc'⟩ isSubtype_stop ?_)
    exact wpAny_pure ⟨rfl, I.turned (t' := s.toks) (fun b o hb q => he' b o hb q) f0 f1 f3 f4 f5⟩
  self := fun A i s Q E st h => by
    obtain ⟨⟨_, he⟩, _⟩ := st
    exact wpAny_pyIter_enum he h
def iEnumA (K : PySem.W.Frag) (te : TE) : TI := fun σ H R => te σ H fun v H1 => ∃ a xs, v = .ref a ∧ ((SqL K H1 a xs ∧ R (Ite K a) H1) ∨ (SqT K H1 a xs ∧ R (Iet K a) H1))
theorem pi_enumA {X : Cx} {e : Expr} {te : TE} {p pos tpos : Pos} {elts : List Expr} {kk : Nat} (hg : Gl X "enumerate") (hm : X.mg "enumerate" = none) (ha : PE X e te) (hs : starEach [e] X.env = (false, eval e X.env) :: starEach [] X.env) :
    PI X (.Tuple elts kk tpos) (.Call (.Name "enumerate" p) [e] [] pos) (iEnumA X.K te) := by
  refine ⟨fun pins s σ H R I h => ?_⟩
  refine Call_ (ld_blt I hg hm boot_enumerate (PyProof.Rows.callWith_type1 (one_arg ha I h (fun v s1 x H1 I1 r1 q1 => ?_) hs) hs))
  obtain ⟨a, xs, ex, q⟩ := q1
  subst ex
  cases r1
  have fr : ∀ b, (b = s1.heap.objs.size + 1 ∨ b = s1.heap.objs.size) → FpOk X pins H1 b := fun b e' => by
    have hle : s1.heap.objs.size ≤ b := by
      rcases e' with z | z
      · rw [z]; exact Nat.le_add_right _ _
      · rw [z]; exact Nat.le_refl _
    exact I1.fpOk hle (I1.hok.fresh hle)
  rcases q with ⟨hq, q⟩ | ⟨hq, q⟩
  · obtain ⟨its, rv, p', hz⟩ := I1.list hq
    refine call_enumerate_list p'.isList fun h' he hit hsz hk => wpAny_pyIter_enum he ?_
    have I2 : Inv X pins σ H1 { s1 with heap := h' } := I1.kept (t' := s1.toks) hk
    exact ⟨s1.heap.objs.size + 1, [s1.heap.objs.size + 1, s1.heap.objs.size], _, _, H1, rfl, I2, turn_enum a (s1.heap.objs.size + 1) s1.heap.objs.size, ⟨⟨.none, he⟩, hit, Nat.succ_ne_self _⟩, fun b hb => fr b (by simpa using hb), q⟩
  · obtain ⟨its, rv, p', hz⟩ := I1.tuple hq
    have hlt : a < s1.heap.objs.size := p'.lt
    refine call_enum (begins_tuple a its.toArray) (show s1.heap.IsTuple a its.toArray from p') fun h' he hit hsz hk => wpAny_pyIter_enum he ?_
    have I2 : Inv X pins σ H1 { s1 with heap := h' } := I1.kept (t' := s1.toks) hk
    exact ⟨s1.heap.objs.size + 1, [s1.heap.objs.size + 1, s1.heap.objs.size], _, _, H1, rfl, I2, turn_enumT a (s1.heap.objs.size + 1) s1.heap.objs.size (Nat.ne_of_lt hlt) (Nat.ne_of_lt (Nat.lt_succ_of_lt hlt)), ⟨⟨.none, he⟩, ⟨_, hit, rfl, rfl⟩, Nat.succ_ne_self _⟩, fun b hb => fr b (by simpa using hb), q⟩
end Y
end
section
set_option Elab.async false
set_option linter.all false
set_option maxRecDepth 100000
set_option maxHeartbeats 1000000
set_option autoImplicit false
/-! Y11: what is walked, by the semantics. -/
namespace Y
open PySem PySem.Spec PyProof.Rows L2 LamX NdefX
/-- the iterator walks that source, from then on -/
def Wk (Z : Lk) (bx : List Nat) (bs : Nat) (J : L2.It) (src : Src) (μ0 : Mu) (H0 : Hp) : Prop :=
  ∀ (μ : Mu) (st : Sto) (H : Hp), Ext μ0 H0 μ H → StoR Z bx μ st H → ∀ i : Nat,
    (∀ x, srcAt st src i = some x → J.go i H ∧ ∀ v H', J.yld i H v H' → ∃ μ', NxE Z bx bs μ st H μ' st H' ∧ Rep Z H' μ' v x) ∧ (srcEnd st src i = true → J.stop i H)
def tI (Z : Lk) (N : List Str) (BX : List Nat) (CE : List (Str × Addr)) (E : XK) (sem : Env → Sto → Res Src) : TI := fun σ H R => ∃ ρ μ st, Fr Z N BX CE σ ρ μ st H ∧ match sem ρ st with
  | .ok src st' => ∀ J H' μ', NxE Z ρ.bx ρ.bs μ st H μ' st' H' → Wk Z ρ.bx ρ.bs J src μ' H' → R J H'
  | .ex _ _ => False
  | .no => False
theorem _root_.L2.PI.imp {X : Cx} {tg e : Expr} {t t' : TI} (h : PI X tg e t) (i : ∀ σ H Q, t' σ H Q → t σ H Q) : PI X tg e t' := ⟨fun pins s σ H Q I q => h.run pins s σ H Q I (i σ H Q q)⟩
variable {Z : Lk} {C : Cs} {c : Cf} {CE : List (Str × Addr)} {X : Cx} {E : XK} {pos : Pos} {x y z : Expr} {a b d : Y.E} {n : Nat} {k : Nat}
/-- a source that needs one value -/
theorem subI_E {sem : Env → Sto → Res D} {σ : L2.St} {H : Hp} {ρ : Env} {μ : Mu} {st : Sto} {k : D → Sto → Res Src} {R : L2.It → Hp → Prop} {Q1 : VK} (fr : Fr Z c.N c.BX CE σ ρ μ st H)
    (h : match (sem ρ st).bind k with
      | .ok src st' => ∀ J H' μ', NxE Z ρ.bx ρ.bs μ st H μ' st' H' → Wk Z ρ.bx ρ.bs J src μ' H' → R J H'
      | .ex _ _ => False
      | .no => False)
    (hk : ∀ v H1 d st1 μ1, NxE Z ρ.bx ρ.bs μ st H μ1 st1 H1 → Fr Z c.N c.BX CE σ ρ μ1 st1 H1 → Rep Z H1 μ1 v d → (match k d st1 with
      | .ok src st' => ∀ J H' μ', NxE Z ρ.bx ρ.bs μ1 st1 H1 μ' st' H' → Wk Z ρ.bx ρ.bs J src μ' H' → R J H'
      | .ex _ _ => False
      | .no => False) → Q1 v H1) : tE Z c.N c.BX CE E sem σ H Q1 := by
  refine ⟨ρ, μ, st, fr, ?_⟩
  cases e : sem ρ st with
  | ok d st' =>
    rw [e, Res.bind_ok] at h
    refine fun v H' μ' n q => hk v H' d st' μ' n (fr.next n) q ?_
    cases e2 : k d st' with
    | ok src st2 => rw [e2] at h; exact fun J H2 μ2 n2 w => h J H2 μ2 (n.trans n2) w
    | ex _ _ => rw [e2] at h; exact h
    | no => rw [e2] at h; exact h
  | ex x st' => rw [e] at h; exact h
  | no => rw [e] at h; exact h
theorem wk_list {bx : List Nat} {bs : Nat} {μ : Mu} {H : Hp} {p : Addr} {vs : List V} {xs : List D} (h : LsAt Z.K H μ p vs) (r : Reps Z H μ vs xs) : Wk Z bx bs (Itl Z.K p) (.fix xs) μ H := by
  intro μ1 st1 H1 ne ns i
  have h1 := (h.ext ne).sql
  have r1 := Reps.ext ne r
  refine ⟨fun x hx => ?_, fun he => ?_⟩
  · obtain ⟨v, hv, rv⟩ := r1.get hx
    refine ⟨⟨vs, v, h1, hv⟩, fun w H' ⟨e, q⟩ => ?_⟩
    subst e
    have := q vs h1
    rw [hv] at this; cases this
    exact ⟨μ1, NxE.refl ns, rv⟩
  · simp only [srcEnd, decide_eq_true_eq] at he
    exact ⟨vs, h1, by rw [r1.length]; omega⟩
theorem wk_tup {bx : List Nat} {bs : Nat} {μ : Mu} {H : Hp} {p : Addr} {vs : List V} {xs : List D} (h : TpAt Z.K H μ p vs) (r : Reps Z H μ vs xs) : Wk Z bx bs (Itt Z.K p) (.fix xs) μ H := by
  intro μ1 st1 H1 ne ns i
  have h1 := (h.ext ne).sqt
  have r1 := Reps.ext ne r
  refine ⟨fun x hx => ?_, fun he => ?_⟩
  · obtain ⟨v, hv, rv⟩ := r1.get hx
    refine ⟨⟨vs, v, h1, hv⟩, fun w H' ⟨e, q⟩ => ?_⟩
    subst e
    have := q vs h1
    rw [hv] at this; cases this
    exact ⟨μ1, NxE.refl ns, rv⟩
  · simp only [srcEnd, decide_eq_true_eq] at he
    exact ⟨vs, h1, by rw [r1.length]; omega⟩
theorem wk_cell {bx : List Nat} {bs : Nat} {μ : Mu} {H : Hp} {p : Addr} {m len : Nat} (h : μ.m[m]? = some (some p)) : Wk Z bx bs (Itl Z.K p) (.cell m len) μ H := by
  intro μ1 st1 H1 ne ns i
  have h1 := ne.at h
  have key : ∀ xs, st1[m]? = some (Cell.lst xs) → ∃ vs, SqL Z.K H1 p vs ∧ Reps Z H1 μ1 vs xs := fun xs hs => by
    obtain ⟨q, vs, e1, e2, e3⟩ := ns.cell m xs hs
    rw [h1] at e1; cases e1
    exact ⟨vs, SqL.of e2, e3⟩
  refine ⟨fun x hx => ?_, fun he => ?_⟩
  · simp only [srcAt] at hx
    split at hx
    · rename_i xs hs
      split at hx
      · obtain ⟨vs, q1, q2⟩ := key xs hs
        obtain ⟨v, hv, rv⟩ := q2.get hx
        refine ⟨⟨vs, v, q1, hv⟩, fun w H' ⟨e, q⟩ => ?_⟩
        subst e
        have := q vs q1
        rw [hv] at this; cases this
        exact ⟨μ1, NxE.refl ns, rv⟩
      · cases hx
    · cases hx
  · simp only [srcEnd, endC, Bool.and_eq_true, decide_eq_true_eq] at he
    obtain ⟨he, rfl⟩ := he
    split at he
    · rename_i xs hs
      obtain ⟨vs, q1, q2⟩ := key xs hs
      exact ⟨vs, q1, by rw [q2.length]; have := of_decide_eq_true he; omega⟩
    · cases he
def iSeq (K : PySem.W.Frag) (te : TE) : TI := fun σ H R => te σ H fun v H1 => ∃ a, v = .ref a ∧ (((∃ xs, SqL K H1 a xs) ∧ R (Itl K a) H1) ∨ ((∃ xs, SqT K H1 a xs) ∧ R (Itt K a) H1))
theorem pi_seq {tg e : Expr} {te : TE} (he : PE X e te) : PI X tg e (iSeq X.K te) := by
  refine ⟨fun pins s σ H R I h => ?_⟩
  refine thn (he.run pins s σ H _ I h) fun v s1 ⟨x, H1, I1, r1, a, ex, q⟩ => ?_
  subst ex
  cases r1
  have fr : ∀ b, b ∈ [s1.heap.objs.size] → FpOk X pins H1 b := fun b hb => by
    have e : b = s1.heap.objs.size := by simpa using hb
    subst e
    exact I1.fpOk (Nat.le_refl _) (I1.hok.fresh (Nat.le_refl _))
  rcases q with ⟨⟨xs, hq⟩, q⟩ | ⟨⟨xs, hq⟩, q⟩
  · obtain ⟨its, rv, p, hz⟩ := I1.list hq
    refine wpAny_pyIter_list p.isList ?_
    exact ⟨s1.heap.objs.size, [s1.heap.objs.size], _, _, H1, rfl, I1.kept (t' := s1.toks) fun b o e => Heap.get?_push_of_some _ e, turn_list a _, ⟨_, Heap.get?_push_size _ rfl, rfl, rfl⟩, fr, q⟩
  · obtain ⟨its, rv, p, hz⟩ := I1.tuple hq
    refine wpAny_pyIter_tuple (show s1.heap.IsTuple a its.toArray from p) ?_
    exact ⟨s1.heap.objs.size, [s1.heap.objs.size], _, _, H1, rfl, I1.kept (t' := s1.toks) fun b o e => Heap.get?_push_of_some _ e, turn_tuple a _, ⟨_, Heap.get?_push_size _ rfl, rfl, rfl⟩, fr, q⟩
abbrev YI (Z : Lk) (C : Cs) (c : Cf) (CE : List (Str × Addr)) (E : XK) (it : Y.It) : TI := tI Z c.N c.BX CE E fun ρ st => evI C ρ it st
theorem y_ival {tg : Expr} (G : Good Z C c CE X E) (ha : PE X x (YE Z C c CE E a)) : PI X tg x (YI Z C c CE E (.val a)) := by
  refine (pi_seq ha).imp fun σ H R ⟨ρ, μ, st, fr, h⟩ => ?_
  simp only [evI] at h
  refine subI_E fr h fun v H1 e st1 μ1 n1 fr1 r1 h1 => ?_
  rw [G.K]
  cases r1 with
  | tup ht r => exact ⟨_, rfl, .inr ⟨⟨_, ht.sqt⟩, h1 _ H1 μ1 (NxE.refl fr1.sto) (wk_tup ht r)⟩⟩
  | lst ht r => exact ⟨_, rfl, .inl ⟨⟨_, ht.sql⟩, h1 _ H1 μ1 (NxE.refl fr1.sto) (wk_list ht r)⟩⟩
  | ref hm =>
    rename_i p m
    simp only [srcD] at h1
    cases q : st1[m]? with
    | none => rw [q] at h1; exact h1.elim
    | some cl =>
      cases cl with
      | var _ => rw [q] at h1; exact h1.elim
      | dct _ _ => rw [q] at h1; exact h1.elim
      | lst xs =>
        rw [q] at h1
        obtain ⟨p', vs, e1, e2, e3⟩ := fr1.sto.cell m xs q
        rw [hm] at e1; cases e1
        exact ⟨_, rfl, .inl ⟨⟨vs, SqL.of e2⟩, h1 _ H1 μ1 (NxE.refl fr1.sto) (wk_cell hm)⟩⟩
  | non => exact h1.elim
  | bl _ => exact h1.elim
  | int _ => exact h1.elim
  | str _ => exact h1.elim
  | fn _ => exact h1.elim
  | dct _ _ => exact h1.elim
  | clo _ _ _ _ _ _ _ _ _ => exact h1.elim
theorem wk_rng {bx : List Nat} {bs : Nat} {μ : Mu} {H : Hp} {m : Int} {j : Nat} : Wk Z bx bs (Itr m j) (.fix ((List.range j).map fun (i : Nat) => D.int (m + i))) μ H := by
  intro μ1 st1 H1 ne ns i
  refine ⟨fun x hx => ?_, fun he => ?_⟩
  · simp only [srcAt, List.getElem?_map, Option.map_eq_some_iff] at hx
    obtain ⟨q, hq, rfl⟩ := hx
    obtain ⟨hl, e⟩ := List.getElem?_eq_some_iff.mp hq
    simp only [List.getElem_range] at e
    subst e
    simp only [List.length_range] at hl
    refine ⟨hl, fun v H' ⟨e, e2⟩ => ?_⟩
    subst e e2
    exact ⟨μ1, NxE.refl ns, .int _⟩
  · simp only [srcEnd, List.length_map, List.length_range, decide_eq_true_eq] at he
    subst he
    exact Nat.le_refl i
theorem y_irng {tg : Expr} {p : Pos} (G : Good Z C c CE X E) (h1 : glB c.sc "range" = true) (hx : okHead x = true) (ha : PE X x (YE Z C c CE E a)) : PI X tg (.Call (.Name "range" p) [x] [] pos) (YI Z C c CE E (.rng a)) := by
  have s1 : starEach [x] X.env = (false, eval x X.env) :: starEach [] X.env := star_cons hx
  refine (pi_range1 (G.gl h1) (G.bl "range" (by decide)) (pa_cons ha pa_nil s1) s1).imp fun σ H R ⟨ρ, μ, st, fr, h⟩ => ?_
  simp only [evI] at h
  refine subI_E fr h fun v H1 e st1 μ1 n1 fr1 r1 h1 => ?_
  cases r1 with
  | int m =>
    simp only at h1
    split at h1
    · rename_i src st' hh
      by_cases hi : i62 m = true
      · rw [if_pos hi] at hh; cases hh
        obtain ⟨q1, q2⟩ := i62_iff hi
        refine ⟨m, rfl, q1, q2, h1 _ H1 μ1 (NxE.refl fr1.sto) ?_⟩
        have w := wk_rng (Z := Z) (bx := ρ.bx) (bs := ρ.bs) (μ := μ1) (H := H1) (m := 0) (j := m.toNat)
        simpa only [Int.zero_add] using w
      · rw [if_neg hi] at hh; cases hh
    · exact h1.elim
    · exact h1.elim
  | _ => exact h1.elim
theorem y_irng2 {tg : Expr} {p : Pos} (G : Good Z C c CE X E) (h1 : glB c.sc "range" = true) (hx : okHead x = true) (hy : okHead y = true) (ha : PE X x (YE Z C c CE E a)) (hb : PE X y (YE Z C c CE E b)) :
    PI X tg (.Call (.Name "range" p) [x, y] [] pos) (YI Z C c CE E (.rng2 a b)) := by
  have s1 : starEach [y] X.env = (false, eval y X.env) :: starEach [] X.env := star_cons hy
  have s2 : starEach [x, y] X.env = (false, eval x X.env) :: starEach [y] X.env := star_cons hx
  refine (pi_range2 (G.gl h1) (G.bl "range" (by decide)) (pa_cons ha (pa_cons hb pa_nil s1) s2) (by rw [s2, s1]; rfl) (by rw [s1]; rfl)).imp fun σ H R ⟨ρ, μ, st, fr, h⟩ => ?_
  simp only [evI] at h
  refine subI_E fr h fun v H1 e st1 μ1 n1 fr1 r1 h1 => subI_E fr1 h1 fun w H2 f st2 μ2 n2 fr2 r2 h2 => ?_
  have r1' := r1.ext n2.ext
  cases r1' with
  | int m =>
    cases r2 with
    | int q =>
      simp only at h2
      split at h2
      · rename_i src st' hh
        by_cases hi : (i62 m && i62 q) = true
        · rw [if_pos hi] at hh; cases hh
          simp only [Bool.and_eq_true] at hi
          obtain ⟨q1, q2⟩ := i62_iff hi.1
          obtain ⟨q3, q4⟩ := i62_iff hi.2
          exact ⟨m, q, rfl, ⟨q1, q2, q3, q4⟩, h2 _ H2 μ2 (NxE.refl fr2.sto) wk_rng⟩
        · rw [if_neg hi] at hh; cases hh
      · exact h2.elim
      · exact h2.elim
    | _ => exact h2.elim
  | _ => exact h2.elim
theorem enumT_at : ∀ (xs : List D) (m i : Nat) (x : D), (enumT m xs)[i]? = some x → ∃ y, xs[i]? = some y ∧ x = .tup [.int ((m + i : Nat) : Int), y]
  | [], _, _, _, h => by simp [enumT] at h
  | y :: ys, m, 0, x, h => by simp [enumT] at h; exact ⟨y, rfl, h.symm⟩
  | y :: ys, m, i + 1, x, h => by
    simp only [enumT, List.getElem?_cons_succ] at h
    obtain ⟨z, h1, h2⟩ := enumT_at ys (m + 1) i x h
    exact ⟨z, by simpa using h1, by rw [h2, show m + 1 + i = m + (i + 1) by omega]⟩
theorem enumT_len : ∀ (xs : List D) (m : Nat), (enumT m xs).length = xs.length
  | [], _ => rfl
  | _ :: ys, m => by simp [enumT, enumT_len ys (m + 1)]
theorem zipT_at : ∀ (xs ys : List D) (i : Nat) (x : D), (zipT xs ys)[i]? = some x → ∃ y z, xs[i]? = some y ∧ ys[i]? = some z ∧ x = .tup [y, z]
  | [], _, _, _, h => by simp [zipT] at h
  | _ :: _, [], _, _, h => by simp [zipT] at h
  | y :: ys, z :: zs, 0, x, h => by simp [zipT] at h; exact ⟨y, z, rfl, rfl, h.symm⟩
  | y :: ys, z :: zs, i + 1, x, h => by
    simp only [zipT, List.getElem?_cons_succ] at h
    obtain ⟨u, v, h1, h2, h3⟩ := zipT_at ys zs i x h
    exact ⟨u, v, by simpa using h1, by simpa using h2, h3⟩
theorem zipT_len : ∀ (xs ys : List D), (zipT xs ys).length = min xs.length ys.length
  | [], _ => by simp [zipT]
  | _ :: _, [] => by simp [zipT]
  | _ :: ys, _ :: zs => by simp [zipT, zipT_len ys zs]
/-- a new pair -/
theorem pair_new {bx : List Nat} {bs : Nat} {μ : Mu} {st : Sto} {H : Hp} {T : Addr} {v w : V} {e f : D} (s : StoR Z bx μ st H) (hT : H T = none) (h1 : Rep Z H μ v e) (h2 : Rep Z H μ w f) :
    NxE Z bx bs μ st H μ st (L2.upd H T (.tup [v, w])) ∧ Rep Z (L2.upd H T (.tup [v, w])) μ (.ref T) (.tup [e, f]) := ⟨Nx.lay s hT, rep_tup s hT (.cons h1 (.cons h2 .nil))⟩
theorem wk_enumL {bx : List Nat} {bs : Nat} {μ : Mu} {H : Hp} {p : Addr} {vs : List V} {xs : List D} (h : LsAt Z.K H μ p vs) (r : Reps Z H μ vs xs) : Wk Z bx bs (Ite Z.K p) (.fix (enumT 0 xs)) μ H := by
  intro μ1 st1 H1 ne ns i
  have h1 := (h.ext ne).sql
  have r1 := Reps.ext ne r
  refine ⟨fun x hx => ?_, fun he => ?_⟩
  · obtain ⟨y, hy, rfl⟩ := enumT_at xs 0 i x hx
    obtain ⟨v, hv, rv⟩ := r1.get hy
    refine ⟨⟨vs, v, h1, hv⟩, fun w H' ⟨T, u, e1, e2, e3, q⟩ => ?_⟩
    subst e1 e3
    have := q vs h1
    rw [hv] at this; cases this
    rw [Nat.zero_add]
    exact ⟨μ1, pair_new ns e2 (.int _) rv⟩
  · simp only [srcEnd, enumT_len, decide_eq_true_eq] at he
    exact ⟨vs, h1, by rw [r1.length]; omega⟩
theorem wk_enumT {bx : List Nat} {bs : Nat} {μ : Mu} {H : Hp} {p : Addr} {vs : List V} {xs : List D} (h : TpAt Z.K H μ p vs) (r : Reps Z H μ vs xs) : Wk Z bx bs (Iet Z.K p) (.fix (enumT 0 xs)) μ H := by
  intro μ1 st1 H1 ne ns i
  have h1 := (h.ext ne).sqt
  have r1 := Reps.ext ne r
  refine ⟨fun x hx => ?_, fun he => ?_⟩
  · obtain ⟨y, hy, rfl⟩ := enumT_at xs 0 i x hx
    obtain ⟨v, hv, rv⟩ := r1.get hy
    refine ⟨⟨vs, v, h1, hv⟩, fun w H' ⟨T, u, e1, e2, e3, q⟩ => ?_⟩
    subst e1 e3
    have := q vs h1
    rw [hv] at this; cases this
    rw [Nat.zero_add]
    exact ⟨μ1, pair_new ns e2 (.int _) rv⟩
  · simp only [srcEnd, enumT_len, decide_eq_true_eq] at he
    exact ⟨vs, h1, by rw [r1.length]; omega⟩
theorem y_ienum {ts : List Expr} {kk : Nat} {p tpos : Pos} (G : Good Z C c CE X E) (h1 : glB c.sc "enumerate" = true) (hx : okHead x = true) (ha : PE X x (YE Z C c CE E a)) :
    PI X (.Tuple ts kk tpos) (.Call (.Name "enumerate" p) [x] [] pos) (YI Z C c CE E (.enum a)) := by
  refine (pi_enumA (G.gl h1) (G.bl "enumerate" (by decide)) ha (star_cons hx)).imp fun σ H R ⟨ρ, μ, st, fr, h⟩ => ?_
  simp only [evI] at h
  refine subI_E fr h fun v H1 e st1 μ1 n1 fr1 r1 h1 => ?_
  rw [G.K]
  cases r1 with
  | tup ht r => exact ⟨_, _, rfl, .inr ⟨ht.sqt, h1 _ H1 μ1 (NxE.refl fr1.sto) (wk_enumT ht r)⟩⟩
  | lst ht r => exact ⟨_, _, rfl, .inl ⟨ht.sql, h1 _ H1 μ1 (NxE.refl fr1.sto) (wk_enumL ht r)⟩⟩
  | _ => exact h1.elim
theorem wk_zipL {bx : List Nat} {bs : Nat} {μ : Mu} {H : Hp} {p q : Addr} {vs ws : List V} {xs ys : List D} (h : LsAt Z.K H μ p vs) (r : Reps Z H μ vs xs) (h' : LsAt Z.K H μ q ws) (r' : Reps Z H μ ws ys) : Wk Z bx bs (Itz Z.K p q) (.fix (zipT xs ys)) μ H := by
  intro μ1 st1 H1 ne ns i
  have h1 := (h.ext ne).sql
  have r1 := Reps.ext ne r
  have h2 := (h'.ext ne).sql
  have r2 := Reps.ext ne r'
  refine ⟨fun x hx => ?_, fun he => ?_⟩
  · obtain ⟨y, z, hy, hz, rfl⟩ := zipT_at xs ys i x hx
    obtain ⟨v, hv, rv⟩ := r1.get hy
    obtain ⟨w, hw, rw'⟩ := r2.get hz
    refine ⟨⟨vs, ws, v, w, h1, h2, hv, hw⟩, fun t H' ⟨T, u1, u2, e1, e2, e3, q1, q2⟩ => ?_⟩
    subst e1 e3
    have a1 := q1 vs h1
    rw [hv] at a1; cases a1
    have a2 := q2 ws h2
    rw [hw] at a2; cases a2
    exact ⟨μ1, pair_new ns e2 rv rw'⟩
  · simp only [srcEnd, zipT_len, decide_eq_true_eq] at he
    exact ⟨vs, ws, h1, h2, by rw [r1.length, r2.length]; omega⟩
theorem wk_zipT {bx : List Nat} {bs : Nat} {μ : Mu} {H : Hp} {p q : Addr} {vs ws : List V} {xs ys : List D} (h : TpAt Z.K H μ p vs) (r : Reps Z H μ vs xs) (h' : TpAt Z.K H μ q ws) (r' : Reps Z H μ ws ys) : Wk Z bx bs (RZ.ItzT Z.K p q) (.fix (zipT xs ys)) μ H := by
  intro μ1 st1 H1 ne ns i
  have h1 := (h.ext ne).sqt
  have r1 := Reps.ext ne r
  have h2 := (h'.ext ne).sqt
  have r2 := Reps.ext ne r'
  refine ⟨fun x hx => ?_, fun he => ?_⟩
  · obtain ⟨y, z, hy, hz, rfl⟩ := zipT_at xs ys i x hx
    obtain ⟨v, hv, rv⟩ := r1.get hy
    obtain ⟨w, hw, rw'⟩ := r2.get hz
    refine ⟨⟨vs, ws, v, w, h1, h2, hv, hw⟩, fun t H' ⟨T, u1, u2, e1, e2, e3, q1, q2⟩ => ?_⟩
    subst e1 e3
    have a1 := q1 vs h1
    rw [hv] at a1; cases a1
    have a2 := q2 ws h2
    rw [hw] at a2; cases a2
    exact ⟨μ1, pair_new ns e2 rv rw'⟩
  · simp only [srcEnd, zipT_len, decide_eq_true_eq] at he
    exact ⟨vs, ws, h1, h2, by rw [r1.length, r2.length]; omega⟩
theorem y_izip {ts : List Expr} {kk : Nat} {p tpos : Pos} (G : Good Z C c CE X E) (h1 : glB c.sc "zip" = true) (hx : okHead x = true) (hy : okHead y = true) (ha : PE X x (YE Z C c CE E a)) (hb : PE X y (YE Z C c CE E b)) :
    PI X (.Tuple ts kk tpos) (.Call (.Name "zip" p) [x, y] [] pos) (YI Z C c CE E (.zip a b)) := by
  have s1 : starEach [y] X.env = (false, eval y X.env) :: starEach [] X.env := star_cons hy
  have s2 : starEach [x, y] X.env = (false, eval x X.env) :: starEach [y] X.env := star_cons hx
  refine (RZ.pi_zipA (G.gl h1) (G.bl "zip" (by decide)) (pa_cons ha (pa_cons hb pa_nil s1) s2) s2 (by rw [s1]; rfl)).imp fun σ H R ⟨ρ, μ, st, fr, h⟩ => ?_
  simp only [evI] at h
  refine subI_E fr h fun v H1 e st1 μ1 n1 fr1 r1 h1 => subI_E fr1 h1 fun w H2 f st2 μ2 n2 fr2 r2 h2 => ?_
  have r1' := r1.ext n2.ext
  rw [G.K]
  cases r1' with
  | tup ht r =>
    cases r2 with
    | tup ht2 r' => exact ⟨_, _, _, _, rfl, .inr ⟨ht.sqt, ht2.sqt, h2 _ H2 μ2 (NxE.refl fr2.sto) (wk_zipT ht r ht2 r')⟩⟩
    | _ => exact h2.elim
  | lst ht r =>
    cases r2 with
    | lst ht2 r' => exact ⟨_, _, _, _, rfl, .inl ⟨ht.sql, ht2.sql, h2 _ H2 μ2 (NxE.refl fr2.sto) (wk_zipL ht r ht2 r')⟩⟩
    | _ => exact h2.elim
  | _ => exact h2.elim
/-! ### zip to one name -/
theorem zipT3_at : ∀ (xs ys zs : List D) (i : Nat) (x : D), (zipT3 xs ys zs)[i]? = some x → ∃ y z u, xs[i]? = some y ∧ ys[i]? = some z ∧ zs[i]? = some u ∧ x = .tup [y, z, u]
  | [], _, _, _, _, h => by simp [zipT3] at h
  | _ :: _, [], _, _, _, h => by simp [zipT3] at h
  | _ :: _, _ :: _, [], _, _, h => by simp [zipT3] at h
  | y :: ys, z :: zs, u :: us, 0, x, h => by simp [zipT3] at h; exact ⟨y, z, u, rfl, rfl, rfl, h.symm⟩
  | y :: ys, z :: zs, u :: us, i + 1, x, h => by
    simp only [zipT3, List.getElem?_cons_succ] at h
    obtain ⟨a, b, c, h1, h2, h3, h4⟩ := zipT3_at ys zs us i x h
    exact ⟨a, b, c, by simpa using h1, by simpa using h2, by simpa using h3, h4⟩
theorem zipT3_len : ∀ (xs ys zs : List D), (zipT3 xs ys zs).length = min (min xs.length ys.length) zs.length
  | [], _, _ => by simp [zipT3]
  | _ :: _, [], _ => by simp [zipT3]
  | _ :: _, _ :: _, [] => by simp [zipT3]
  | _ :: xs, _ :: ys, _ :: zs => by simp [zipT3, zipT3_len xs ys zs]
theorem row_new {bx : List Nat} {bs : Nat} {μ : Mu} {st : Sto} {H : Hp} {T : Addr} {vs : List V} {ds : List D} (s : StoR Z bx μ st H) (hT : H T = none) (h : Reps Z H μ vs ds) :
    NxE Z bx bs μ st H μ st (L2.upd H T (.tup vs)) ∧ Rep Z (L2.upd H T (.tup vs)) μ (.ref T) (.tup ds) := ⟨Nx.lay s hT, rep_tup s hT h⟩
/-- a list or a tuple that nobody writes -/
def SrcAt (Z : Lk) (H : Hp) (μ : Mu) (k : Bool) (a : Addr) (vs : List V) : Prop := match k with
  | false => LsAt Z.K H μ a vs
  | true => TpAt Z.K H μ a vs
theorem SrcAt.ext {Z : Lk} {μ μ' : Mu} {H H' : Hp} {k : Bool} {a : Addr} {vs : List V} (h : SrcAt Z H μ k a vs) (e : Ext μ H μ' H') : SrcAt Z H' μ' k a vs := by
  cases k
  · exact LsAt.ext e h
  · exact TpAt.ext (K := Z.K) e h
theorem SrcAt.sq {Z : Lk} {μ : Mu} {H : Hp} {k : Bool} {a : Addr} {vs : List V} (h : SrcAt Z H μ k a vs) : ZN.SqK Z.K k H a vs := by
  cases k
  · exact LsAt.sql h
  · exact TpAt.sqt h
theorem wk_zip2N {bx : List Nat} {bs : Nat} {μ : Mu} {H : Hp} {k1 k2 : Bool} {p q : Addr} {vs ws : List V} {xs ys : List D} (h : SrcAt Z H μ k1 p vs) (r : Reps Z H μ vs xs) (h' : SrcAt Z H μ k2 q ws) (r' : Reps Z H μ ws ys) : Wk Z bx bs (ZN.Itz2 Z.K k1 k2 p q) (.fix (zipT xs ys)) μ H := by
  intro μ1 st1 H1 ne ns i
  have h1 := (h.ext ne).sq
  have r1 := Reps.ext ne r
  have h2 := (h'.ext ne).sq
  have r2 := Reps.ext ne r'
  refine ⟨fun x hx => ?_, fun he => ?_⟩
  · obtain ⟨y, z, hy, hz, rfl⟩ := zipT_at xs ys i x hx
    obtain ⟨v, hv, rv⟩ := r1.get hy
    obtain ⟨w, hw, rw'⟩ := r2.get hz
    refine ⟨⟨vs, ws, v, w, h1, h2, hv, hw⟩, fun t H' ⟨T, u1, u2, e1, e2, e3, q1, q2⟩ => ?_⟩
    subst e1 e3
    have a1 := q1 vs h1
    rw [hv] at a1; cases a1
    have a2 := q2 ws h2
    rw [hw] at a2; cases a2
    exact ⟨μ1, row_new ns e2 (.cons rv (.cons rw' .nil))⟩
  · simp only [srcEnd, zipT_len, decide_eq_true_eq] at he
    exact ⟨vs, ws, h1, h2, by rw [r1.length, r2.length]; omega⟩
theorem wk_zip3N {bx : List Nat} {bs : Nat} {μ : Mu} {H : Hp} {k1 k2 k3 : Bool} {p q o : Addr} {vs ws us : List V} {xs ys zs : List D} (h : SrcAt Z H μ k1 p vs) (r : Reps Z H μ vs xs) (h' : SrcAt Z H μ k2 q ws) (r' : Reps Z H μ ws ys) (h'' : SrcAt Z H μ k3 o us) (r'' : Reps Z H μ us zs) :
    Wk Z bx bs (ZN.Itz3 Z.K k1 k2 k3 p q o) (.fix (zipT3 xs ys zs)) μ H := by
  intro μ1 st1 H1 ne ns i
  have h1 := (h.ext ne).sq
  have r1 := Reps.ext ne r
  have h2 := (h'.ext ne).sq
  have r2 := Reps.ext ne r'
  have h3 := (h''.ext ne).sq
  have r3 := Reps.ext ne r''
  refine ⟨fun x hx => ?_, fun he => ?_⟩
  · obtain ⟨y, z, u, hy, hz, hu, rfl⟩ := zipT3_at xs ys zs i x hx
    obtain ⟨v, hv, rv⟩ := r1.get hy
    obtain ⟨w, hw, rw'⟩ := r2.get hz
    obtain ⟨x', hx', rx'⟩ := r3.get hu
    refine ⟨⟨vs, ws, us, v, w, x', h1, h2, h3, hv, hw, hx'⟩, fun t H' ⟨T, u1, u2, u3, e1, e2, e3, q1, q2, q3⟩ => ?_⟩
    subst e1 e3
    have a1 := q1 vs h1
    rw [hv] at a1; cases a1
    have a2 := q2 ws h2
    rw [hw] at a2; cases a2
    have a3 := q3 us h3
    rw [hx'] at a3; cases a3
    exact ⟨μ1, row_new ns e2 (.cons rv (.cons rw' (.cons rx' .nil)))⟩
  · simp only [srcEnd, zipT3_len, decide_eq_true_eq] at he
    exact ⟨vs, ws, us, h1, h2, h3, by rw [r1.length, r2.length, r3.length]; omega⟩
theorem src_of {μ : Mu} {H : Hp} {v : V} {d : D} {xs : List D} (r : Rep Z H μ v d) (h : litems d = some xs) : ∃ k a vs, v = .ref a ∧ SrcAt Z H μ k a vs ∧ Reps Z H μ vs xs := by
  cases r with
  | tup ht r => cases h; exact ⟨true, _, _, rfl, ht, r⟩
  | lst ht r => cases h; exact ⟨false, _, _, rfl, ht, r⟩
  | _ => cases h
theorem htg_name {M : Program} {w : World} {y : Str} {p : Pos} (A : Around) (s : Shared) (a b : Addr) (Q : Unit → Shared → Prop) (E : Value → Shared → Prop) (h : Q () s) : wpAny (model M w) A (letOwnedTupleGo (.Name y p) (.ref a) (.ref b)) Q E s := wpAny_pure h
theorem y_izipN {nm : Str} {p tpos : Pos} (G : Good Z C c CE X E) (h1 : glB c.sc "zip" = true) (hx : okHead x = true) (hy : okHead y = true) (ha : PE X x (YE Z C c CE E a)) (hb : PE X y (YE Z C c CE E b)) :
    PI X (.Name nm tpos) (.Call (.Name "zip" p) [x, y] [] pos) (YI Z C c CE E (.zip a b)) := by
  have s1 : starEach [y] X.env = (false, eval y X.env) :: starEach [] X.env := star_cons hy
  have s2 : starEach [x, y] X.env = (false, eval x X.env) :: starEach [y] X.env := star_cons hx
  refine (ZN.pi_zip2N (fun A s a b Q E h => htg_name A s a b Q E h) (G.gl h1) (G.bl "zip" (by decide)) (pa_cons ha (pa_cons hb pa_nil s1) s2) s2 (by rw [s1]; rfl)).imp fun σ H R ⟨ρ, μ, st, fr, h⟩ => ?_
  simp only [evI] at h
  refine subI_E fr h fun v H1 e st1 μ1 n1 fr1 r1 h1 => subI_E fr1 h1 fun w H2 f st2 μ2 n2 fr2 r2 h2 => ?_
  have r1' := r1.ext n2.ext
  rw [G.K]
  have key : ∀ xs ys, litems e = some xs → litems f = some ys → (∀ J H' μ', NxE Z ρ.bx ρ.bs μ2 st2 H2 μ' st2 H' → Wk Z ρ.bx ρ.bs J (.fix (zipT xs ys)) μ' H' → R J H') → ∃ (k1 k2 : Bool) (a1 a2 : Addr) (l1 l2 : List V), [v, w] = [V.ref a1, V.ref a2] ∧ ZN.SqK Z.K k1 H2 a1 l1 ∧ ZN.SqK Z.K k2 H2 a2 l2 ∧ R (ZN.Itz2 Z.K k1 k2 a1 a2) H2 := fun xs ys q1 q2 q => by
    obtain ⟨k1, a1, l1, rfl, g1, g2⟩ := src_of r1' q1
    obtain ⟨k2, a2, l2, rfl, g3, g4⟩ := src_of r2 q2
    exact ⟨k1, k2, a1, a2, l1, l2, rfl, g1.sq, g3.sq, q _ H2 μ2 (NxE.refl fr2.sto) (wk_zip2N g1 g2 g3 g4)⟩
  cases e with
  | tup xs =>
    cases f with
    | tup ys => exact key xs ys rfl rfl h2
    | _ => exact h2.elim
  | lst xs =>
    cases f with
    | lst ys => exact key xs ys rfl rfl h2
    | _ => exact h2.elim
  | _ => exact h2.elim
theorem y_izip3N {nm : Str} {p tpos : Pos} (G : Good Z C c CE X E) (h1 : glB c.sc "zip" = true) (hx : okHead x = true) (hy : okHead y = true) (hz : okHead z = true) (ha : PE X x (YE Z C c CE E a)) (hb : PE X y (YE Z C c CE E b)) (hd : PE X z (YE Z C c CE E d)) :
    PI X (.Name nm tpos) (.Call (.Name "zip" p) [x, y, z] [] pos) (YI Z C c CE E (.zip3 a b d)) := by
  have s0 : starEach [z] X.env = (false, eval z X.env) :: starEach [] X.env := star_cons hz
  have s1 : starEach [y, z] X.env = (false, eval y X.env) :: starEach [z] X.env := star_cons hy
  have s2 : starEach [x, y, z] X.env = (false, eval x X.env) :: starEach [y, z] X.env := star_cons hx
  refine (ZN.pi_zip3N (fun A s a b Q E h => htg_name A s a b Q E h) (G.gl h1) (G.bl "zip" (by decide)) (pa_cons ha (pa_cons hb (pa_cons hd pa_nil s0) s1) s2) s2 (by rw [s1, s0]; rfl)).imp fun σ H R ⟨ρ, μ, st, fr, h⟩ => ?_
  simp only [evI] at h
  refine subI_E fr h fun v H1 e st1 μ1 n1 fr1 r1 h1 => subI_E fr1 h1 fun w H2 f st2 μ2 n2 fr2 r2 h2 => subI_E fr2 h2 fun u H3 g st3 μ3 n3 fr3 r3 h3 => ?_
  have r1' := (r1.ext n2.ext).ext n3.ext
  have r2' := r2.ext n3.ext
  rw [G.K]
  cases q1 : litems e with
  | none => simp only [q1] at h3
  | some xs =>
    cases q2 : litems f with
    | none => simp only [q1, q2] at h3
    | some ys =>
      cases q3 : litems g with
      | none => simp only [q1, q2, q3] at h3
      | some zs =>
        simp only [q1, q2, q3] at h3
        obtain ⟨k1, a1, l1, rfl, g1, g2⟩ := src_of r1' q1
        obtain ⟨k2, a2, l2, rfl, g3, g4⟩ := src_of r2' q2
        obtain ⟨k3, a3, l3, rfl, g5, g6⟩ := src_of r3 q3
        exact ⟨k1, k2, k3, a1, a2, a3, l1, l2, l3, rfl, g1.sq, g3.sq, g5.sq, h3 _ H3 μ3 (NxE.refl fr3.sto) (wk_zip3N g1 g2 g3 g4 g5 g6)⟩
end Y
end
section
set_option Elab.async false
set_option linter.all false
set_option maxRecDepth 100000
set_option maxHeartbeats 1000000
set_option autoImplicit false
/-! Y12: names bound, list comprehensions. -/
namespace Y
open PySem PySem.Spec PyProof.Rows L2 LamX NdefX
variable {Z : Lk} {C : Cs} {c : Cf} {CE : List (Str × Addr)} {X : Cx} {E : XK} {pos : Pos} {x y z : Expr} {a b d : Y.E} {n : Nat} {k : Nat}
/-! ### a name's slot is written -/
theorem Fr.set {N : List Str} {BX : List Nat} {σ : L2.St} {ρ : Env} {μ : Mu} {st : Sto} {H : Hp} {i : Nat} {v : V} {e : D} (fr : Fr Z N BX CE σ ρ μ st H) (hi : BX.contains i = false) (r : Rep Z H μ v e) : Fr Z N BX CE (σ.set i (some v)) { ρ with sl := ρ.sl.set i (some e) } μ st H := by
  refine ⟨fr.sto, fun j f hj => ?_, fr.bs, by rw [List.length_set, List.length_set]; exact fr.len, fr.own, fun j m hm => ?_⟩
  · by_cases h : i = j
    · subst h
      have hl : i < ρ.sl.length := by
        have := (List.getElem?_eq_some_iff.mp hj).1
        rwa [List.length_set] at this
      rw [List.getElem?_set_self hl] at hj
      cases hj
      exact ⟨v, List.getElem?_set_self (Nat.lt_of_lt_of_le hl fr.len), r⟩
    · rw [List.getElem?_set_ne h] at hj
      obtain ⟨w, h1, h2⟩ := fr.sl j f hj
      exact ⟨w, by rw [List.getElem?_set_ne h]; exact h1, h2⟩
  · obtain ⟨i', x, cc, h1, h2, h3, h4, h5⟩ := fr.box j m hm
    have hne : i ≠ i' := fun e => by
      have := List.mem_of_getElem? h1
      rw [← e] at this
      rw [List.contains_iff_mem.mpr this] at hi
      cases hi
    refine ⟨i', x, cc, h1, h2, h3, h4, fun f hf => ?_⟩
    obtain ⟨w, q1, q2⟩ := h5 f hf
    exact ⟨w, by rw [List.getElem?_set_ne hne]; exact q1, q2⟩
theorem set_comm_none {α : Type} (l : List (Option α)) (i j : Nat) : (l.set i none).set j none = (l.set j none).set i none := by
  by_cases h : i = j
  · subst h; rfl
  · exact List.set_comm _ _ h
theorem wipe_set (σ : L2.St) (i : Nat) (v : Option V) : ∀ is : List Nat, i ∈ is → wipe (σ.set i v) is = wipe σ is
  | [], h => by cases h
  | j :: js, h => by
    have sw : ∀ (ks : List Nat) (τ : L2.St) (u : Option V), (wipe (τ.set i u) ks).set i none = (wipe τ ks).set i none := by
      intro ks
      induction ks with
      | nil => intro τ u; simp only [wipe]; rw [List.set_set]
      | cons k ks ih =>
        intro τ u
        simp only [wipe]
        rw [set_comm_none, ih τ u, set_comm_none]
    by_cases e : i = j
    · subst e
      simp only [wipe]
      exact sw js σ v
    · simp only [wipe]
      rw [wipe_set σ i v js (by simpa [e] using h)]
/-- a pattern, by the semantics -/
def YP (Z : Lk) (c : Cf) (CE : List (Str × Addr)) (p : Pt) : TG := fun v σ H Q => ∃ ρ μ st e, Fr Z c.N c.BX CE σ ρ μ st H ∧ Rep Z H μ v e ∧ match bindP ρ p e with
  | some ρ' => ∀ σ', Fr Z c.N c.BX CE σ' ρ' μ st H → (∀ is, (∀ i ∈ p.ixs, i ∈ is) → wipe σ' is = wipe σ is) → Q σ' H
  | none => False
theorem _root_.L2.PG.imp {X : Cx} {e : Expr} {t t' : TG} (h : PG X e t) (i : ∀ v σ H Q, t' v σ H Q → t v σ H Q) : PG X e t' := ⟨fun pins s σ H v u Q I r q => h.run pins s σ H v u Q I r (i v σ H Q q)⟩
theorem _root_.L2.PGs.imp {X : Cx} {e : List Expr} {t t' : TGs} (h : PGs X e t) (i : ∀ v σ H Q, t' v σ H Q → t v σ H Q) : PGs X e t' := ⟨fun pins s σ H v u Q I r q => h.run pins s σ H v u Q I r (i v σ H Q q)⟩
theorem tgB_at {i : Nat} {x : Str} (G : Good Z C c CE X E) (h : tgB c i x = true) : X.N[i]? = some x ∧ c.BX.contains i = false ∧ Loc X.env.scope x ∧ (X.fn x = true ∨ X.env.scope.names.lookup x = some .local) := by
  unfold tgB at h
  simp only [Bool.and_eq_true, decide_eq_true_eq, Bool.not_eq_true'] at h
  obtain ⟨⟨h1, h2⟩, h3⟩ := h
  refine ⟨by rw [G.N]; exact h1, h2, ?_⟩
  rw [G.sc]
  split at h3
  · rename_i e; exact ⟨.inl e, .inr e⟩
  · rename_i e; exact ⟨.inr e, .inl (G.tg x h3)⟩
  · cases h3
theorem y_pname {i : Nat} {x : Str} (G : Good Z C c CE X E) (h : tgB c i x = true) : PG X (.Name x pos) (YP Z c CE (.name i)) := by
  obtain ⟨h1, h2, h3, h4⟩ := tgB_at G h
  refine (pg_name (by exact G.nd) h1 h3 h4).imp fun v σ H Q ⟨ρ, μ, st, e, fr, r, q⟩ => ?_
  simp only [bindP] at q
  exact q _ (fr.set h2 r) fun is hi => wipe_set σ i _ is (hi i (by simp [Pt.ixs]))
/-- names one after another -/
def YNs (Z : Lk) (c : Cf) (CE : List (Str × Addr)) (is : List Nat) : TGs := fun vs σ H Q => ∃ ρ μ st es, Fr Z c.N c.BX CE σ ρ μ st H ∧ Reps Z H μ vs es ∧ match bindN ρ.sl is es with
  | some sl => ∀ σ', Fr Z c.N c.BX CE σ' { ρ with sl := sl } μ st H → (∀ js, (∀ i ∈ is, i ∈ js) → wipe σ' js = wipe σ js) → Q σ' H
  | none => False
theorem y_pnames (G : Good Z C c CE X E) : ∀ (is : List Nat) (xs : List Expr), chkNs c is xs = true → PGs X xs (YNs Z c CE is)
  | [], [], _ => pgs_nil.imp fun vs σ H Q ⟨ρ, μ, st, es, fr, r, q⟩ => by
    cases es with
    | nil => cases r; exact ⟨rfl, q σ fr fun _ _ => rfl⟩
    | cons _ _ => simp only [bindN] at q
  | i :: is, .Name x p :: xs, h => by
    simp only [chkNs, Bool.and_eq_true] at h
    obtain ⟨h1, h2, h3, h4⟩ := tgB_at G h.1
    refine (pgs_cons (pg_name (by exact G.nd) h1 h3 h4) (y_pnames G is xs h.2) rfl).imp fun vs σ H Q ⟨ρ, μ, st, es, fr, r, q⟩ => ?_
    cases r with
    | nil => simp only [bindN] at q
    | cons r1 rr =>
      simp only [bindN] at q
      refine ⟨_, _, rfl, { ρ with sl := ρ.sl.set i (some _) }, μ, st, _, fr.set h2 r1, rr, ?_⟩
      split at q
      · rename_i sl hs
        simp only [hs]
        exact fun σ' fr' hw => q σ' fr' fun js hj => (hw js fun j hj' => hj j (by simp [hj'])).trans (wipe_set σ i _ js (hj i (by simp)))
      · exact q.elim
  | [], _ :: _, h => by cases h
  | _ :: _, [], h => by cases h
  | _ :: _, .Constant .. :: _, h => by cases h
  | _ :: _, .JoinedStr .. :: _, h => by cases h
  | _ :: _, .Tuple .. :: _, h => by cases h
  | _ :: _, .List .. :: _, h => by cases h
  | _ :: _, .Starred .. :: _, h => by cases h
  | _ :: _, .Attribute .. :: _, h => by cases h
  | _ :: _, .Subscript .. :: _, h => by cases h
theorem each_names {env : PySem.Env} : ∀ (is : List Nat) (xs : List Expr), chkNs c is xs = true → (assignEach xs env).length = is.length ∧ (assignEach xs env).findIdx? (·.1) = none
  | [], [], _ => ⟨rfl, rfl⟩
  | i :: is, .Name x p :: xs, h => by
    simp only [chkNs, Bool.and_eq_true] at h
    obtain ⟨h1, h2⟩ := each_names (env := env) is xs h.2
    have e : assignEach (.Name x p :: xs) env = (false, assign (.Name x p) env) :: assignEach xs env := rfl
    rw [e]
    refine ⟨by simp [h1], ?_⟩
    rw [List.findIdx?_cons, h2]; rfl
  | [], _ :: _, h => by cases h
  | _ :: _, [], h => by cases h
theorem bindN_len : ∀ {is : List Nat} {sl : List (Option D)} {es : List D} {sl' : List (Option D)}, bindN sl is es = some sl' → es.length = is.length
  | [], _, [], _, _ => rfl
  | [], _, _ :: _, _, h => by simp [bindN] at h
  | _ :: _, _, [], _, h => by simp [bindN] at h
  | i :: is, sl, e :: es, _, h => by simp only [bindN] at h; simp [bindN_len h]
theorem y_ptup {is : List Nat} {xs : List Expr} {j : Nat} (G : Good Z C c CE X E) (h : chkNs c is xs = true) : PG X (.Tuple xs j pos) (YP Z c CE (.tup is)) := by
  obtain ⟨h1, h2⟩ := each_names (env := X.env) is xs h
  refine (pg_tup G.calm (y_pnames G is xs h) h1 h2).imp fun v σ H Q ⟨ρ, μ, st, e, fr, r, q⟩ => ?_
  cases e with
  | tup es =>
    cases r with
    | tup ht rr =>
      simp only [bindP] at q
      cases hb : bindN ρ.sl is es with
      | none => rw [hb] at q; exact q.elim
      | some sl =>
        rw [hb] at q
        rw [G.K]
        refine ⟨_, _, rfl, ht.sqt, by rw [rr.length]; exact bindN_len hb, ρ, μ, st, es, fr, rr, ?_⟩
        rw [hb]
        exact q
  | _ => simp only [bindP] at q
theorem y_pat {p : Pt} (G : Good Z C c CE X E) (h : chkP c p x = true) : PG X x (YP Z c CE p) := by
  cases p with
  | name i => cases x <;> first | exact y_pname G h | cases h
  | tup is => cases x <;> first | exact y_ptup G h | cases h
end Y
end
section
set_option Elab.async false
set_option linter.all false
set_option maxRecDepth 100000
set_option maxHeartbeats 1000000
set_option autoImplicit false
/-! Y13: list comprehensions. -/
namespace Y
open PySem PySem.Spec PyProof.Rows L2 LamX NdefX
variable {Z : Lk} {C : Cs} {c : Cf} {CE : List (Str × Addr)} {X : Cx} {E : XK} {pos : Pos} {x y z : Expr} {a b d : Y.E} {n : Nat} {k : Nat}
theorem fgt_some : ∀ {is : List Nat} {sl : List (Option D)} {i : Nat} {d : D}, (fgt sl is)[i]? = some (some d) → sl[i]? = some (some d) ∧ i ∉ is
  | [], _, _, _, h => ⟨h, by simp⟩
  | j :: js, sl, i, d, h => by
    simp only [fgt] at h
    obtain ⟨h1, h2⟩ := fgt_some h
    by_cases e : j = i
    · subst e
      by_cases hl : j < sl.length
      · rw [List.getElem?_set_self hl] at h1; cases h1
      · rw [List.getElem?_eq_none (by simpa using hl)] at h1; cases h1
    · rw [List.getElem?_set_ne e] at h1
      exact ⟨h1, by simp only [List.mem_cons, not_or]; exact ⟨fun z => e z.symm, h2⟩⟩
theorem fgt_len : ∀ (is : List Nat) (sl : List (Option D)), (fgt sl is).length = sl.length
  | [], _ => rfl
  | j :: js, sl => by simp only [fgt]; rw [fgt_len js, List.length_set]
theorem wipe_keep : ∀ {vs : List Nat} {σ : L2.St} {i : Nat}, i ∉ vs → (wipe σ vs)[i]? = σ[i]?
  | [], _, _, _ => rfl
  | v :: vs, σ, i, h => by
    simp only [List.mem_cons, not_or] at h
    simp only [wipe]
    rw [List.getElem?_set_ne (fun e => h.1 e.symm)]
    exact wipe_keep h.2
/-- in the block -/
theorem Fr.blk {N : List Str} {BX : List Nat} {σ : L2.St} {ρ : Env} {μ : Mu} {st : Sto} {H : Hp} {own : List Nat} (fr : Fr Z N BX CE σ ρ μ st H) (ho : (own.all fun i => !BX.contains i) = true) : Fr Z N BX CE (wipe σ own) (ρ.fgt own) μ st H := by
  refine ⟨fr.sto, fun i d hi => ?_, fr.bs, by show (fgt ρ.sl own).length ≤ _; rw [fgt_len, wipe_length]; exact fr.len, fr.own, fun j m hm => ?_⟩
  · obtain ⟨h1, h2⟩ := fgt_some (show (fgt ρ.sl own)[i]? = _ from hi)
    obtain ⟨v, q1, q2⟩ := fr.sl i d h1
    exact ⟨v, by rw [wipe_keep h2]; exact q1, q2⟩
  · obtain ⟨i, x, cc, h1, h2, h3, h4, h5⟩ := fr.box j m hm
    refine ⟨i, x, cc, h1, h2, h3, h4, fun f hf => ?_⟩
    obtain ⟨v, q1, q2⟩ := h5 f hf
    refine ⟨v, ?_, q2⟩
    rw [wipe_keep (fun hin => ?_)]
    · exact q1
    · have := List.all_eq_true.mp ho i hin
      rw [List.contains_iff_mem.mpr (List.mem_of_getElem? h1)] at this
      cases this
theorem Good.blk {scope : Scope} (G : Good Z C c CE X E) (s : Shared) (H : Hp) (cl : List (Str × Addr)) (L : Addr) (fp : List Addr) : Good Z C (c.blk scope) CE (X.blk s H scope (compEnvC scope cl L X.env) fp) E where
  K := G.K
  N := G.N
  sc := by show relabel scope X.env = relS scope c.sc; rw [← G.sc]; rfl
  nd := G.nd
  calm := G.calm
  units := G.units
  guards := G.guards
  tg := fun x h => h
  gd := G.gd
  gf := G.gf
  bl := G.bl
  kp := G.kp
  ce := fun h => nomatch (show false = true from h)
  lamT := fun h => nomatch (show false = true from h)
  lok := G.lok
  run := fun X' sb hb => G.run X' ⟨sb.prog, sb.w, sb.K, sb.mg, sb.base, sb.A, sb.stack⟩ (.inl (hb.elim id fun q => by cases q.1))
  vrun := fun X' sb hb => G.vrun X' ⟨sb.prog, sb.w, sb.K, sb.mg, sb.base, sb.A, sb.stack⟩ (.inl (hb.elim id fun q => by cases q.1))
abbrev YC (Z : Lk) (C : Cs) (c : Cf) (CE : List (Str × Addr)) (E : XK) (cs : Es) : TT := tT Z c.N c.BX CE E fun ρ st => evC C ρ cs st
theorem _root_.L2.PTs.imp {X : Cx} {ifs : List Expr} {t t' : TT} (h : PTs X ifs t) (i : ∀ σ H Q, t' σ H Q → t σ H Q) : PTs X ifs t' := ⟨fun pins s σ H Q I q => h.run pins s σ H Q I (i σ H Q q)⟩
theorem y_cnil : PTs X [] (YC Z C c CE E .nil) := pts_nil.imp fun σ H Q ⟨ρ, μ, st, fr, h⟩ => by
  simp only [evC] at h
  exact h true H μ (NxE.refl fr.sto) rfl
theorem y_cone (ha : PT X x (YT Z C c CE E a)) : PTs X [x] (YC Z C c CE E (.cons a .nil)) := (pts_one ha).imp fun σ H Q ⟨ρ, μ, st, fr, h⟩ => by
  simp only [evC] at h
  have e : ((tru (evE C ρ a st)).bind fun k st => if k = true then evC C ρ .nil st else .ok false st) = tru (evE C ρ a st) := by
    cases tru (evE C ρ a st) with
    | ok k st' => cases k <;> simp [evC]
    | ex _ _ => rfl
    | no => rfl
  refine ⟨ρ, μ, st, fr, ?_⟩
  show tR relB Z E ρ.bx ρ.bs μ st H (tru (evE C ρ a st)) Q
  rw [← e]
  simp only [evC]
  exact h
/-! ### a list that is being filled -/
section
variable {bx : List Nat} {bs : Nat} {μ μ1 : Mu} {st st1 : Sto} {H H1 : Hp}
def Mu.heat (μ : Mu) (p : Addr) : Mu := ⟨μ.m, p :: μ.hot, μ.vc⟩
theorem StoR.heat (s : StoR Z bx μ st H) {p : Addr} {ws : List V} (hp : H p = none) : StoR Z bx (μ.heat p) st (L2.upd H p (.lst ws)) := by
  have l := s.lay (o := .lst ws) hp
  have e2 : Ext μ H (μ.heat p) (L2.upd H p (.lst ws)) := Ext.heat hp
  refine ⟨s.len, s.nd, fun i zs h => ?_, fun i k zs h => ?_, s.var, fun i q hq => ?_, s.own, s.vu, l.tabs, fun b hb => ?_⟩
  · obtain ⟨q, us, h1, h2, h3⟩ := s.cell i zs h
    exact ⟨q, us, h1, by rw [upd_ne (ne_of_none h2 hp)]; exact h2, Reps.ext e2 h3⟩
  · obtain ⟨q, us, h1, h2, h4, h3⟩ := s.dc i k zs h
    exact ⟨q, us, h1, by rw [upd_ne (ne_of_none h2 hp)]; exact h2, h4, Reps.ext e2 h3⟩
  · obtain ⟨od, ob, h1, h2, h4, h3⟩ := s.vcs i q hq
    refine ⟨od, ob, h1, by rw [upd_ne (ne_of_none h2 hp)]; exact h2, h4, fun f hf => ?_⟩
    obtain ⟨v, u, q1, q2, q3⟩ := h3 f hf
    exact ⟨v, u, q1, q2, q3.ext e2⟩
  · rcases List.mem_cons.mp hb with z | z
    · subst z
      exact ⟨⟨ws, upd_same⟩, (s.fresh hp).1⟩
    · exact l.hot b z
/-- from here on p is being filled -/
theorem heated (s : StoR Z bx μ st H) {p : Addr} {ws : List V} (hp : H p = none) {N : List Str} {BX : List Nat} {σ : L2.St} {ρ : Env} (fr : Fr Z N BX CE σ ρ μ st H) : Fr Z N BX CE σ ρ (μ.heat p) st (L2.upd H p (.lst ws)) := by
  have e2 : Ext μ H (μ.heat p) (L2.upd H p (.lst ws)) := Ext.heat hp
  refine ⟨fr.sto.heat hp, fun i f h => ?_, fr.bs, fr.len, fr.own, fun j m h => ?_⟩
  · obtain ⟨v, h1, h2⟩ := fr.sl i f h
    exact ⟨v, h1, h2.ext e2⟩
  · obtain ⟨i, x, cc, h1, h2, h3, h4, h5⟩ := fr.box j m h
    refine ⟨i, x, cc, h1, h2, h3, h4, fun f hf => ?_⟩
    obtain ⟨v, h8, h9⟩ := h5 f hf
    exact ⟨v, h8, h9.ext e2⟩
theorem StoR.fill (s : StoR Z bx μ st H) {p : Addr} {vs ws : List V} (hp : p ∈ μ.hot) (hH : H p = some (.lst vs)) : StoR Z bx μ st (L2.upd H p (.lst ws)) := by
  have e : Ext μ H μ (L2.upd H p (.lst ws)) := Ext.fill hp
  have hn : some p ∉ μ.m := (s.hot p hp).2
  have nv : ∀ (i : Nat) (q : Addr), (i, q) ∈ μ.vc → q ≠ p := fun i q hq z => by
    obtain ⟨od, o, _, h2, _, _⟩ := s.vcs i q hq
    rw [z, hH] at h2; unfold CellO at h2; cases h2
  refine ⟨s.len, s.nd, fun i zs h => ?_, fun i k zs h => ?_, s.var, fun i q hq => ?_, s.own, s.vu, tabs_wrL s.tabs hH, fun b hb => ?_⟩
  · obtain ⟨q, us, h1, h2, h3⟩ := s.cell i zs h
    exact ⟨q, us, h1, by rw [upd_ne (fun w => hn (by rw [← w]; exact List.mem_of_getElem? h1))]; exact h2, Reps.ext e h3⟩
  · obtain ⟨q, us, h1, h2, h4, h3⟩ := s.dc i k zs h
    exact ⟨q, us, h1, by rw [upd_ne (fun w => hn (by rw [← w]; exact List.mem_of_getElem? h1))]; exact h2, h4, Reps.ext e h3⟩
  · obtain ⟨od, ob, h1, h2, h4, h3⟩ := s.vcs i q hq
    refine ⟨od, ob, h1, by rw [upd_ne (nv i q hq)]; exact h2, h4, fun f hf => ?_⟩
    obtain ⟨v, u, q1, q2, q3⟩ := h3 f hf
    exact ⟨v, u, q1, q2, q3.ext e⟩
  · obtain ⟨⟨us, h1⟩, h2⟩ := s.hot b hb
    by_cases hbp : b = p
    · subst hbp; exact ⟨⟨ws, upd_same⟩, h2⟩
    · exact ⟨⟨us, by rw [upd_ne hbp]; exact h1⟩, h2⟩
/-- where the filling began, and now -/
structure Fill (Z : Lk) (bx : List Nat) (bs : Nat) (L : Addr) (μ : Mu) (st : Sto) (H : Hp) (μ1 : Mu) (st1 : Sto) (H1 : Hp) : Prop where
  ext : Ext (μ.heat L) (L2.upd H L (.lst [])) μ1 H1
  pres : Pres bs st st1
  sto : StoR Z bx μ1 st1 H1
  vce : μ1.vc = μ.vc
  hots : μ1.hot = L :: μ.hot ∧ ∀ b ∈ μ.hot, H1 b = H b
  vars : ∀ (n : Nat) (od : Option D), n ∉ bx → st[n]? = some (Cell.var od) → st1[n]? = some (Cell.var od)
  cells : ∀ (n : Nat) (a : Addr), (n, a) ∈ μ.vc → H1 a = H a
  owns : ∀ (n : Nat), n ∈ bx → st1[n]? = st[n]?
theorem Fill.begin (s : StoR Z bx μ st H) {L : Addr} (hL : H L = none) : Fill Z bx bs L μ st H (μ.heat L) st (L2.upd H L (.lst [])) :=
  ⟨Ext.refl _ _, Pres.refl _ _, s.heat hL, rfl, ⟨rfl, fun b hb => upd_ne (ne_hot s hL hb)⟩, fun n od hn h => h, fun n a ha => upd_ne (ne_vc s hL ha), fun _ _ => rfl⟩
theorem Fill.next {L : Addr} (f : Fill Z bx bs L μ st H μ1 st1 H1) {μ2 : Mu} {st2 : Sto} {H2 : Hp} (n : NxE Z bx bs μ1 st1 H1 μ2 st2 H2) : Fill Z bx bs L μ st H μ2 st2 H2 :=
  ⟨f.ext.trans n.ext, f.pres.trans n.pres, n.sto, n.vce.trans f.vce, ⟨n.hots.1.trans f.hots.1, fun b hb => (n.hots.2 b (by rw [f.hots.1]; simp [hb])).trans (f.hots.2 b hb)⟩, fun i od hi h => n.vars i od hi (f.vars i od hi h), fun i a ha => (n.cells i a (f.ext.vc _ ha)).trans (f.cells i a ha), fun i hi => (n.owns i hi).trans (f.owns i hi)⟩
theorem Fill.put {L : Addr} (f : Fill Z bx bs L μ st H μ1 st1 H1) (s : StoR Z bx μ st H) (hL : H L = none) {vs ws : List V} (hH : H1 L = some (.lst vs)) : Fill Z bx bs L μ st H μ1 st1 (L2.upd H1 L (.lst ws)) := by
  have hm : L ∈ μ1.hot := by rw [f.hots.1]; simp
  refine ⟨f.ext.trans (Ext.fill hm), f.pres, f.sto.fill hm hH, f.vce, ⟨f.hots.1, fun b hb => ?_⟩, f.vars, fun i a ha => ?_, f.owns⟩
  · rw [upd_ne (ne_hot s hL hb)]; exact f.hots.2 b hb
  · rw [upd_ne (ne_vc s hL ha)]; exact f.cells i a ha
def Mu.cool (μ : Mu) (h : List Addr) : Mu := ⟨μ.m, h, μ.vc⟩
/-- the list stands -/
theorem Fill.done {L : Addr} (f : Fill Z bx bs L μ st H μ1 st1 H1) (s : StoR Z bx μ st H) (hL : H L = none) : NxE Z bx bs μ st H (μ1.cool μ.hot) st1 H1 ∧ (μ1.cool μ.hot).no L ∧ Ext μ1 H1 (μ1.cool μ.hot) H1 := by
  have e0 : Ext μ1 H1 (μ1.cool μ.hot) H1 := ⟨fun _ _ _ _ h => h, fun _ h => h, ⟨[], by simp [Mu.cool], by simp⟩, fun b hb => .inl (by rw [f.hots.1]; simp; exact .inr hb), fun _ h => h⟩
  have e1 : Ext μ H (μ1.cool μ.hot) H1 := (Ext.heat hL).trans (f.ext.trans e0)
  refine ⟨⟨⟨e1, f.pres, ⟨f.sto.len, f.sto.nd, fun i zs h => ?_, fun i k zs h => ?_, f.sto.var, fun i q hq => ?_, f.sto.own, f.sto.vu, f.sto.tabs, fun b hb => f.sto.hot b (by rw [f.hots.1]; simp; exact .inr hb)⟩, f.vars, f.cells, f.vce, rfl, f.hots.2⟩, f.owns⟩, ⟨?_, ?_⟩, e0⟩
  · obtain ⟨q, us, h1, h2, h3⟩ := f.sto.cell i zs h
    exact ⟨q, us, h1, h2, Reps.ext e0 h3⟩
  · obtain ⟨q, us, h1, h2, h4, h3⟩ := f.sto.dc i k zs h
    exact ⟨q, us, h1, h2, h4, Reps.ext e0 h3⟩
  · obtain ⟨od, ob, h1, h2, h4, h3⟩ := f.sto.vcs i q hq
    refine ⟨od, ob, h1, h2, h4, fun d hd => ?_⟩
    obtain ⟨v, u, q1, q2, q3⟩ := h3 d hd
    exact ⟨v, u, q1, q2, q3.ext e0⟩
  · exact (f.sto.hot L (by rw [f.hots.1]; simp)).2
  · exact fun z => ne_hot s hL z rfl
end
end Y
end
section
set_option Elab.async false
set_option linter.all false
set_option maxRecDepth 100000
set_option maxHeartbeats 1000000
set_option autoImplicit false
/-! Y14: list comprehensions of one and of two walks. -/
namespace Y
open PySem PySem.Spec PyProof.Rows L2 LamX NdefX
variable {Z : Lk} {C : Cs} {c : Cf} {CE : List (Str × Addr)} {X : Cx} {E : XK} {pos : Pos} {x y z : Expr} {a b d : Y.E} {n : Nat} {k : Nat}
section
variable {H : Hp} {μ μ' : Mu}
theorem TpAt.re {K : PySem.W.Frag} {p : Addr} {vs : List V} (hn : ∀ q, μ.no q → μ'.no q) (h : TpAt K H μ p vs) : TpAt K H μ' p vs := ⟨hn _ h.1, h.2⟩
theorem DcAt.re {p : Addr} {k : DK} {vs : List V} (hn : ∀ q, μ.no q → μ'.no q) (h : DcAt H μ p k vs) : DcAt H μ' p k vs := ⟨hn _ h.1, h.2⟩
theorem LsAt.re {K : PySem.W.Frag} {p : Addr} {vs : List V} (hn : ∀ q, μ.no q → μ'.no q) (h : LsAt K H μ p vs) : LsAt K H μ' p vs := h.imp (fun z => ⟨hn _ z.1, z.2⟩) id
mutual
theorem Rep.re (hn : ∀ q, μ.no q → μ'.no q) (hv : ∀ p, p ∈ μ.vc → p ∈ μ'.vc) (hm : ∀ (i : Nat) (oa : Option Addr), μ.m[i]? = some oa → μ'.m[i]? = some oa) : ∀ {v : V} {d : D}, Rep Z H μ v d → Rep Z H μ' v d
  | _, _, .non => .non
  | _, _, .bl b => .bl b
  | _, _, .int i => .int i
  | _, _, .str x => .str x
  | _, _, .tup h r => .tup (h.re hn) (Reps.re hn hv hm r)
  | _, _, .lst h r => .lst (h.re hn) (Reps.re hn hv hm r)
  | _, _, .dct h r => .dct (h.re hn) (Reps.re hn hv hm r)
  | _, _, .ref h => .ref (hm _ _ h)
  | _, _, .fn h => .fn h
  | _, _, .clo h1 n1 n2 h2 h3 h4 h5 h6 h7 => .clo h1 (hn _ n1) (hn _ n2) h2 h3 h4
      (fun k y n a b => by
        obtain ⟨c, p, q⟩ := h5 k y n a b
        refine ⟨c, p, ?_, q.2.imp (hv _) id⟩
        have := hm n _ (List.getElem?_eq_getElem q.1)
        exact (List.getElem?_eq_some_iff.mp this).1) h6 h7
theorem Reps.re (hn : ∀ q, μ.no q → μ'.no q) (hv : ∀ p, p ∈ μ.vc → p ∈ μ'.vc) (hm : ∀ (i : Nat) (oa : Option Addr), μ.m[i]? = some oa → μ'.m[i]? = some oa) : ∀ {vs : List V} {ds : List D}, Reps Z H μ vs ds → Reps Z H μ' vs ds
  | _, _, .nil => .nil
  | _, _, .cons h r => .cons (h.re hn hv hm) (Reps.re hn hv hm r)
end
end
section
variable {bx : List Nat} {bs : Nat} {μ μ1 : Mu} {st st1 : Sto} {H H1 : Hp}
/-- the filled list as a thing of the store -/
theorem Fill.adopt {L : Addr} (f : Fill Z bx bs L μ st H μ1 st1 H1) (s : StoR Z bx μ st H) (hL : H L = none) (hbs : bs ≤ st.length) {vs : List V} {xs : List D} (hH : H1 L = some (.lst vs)) (r : Reps Z H1 μ1 vs xs) :
    NxE Z bx bs μ st H ⟨μ1.m ++ [some L], μ.hot, μ1.vc⟩ (st1 ++ [.lst xs]) H1 ∧ Rep Z H1 ⟨μ1.m ++ [some L], μ.hot, μ1.vc⟩ (.ref L) (.ref st1.length) := by
  have hot : ∀ q, q ∈ μ1.hot ↔ q = L ∨ q ∈ μ.hot := fun q => by rw [f.hots.1]; simp
  have nL : some L ∉ μ1.m := (f.sto.hot L ((hot L).mpr (.inl rfl))).2
  have hn : ∀ q, μ1.no q → (⟨μ1.m ++ [some L], μ.hot, μ1.vc⟩ : Mu).no q := fun q hq => by
    refine ⟨fun z => ?_, fun z => hq.2 ((hot q).mpr (.inr z))⟩
    rcases List.mem_append.mp z with z | z
    · exact hq.1 z
    · simp at z; exact hq.2 ((hot q).mpr (.inl z))
  have hv : ∀ p, p ∈ μ1.vc → p ∈ (⟨μ1.m ++ [some L], μ.hot, μ1.vc⟩ : Mu).vc := fun _ z => z
  have hm : ∀ (i : Nat) (oa : Option Addr), μ1.m[i]? = some oa → (⟨μ1.m ++ [some L], μ.hot, μ1.vc⟩ : Mu).m[i]? = some oa := fun i oa h => by
    show (μ1.m ++ [some L])[i]? = _
    rw [List.getElem?_append_left (List.getElem?_eq_some_iff.mp h).1]; exact h
  have eL : (⟨μ1.m ++ [some L], μ.hot, μ1.vc⟩ : Mu).m[st1.length]? = some (some L) := by
    show (μ1.m ++ [some L])[st1.length]? = _
    rw [← f.sto.len, List.getElem?_append_right (Nat.le_refl _), Nat.sub_self]; rfl
  have hlt : ∀ (i : Nat), i ∈ bx → i < st1.length := own_lt f.sto
  obtain ⟨m, e1, hm1⟩ := f.ext.pre
  have ext : Ext μ H ⟨μ1.m ++ [some L], μ.hot, μ1.vc⟩ H1 := by
    refine ⟨fun q o hq ho h => ?_, fun q h => ?_, ⟨m ++ [some L], ?_, fun q hq => ?_⟩, fun q hq => .inl hq, fun p hp => f.ext.vc p hp⟩
    · have hne : q ≠ L := ne_of_none h hL
      exact f.ext.keep q o ⟨hq.1, fun z => by rcases List.mem_cons.mp z with z | z; exact hne z; exact hq.2 z⟩ ho (by rw [upd_ne hne]; exact h)
    · exact upd_none (f.ext.mono q h)
    · show μ1.m ++ [some L] = μ.m ++ (m ++ [some L])
      rw [e1, List.append_assoc]; rfl
    · rcases List.mem_append.mp hq with z | z
      · exact upd_none (hm1 q z)
      · simp at z; rw [z]; exact hL
  refine ⟨⟨⟨ext, f.pres.trans (Pres.push (Nat.le_trans hbs f.pres.len) _), ⟨by show (μ1.m ++ [some L]).length = _; simp [f.sto.len], fun i j q h1 h2 => ?_, fun i zs h => ?_, fun i k zs h => ?_, fun i od h => ?_, fun i q hq => ?_, fun i hi => ?_, f.sto.vu, f.sto.tabs, fun q hq => ⟨(f.sto.hot q ((hot q).mpr (.inr hq))).1, fun z => ?_⟩⟩, fun i od hb h => ?_, f.cells, f.vce, rfl, f.hots.2⟩, fun i hi => ?_⟩, .ref eL⟩
  · simp only at h1 h2
    by_cases g1 : i < μ1.m.length
    · rw [List.getElem?_append_left g1] at h1
      by_cases g2 : j < μ1.m.length
      · rw [List.getElem?_append_left g2] at h2
        exact f.sto.nd i j q h1 h2
      · obtain ⟨_, e2⟩ := snoc_at h2 (by omega)
        cases e2
        exact absurd (List.mem_of_getElem? h1) nL
    · obtain ⟨e0, e1⟩ := snoc_at h1 (by omega)
      cases e1
      by_cases g2 : j < μ1.m.length
      · rw [List.getElem?_append_left g2] at h2
        exact absurd (List.mem_of_getElem? h2) nL
      · obtain ⟨e3, _⟩ := snoc_at h2 (by omega)
        omega
  · by_cases hi : i < st1.length
    · rw [List.getElem?_append_left hi] at h
      obtain ⟨q, us, h1, h2, h3⟩ := f.sto.cell i zs h
      exact ⟨q, us, hm _ _ h1, h2, Reps.re hn hv hm h3⟩
    · obtain ⟨e0, e1⟩ := snoc_at h (by omega)
      cases e1
      exact ⟨L, vs, by rw [e0]; exact eL, hH, Reps.re hn hv hm r⟩
  · by_cases hi : i < st1.length
    · rw [List.getElem?_append_left hi] at h
      obtain ⟨q, us, h1, h2, h4, h3⟩ := f.sto.dc i k zs h
      exact ⟨q, us, hm _ _ h1, h2, h4, Reps.re hn hv hm h3⟩
    · obtain ⟨e0, e1⟩ := snoc_at h (by omega)
      cases e1
  · by_cases hi : i < st1.length
    · rw [List.getElem?_append_left hi] at h
      exact hm _ _ (f.sto.var i od h)
    · obtain ⟨_, e1⟩ := snoc_at h (by omega)
      cases e1
  · obtain ⟨od, ob, h1, h2, h4, h3⟩ := f.sto.vcs i q hq
    refine ⟨od, ob, by rw [List.getElem?_append_left (List.getElem?_eq_some_iff.mp h1).1]; exact h1, h2, h4, fun e he => ?_⟩
    obtain ⟨v, u, q1, q2, q3⟩ := h3 e he
    exact ⟨v, u, q1, q2, q3.re hn hv hm⟩
  · obtain ⟨h1, od, h2⟩ := f.sto.own i hi
    exact ⟨hm _ _ h1, od, by rw [List.getElem?_append_left (hlt i hi)]; exact h2⟩
  · rcases List.mem_append.mp z with z | z
    · exact (f.sto.hot q ((hot q).mpr (.inr hq))).2 z
    · simp at z; exact ne_hot s hL hq z
  · have h1 := f.vars i od hb h
    rw [List.getElem?_append_left (List.getElem?_eq_some_iff.mp h1).1]; exact h1
  · rw [List.getElem?_append_left (hlt i hi)]; exact f.owns i hi
/-- the new list of a comprehension -/
def mkL (m : Bool) (xs : List D) (st : Sto) : Res D := if line xs.length then (if m then .ok (.ref st.length) (st ++ [.lst xs]) else .ok (.lst xs) st) else .no
theorem mkL_line {m : Bool} {xs : List D} {st st' : Sto} {e : D} (h : mkL m xs st = .ok e st') : xs.length ≤ sizeLine := by
  unfold mkL at h
  split at h
  · rename_i q; exact line_le q
  · cases h
theorem Fill.make {L : Addr} {m : Bool} (f : Fill Z bx bs L μ st H μ1 st1 H1) (s : StoR Z bx μ st H) (hL : H L = none) (hbs : bs ≤ st.length) {vs : List V} {xs : List D} (hH : H1 L = some (.lst vs)) (r : Reps Z H1 μ1 vs xs) {e : D} {st' : Sto} (h : mkL m xs st1 = .ok e st') :
    ∃ μ', NxE Z bx bs μ st H μ' st' H1 ∧ Rep Z H1 μ' (.ref L) e := by
  unfold mkL at h
  split at h
  · cases m with
    | true =>
      cases h
      exact ⟨_, f.adopt s hL hbs hH r⟩
    | false =>
      cases h
      obtain ⟨h1, h2, h3⟩ := f.done s hL
      exact ⟨_, h1, .lst (.inl ⟨h2, .inl hH⟩) (Reps.ext h3 r)⟩
  · cases h
end
theorem Fr.of {N : List Str} {BX : List Nat} {σ : L2.St} {ρ : Env} {μ μ1 : Mu} {st st1 : Sto} {H H1 : Hp} (fr : Fr Z N BX CE σ ρ μ st H) (e : Ext μ H μ1 H1) (s : StoR Z ρ.bx μ1 st1 H1) (hl : st.length ≤ st1.length) (ho : ∀ i, i ∈ ρ.bx → st1[i]? = st[i]?) : Fr Z N BX CE σ ρ μ1 st1 H1 := by
  refine ⟨s, fun i d h => ?_, Nat.le_trans fr.bs hl, fr.len, fr.own, fun j m h => ?_⟩
  · obtain ⟨v, h1, h2⟩ := fr.sl i d h
    exact ⟨v, h1, h2.ext e⟩
  · obtain ⟨i, x, c, h1, h2, h3, h4, h5⟩ := fr.box j m h
    refine ⟨i, x, c, h1, h2, h3, h4, fun d hd => ?_⟩
    rw [ho m (List.mem_of_getElem? h)] at hd
    obtain ⟨v, h8, h9⟩ := h5 d hd
    exact ⟨v, h8, h9.ext e⟩
theorem Fill.fr {L : Addr} {N : List Str} {BX : List Nat} {σ : L2.St} {ρ : Env} {bs : Nat} {μ μ1 : Mu} {st st1 : Sto} {H H1 : Hp} (f : Fill Z ρ.bx bs L μ st H μ1 st1 H1) (hL : H L = none) (fr : Fr Z N BX CE σ ρ μ st H) : Fr Z N BX CE σ ρ μ1 st1 H1 :=
  fr.of ((Ext.heat hL).trans f.ext) f.sto f.pres.len f.owns
/-- a round of a walk: what is evaluated for an item -/
abbrev itemF (C : Cs) (ρ : Env) (own : List Nat) (p : Pt) (cs : Es) (r : Gs) : D → Sto → Res (List D) := fun d st => match bindP (ρ.fgt own) p d with
  | some ρ' => (evC C ρ' cs st).bind fun k st => if k then evG C ρ' r st else .ok [] st
  | none => .no
theorem wipe_off {σ : L2.St} {w : Nat} : ∀ {vs : List Nat}, w ∈ vs → (wipe σ vs).set w none = wipe σ vs
  | v :: vs, h => by
    simp only [wipe]
    by_cases e : w = v
    · subst e; rw [List.set_set]
    · rw [set_comm_none, wipe_off (by simpa [e] using h)]
theorem wipe_again {σ : L2.St} {vs : List Nat} : ∀ {ws : List Nat}, (∀ w ∈ ws, w ∈ vs) → wipe (wipe σ vs) ws = wipe σ vs
  | [], _ => rfl
  | w :: ws, h => by
    simp only [wipe]
    rw [wipe_again (fun u hu => h u (by simp [hu])), wipe_off (h w (by simp))]
theorem comp1_imp {m : Bool} {own : List Nat} {it : Y.It} {p : Pt} {cs : Es} {scope : Scope} (ho : (own.all fun i => !c.BX.contains i) = true) (hp : chkIt own p = true) {σ : L2.St} {H : Hp} {Q : VK} (hq : YE Z C c CE E (.comp m own it p cs (.fin a)) σ H Q) :
    tLc (YI Z C c CE E it) (YP Z (c.blk scope) CE p) (YC Z C (c.blk scope) CE E cs) (YE Z C (c.blk scope) CE E a) own σ H Q := by
  obtain ⟨ρ, μ, st, fr, h⟩ := hq
  have h : tR (relD Z) Z E ρ.bx ρ.bs μ st H (((evI C ρ it st).bind fun src st => walkL (itemF C ρ own p cs (.fin a)) src st).bind fun xs st => mkL m xs st) Q := by
    simp only [evE] at h
    exact h
  refine ⟨ρ, μ, st, fr, ?_⟩
  simp only []
  cases e0 : evI C ρ it st with
  | ex _ _ => rw [e0] at h; exact h.elim
  | no => rw [e0] at h; exact h.elim
  | ok src st1 =>
  rw [e0, Res.bind_ok, walk_N] at h
  intro J H1 μ1 n1 wk L hL
  have fr1 := fr.next n1
  have h := tR_later n1 h
  cases e1 : (loopN (itemF C ρ own p cs (.fin a)) src src.len 0 st1).bind fun xs st => mkL m xs st with
  | ex _ _ => rw [e1] at h; exact h.elim
  | no => rw [e1] at h; exact h.elim
  | ok d0 stF =>
  rw [e1] at h
  replace h : ∀ v H' μ', NxE Z ρ.bx ρ.bs μ1 st1 H1 μ' stF H' → Rep Z H' μ' v d0 → Q v H' := h
  refine ⟨fun i k H => ∃ μ' st' acc xs, Fill Z ρ.bx ρ.bs L μ1 st1 H1 μ' st' H ∧ H L = some (.lst acc) ∧ Reps Z H μ' acc xs ∧ ((loopN (itemF C ρ own p cs (.fin a)) src k i st').bind fun b st => mkL m (xs ++ b) st) = .ok d0 stF,
    ⟨src.len, _, st1, [], [], Fill.begin fr1.sto hL, upd_same, .nil, by simpa only [List.nil_append] using e1⟩, ?_⟩
  rintro i k H2 ⟨μ2, st2, acc, xs, F, hH, hr, eq⟩
  have w := wk μ2 st2 H2 ((Ext.heat hL).trans F.ext) F.sto i
  cases k with
  | zero =>
    left
    simp only [loopN] at eq
    by_cases hend : srcEnd st2 src i = true
    · rw [if_pos hend, Res.bind_ok, List.append_nil] at eq
      obtain ⟨μ', q1, q2⟩ := F.make fr1.sto hL fr1.bs hH hr eq
      exact ⟨w.2 hend, h _ _ _ q1 q2⟩
    · rw [if_neg hend] at eq; cases eq
  | succ k =>
    right
    simp only [loopN] at eq
    cases hx : srcAt st2 src i with
    | none => rw [hx] at eq; cases eq
    | some dx =>
    rw [hx] at eq
    simp only [Res.bind_bind] at eq
    obtain ⟨ya, st3, ef, eq2⟩ := bind_inv eq
    obtain ⟨wg, wy⟩ := w.1 dx hx
    refine ⟨wg, fun H => ∃ μ' st' acc xs, Fill Z ρ.bx ρ.bs L μ1 st1 H1 μ' st' H ∧ H L = some (.lst acc) ∧ Reps Z H μ' acc xs ∧ ((loopN (itemF C ρ own p cs (.fin a)) src k (i + 1) st').bind fun b st => mkL m (xs ++ b) st) = .ok d0 stF,
      fun H' hq => ⟨k, Nat.lt_succ_self k, hq⟩, fun v H3 hy => ?_⟩
    obtain ⟨μ3, n3, r3⟩ := wy v H3 hy
    have F3 := F.next n3
    have hH3 : H3 L = some (.lst acc) := (n3.hots.2 L (by rw [F.hots.1]; simp)).trans hH
    have hr3 := Reps.ext n3.ext hr
    have frb := (F3.fr hL fr1).blk ho
    cases hbp : bindP (ρ.fgt own) p dx with
    | none => simp only [itemF, hbp] at ef; cases ef
    | some ρ' =>
    simp only [itemF, hbp] at ef
    obtain ⟨kb, st4, ec, ef2⟩ := bind_inv ef
    obtain ⟨b1, b2⟩ := bindP_bx hbp
    refine ⟨ρ.fgt own, μ3, st2, dx, frb, r3, ?_⟩
    rw [hbp]
    refine fun σ' fr' hw => ⟨(hw own (fun j hj => List.contains_iff_mem.mp (List.all_eq_true.mp hp j hj))).trans (wipe_again fun _ z => z), ρ', μ3, st2, fr', ?_⟩
    show tR relB Z E ρ'.bx ρ'.bs μ3 st2 H3 (evC C ρ' cs st2) _
    rw [ec]
    rintro kb' H4 μ4 n4 rfl
    have n4' : NxE Z ρ.bx ρ.bs μ3 st2 H3 μ4 st4 H4 := by rw [← show ρ'.bx = ρ.bx from b1, ← show ρ'.bs = ρ.bs from b2]; exact n4
    have F4 := F3.next n4'
    have hH4 : H4 L = some (.lst acc) := (n4'.hots.2 L (by rw [F3.hots.1]; simp)).trans hH3
    have hr4 := Reps.ext n4'.ext hr3
    cases kb' with
    | false =>
      simp only [Bool.false_eq_true, if_false] at ef2 ⊢
      cases ef2
      exact ⟨μ4, _, acc, xs, F4, hH4, hr4, by simpa using eq2⟩
    | true =>
      simp only [if_true, evG] at ef2 ⊢
      obtain ⟨yd, st5, ee, ef3⟩ := bind_inv ef2
      obtain ⟨rfl, rfl⟩ : [yd] = ya ∧ st5 = st3 := by
        cases ef3; exact ⟨rfl, rfl⟩
      refine ⟨ρ', μ4, st4, fr'.next n4, ?_⟩
      show tR (relD Z) Z E ρ'.bx ρ'.bs μ4 st4 H4 (evE C ρ' a st4) _
      rw [ee]
      intro yv H5 μ5 n5 r5
      have n5' : NxE Z ρ.bx ρ.bs μ4 st4 H4 μ5 st5 H5 := by rw [← show ρ'.bx = ρ.bx from b1, ← show ρ'.bs = ρ.bs from b2]; exact n5
      have F5 := F4.next n5'
      have hH5 : H5 L = some (.lst acc) := (n5'.hots.2 L (by rw [F4.hots.1]; simp)).trans hH4
      have hr5 := Reps.ext n5'.ext hr4
      have hlen : acc.length < sizeLine := by
        obtain ⟨bb, st6, _, em⟩ := bind_inv eq2
        have := em
        simp only [Res.bind_ok] at this
        have hl := mkL_line this
        rw [hr.length]
        simp at hl
        omega
      have ef : Ext μ5 H5 μ5 (L2.upd H5 L (.lst (acc ++ [yv]))) := Ext.fill (by rw [F5.hots.1]; simp)
      refine ⟨acc, hH5, hlen, μ5, st5, acc ++ [yv], xs ++ [yd], F5.put fr1.sto hL hH5, upd_same, Reps.ext ef (hr5.append (.cons r5 .nil)), ?_⟩
      simp only [Res.bind_ok] at eq2
      simpa only [List.append_assoc] using eq2
theorem own_map {N : List Str} {own : List Nat} : (ownP N own).map (·.2) = own := by simp [ownP, Function.comp_def]
theorem y_comp1 {m : Bool} {own : List Nat} {it : Y.It} {p : Pt} {cs : Es} {elt tg iter : Expr} {ifs : List Expr} {scope : Scope} (G : Good Z C c CE X E) (ho : (own.all fun i => !c.BX.contains i) = true) (hp : chkIt own p = true) (hb : blkC c.N c.sc scope (ownP c.N own) = true)
    (hi : PI X tg iter (YI Z C c CE E it)) (hs : okHead iter = true)
    (hg : ∀ (s : Shared) (H : Hp) (L : Addr) (cl : List (Str × Addr)) (fp : List Addr), PG (X.blk s H scope (compEnvC scope cl L X.env) fp) tg (YP Z (c.blk scope) CE p))
    (ht : ∀ (s : Shared) (H : Hp) (L : Addr) (cl : List (Str × Addr)) (fp : List Addr), PTs (X.blk s H scope (compEnvC scope cl L X.env) fp) ifs (YC Z C (c.blk scope) CE E cs))
    (he : ∀ (s : Shared) (H : Hp) (L : Addr) (cl : List (Str × Addr)) (fp : List Addr), PE (X.blk s H scope (compEnvC scope cl L X.env) fp) elt (YE Z C (c.blk scope) CE E a)) :
    PE X (.ListComp elt [⟨tg, iter, ifs, 0⟩] scope pos) (YE Z C c CE E (.comp m own it p cs (.fin a))) ∧
    ∀ (i : Nat) (y : Str) (py spos : Pos), X.N[i]? = some y → X.env.scope.names.lookup y = some .local → X.env.scope.kind = .function → (py.line == pos.line) = true → (scope.names.any fun (n, k) => n == y && (k == .local || k == .cell)) = false →
      PS X (.Assign [.Name y py] (.ListComp elt [⟨tg, iter, ifs, 0⟩] scope pos) spos) (tAsg (YE Z C c CE E (.comp m own it p cs (.fin a))) (gName i)) := by
  have ok : BlkOk X.N X.env.scope scope (ownP c.N own) := by rw [G.N, G.sc]; exact blkOk_by hb
  refine ⟨(pe_lc G.calm (by exact G.nd) hi ok hg ht he (foldSet_of hs X.env)).imp fun σ H Q hq => by rw [own_map]; exact comp1_imp ho hp hq, fun i y py spos h1 h2 h3 h4 h5 => ?_⟩
  refine ⟨fun pins s σ H D I hq => ?_⟩
  have hq : YE Z C c CE E (.comp m own it p cs (.fin a)) σ H (fun x H1 => gName i x σ H1 D.nx) := hq
  refine (ps_setLc G.calm (by exact G.nd) h1 h2 (sw_true h3 h2 h4 h5) hi ok hg ht he (foldSet_of hs X.env)).run pins s σ H D I ?_
  show tLc _ _ _ _ _ σ H (fun x H1 => gName i x σ H1 D.nx)
  rw [own_map]
  exact comp1_imp ho hp hq
theorem pat_own : ∀ {p : Pt} {x : Expr}, chkP c p x = true → (p.ixs.all fun i => !c.BX.contains i) = true
  | .name i, .Name x _, h => by
    simp only [chkP, tgB, Bool.and_eq_true] at h
    simp only [Pt.ixs, List.all_cons, List.all_nil, Bool.and_true]
    exact h.1.2
  | .tup is, .Tuple xs _ _, h => by
    simp only [chkP] at h
    simp only [Pt.ixs]
    have key : ∀ (is : List Nat) (xs : List Expr), chkNs c is xs = true → (is.all fun i => !c.BX.contains i) = true := by
      intro is
      induction is with
      | nil => intro xs _; rfl
      | cons i is ih =>
        intro xs h
        cases xs with
        | nil => cases h
        | cons y ys =>
          cases y <;> first
            | (simp only [chkNs, tgB, Bool.and_eq_true] at h
               simp only [List.all_cons, Bool.and_eq_true]
               exact ⟨h.1.1.2, ih ys h.2⟩)
            | cases h
    exact key is xs h
theorem comp2_imp {m : Bool} {own : List Nat} {it it1 : Y.It} {p p1 : Pt} {cs cs1 : Es} {scope : Scope} {tg1 : Expr} (ho : (own.all fun i => !c.BX.contains i) = true) (hp : chkIt own p = true) (hq1 : chkP (c.blk scope) p1 tg1 = true) {σ : L2.St} {H : Hp} {Q : VK}
    (hq : YE Z C c CE E (.comp m own it p cs (.cons p1 it1 cs1 (.fin a))) σ H Q) :
    tLc2 (YI Z C c CE E it) (YP Z (c.blk scope) CE p) (YC Z C (c.blk scope) CE E cs) (YI Z C (c.blk scope) CE E it1) (YP Z (c.blk scope) CE p1) (YC Z C (c.blk scope) CE E cs1) (YE Z C (c.blk scope) CE E a) own p1.ixs σ H Q := by
  obtain ⟨ρ, μ, st, fr, h⟩ := hq
  have h : tR (relD Z) Z E ρ.bx ρ.bs μ st H (((evI C ρ it st).bind fun src st => walkL (itemF C ρ own p cs (.cons p1 it1 cs1 (.fin a))) src st).bind fun xs st => mkL m xs st) Q := by
    simp only [evE] at h
    exact h
  refine ⟨ρ, μ, st, fr, ?_⟩
  simp only []
  cases e0 : evI C ρ it st with
  | ex _ _ => rw [e0] at h; exact h.elim
  | no => rw [e0] at h; exact h.elim
  | ok src st1 =>
  rw [e0, Res.bind_ok, walk_N] at h
  intro J H1 μ1 n1 wk L hL
  have fr1 := fr.next n1
  have h := tR_later n1 h
  cases e1 : (loopN (itemF C ρ own p cs (.cons p1 it1 cs1 (.fin a))) src src.len 0 st1).bind fun xs st => mkL m xs st with
  | ex _ _ => rw [e1] at h; exact h.elim
  | no => rw [e1] at h; exact h.elim
  | ok d0 stF =>
  rw [e1] at h
  replace h : ∀ v H' μ', NxE Z ρ.bx ρ.bs μ1 st1 H1 μ' stF H' → Rep Z H' μ' v d0 → Q v H' := h
  refine ⟨fun i k H => ∃ μ' st' acc xs, Fill Z ρ.bx ρ.bs L μ1 st1 H1 μ' st' H ∧ H L = some (.lst acc) ∧ Reps Z H μ' acc xs ∧ ((loopN (itemF C ρ own p cs (.cons p1 it1 cs1 (.fin a))) src k i st').bind fun b st => mkL m (xs ++ b) st) = .ok d0 stF,
    ⟨src.len, _, st1, [], [], Fill.begin fr1.sto hL, upd_same, .nil, by simpa only [List.nil_append] using e1⟩, ?_⟩
  rintro i k H2 ⟨μ2, st2, acc, xs, F, hH, hr, eq⟩
  have w := wk μ2 st2 H2 ((Ext.heat hL).trans F.ext) F.sto i
  cases k with
  | zero =>
    left
    simp only [loopN] at eq
    by_cases hend : srcEnd st2 src i = true
    · rw [if_pos hend, Res.bind_ok, List.append_nil] at eq
      obtain ⟨μ', q1, q2⟩ := F.make fr1.sto hL fr1.bs hH hr eq
      exact ⟨w.2 hend, h _ _ _ q1 q2⟩
    · rw [if_neg hend] at eq; cases eq
  | succ k =>
    right
    simp only [loopN] at eq
    cases hx : srcAt st2 src i with
    | none => rw [hx] at eq; cases eq
    | some dx =>
    rw [hx] at eq
    simp only [Res.bind_bind] at eq
    obtain ⟨ya, st3, ef, eq2⟩ := bind_inv eq
    obtain ⟨wg, wy⟩ := w.1 dx hx
    -- what is left behind this item
    obtain ⟨rest, hrest⟩ : ∃ rest : List D → Sto → Res D, rest = fun ys st => (loopN (itemF C ρ own p cs (.cons p1 it1 cs1 (.fin a))) src k (i + 1) st).bind fun b st => mkL m (ys ++ b) st := ⟨_, rfl⟩
    have eq3 : rest (xs ++ ya) st3 = .ok d0 stF := by
      rw [hrest]
      simpa only [Res.bind_ok, List.append_assoc] using eq2
    have rlen : ∀ {ys : List D} {s' : Sto}, rest ys s' = .ok d0 stF → ys.length ≤ sizeLine := fun {ys s'} hh => by
      rw [hrest] at hh
      obtain ⟨bb, st6, _, em⟩ := bind_inv hh
      have := mkL_line em
      simp at this
      omega
    refine ⟨wg, fun H => ∃ μ' st' acc xs, Fill Z ρ.bx ρ.bs L μ1 st1 H1 μ' st' H ∧ H L = some (.lst acc) ∧ Reps Z H μ' acc xs ∧ rest xs st' = .ok d0 stF,
      fun H' ⟨μ', st', acc', xs', q1, q2, q3, q4⟩ => ⟨k, Nat.lt_succ_self k, μ', st', acc', xs', q1, q2, q3, by rw [hrest] at q4; exact q4⟩, fun v H3 hy => ?_⟩
    obtain ⟨μ3, n3, r3⟩ := wy v H3 hy
    have F3 := F.next n3
    have hH3 : H3 L = some (.lst acc) := (n3.hots.2 L (by rw [F.hots.1]; simp)).trans hH
    have hr3 := Reps.ext n3.ext hr
    have frb := (F3.fr hL fr1).blk ho
    cases hbp : bindP (ρ.fgt own) p dx with
    | none => simp only [itemF, hbp] at ef; cases ef
    | some ρ' =>
    simp only [itemF, hbp] at ef
    obtain ⟨kb, st4, ec, ef2⟩ := bind_inv ef
    obtain ⟨b1, b2⟩ := bindP_bx hbp
    have b1 : ρ'.bx = ρ.bx := b1
    have b2 : ρ'.bs = ρ.bs := b2
    refine ⟨ρ.fgt own, μ3, st2, dx, frb, r3, ?_⟩
    rw [hbp]
    refine fun σ' fr' hw => ⟨(hw own (fun j hj => List.contains_iff_mem.mp (List.all_eq_true.mp hp j hj))).trans (wipe_again fun _ z => z), ρ', μ3, st2, fr', ?_⟩
    show tR relB Z E ρ'.bx ρ'.bs μ3 st2 H3 (evC C ρ' cs st2) _
    rw [ec]
    rintro kb' H4 μ4 n4 rfl
    have n4' : NxE Z ρ.bx ρ.bs μ3 st2 H3 μ4 st4 H4 := by rw [← b1, ← b2]; exact n4
    have F4 := F3.next n4'
    have hH4 : H4 L = some (.lst acc) := (n4'.hots.2 L (by rw [F3.hots.1]; simp)).trans hH3
    have hr4 := Reps.ext n4'.ext hr3
    cases kb' with
    | false =>
      simp only [Bool.false_eq_true, if_false] at ef2 ⊢
      obtain ⟨rfl, rfl⟩ : ([] : List D) = ya ∧ st4 = st3 := by
        cases ef2; exact ⟨rfl, rfl⟩
      exact ⟨μ4, st4, acc, xs, F4, hH4, hr4, by simpa using eq3⟩
    | true =>
      simp only [if_true, evG] at ef2 ⊢
      obtain ⟨src1, st5, ei, el⟩ := bind_inv ef2
      replace el : walkL (itemF C ρ' p1.ixs p1 cs1 (.fin a)) src1 st5 = .ok ya st3 := el
      rw [walk_N] at el
      refine ⟨ρ', μ4, st4, fr'.next n4, ?_⟩
      simp only []
      rw [ei]
      intro J1 H5 μ5 n5 wk1
      have n5' : NxE Z ρ.bx ρ.bs μ4 st4 H4 μ5 st5 H5 := by rw [← b1, ← b2]; exact n5
      have F5 := F4.next n5'
      have hH5 : H5 L = some (.lst acc) := (n5'.hots.2 L (by rw [F4.hots.1]; simp)).trans hH4
      have hr5 := Reps.ext n5'.ext hr4
      have fr5 := (fr'.next n4).next n5
      refine ⟨fun j k H => ∃ μ' st' acc xs, Fill Z ρ.bx ρ.bs L μ1 st1 H1 μ' st' H ∧ Ext μ5 H5 μ' H ∧ st5.length ≤ st'.length ∧ H L = some (.lst acc) ∧ Reps Z H μ' acc xs ∧ ((loopN (itemF C ρ' p1.ixs p1 cs1 (.fin a)) src1 k j st').bind fun b st => rest (xs ++ b) st) = .ok d0 stF,
        ⟨src1.len, μ5, st5, acc, xs, F5, Ext.refl _ _, Nat.le_refl _, hH5, hr5, by rw [el]; exact eq3⟩, ?_⟩
      rintro j k1 H6 ⟨μ6, st6, acc6, xs6, F6, X6, L6, hH6, hr6, eq6⟩
      have s6 : StoR Z ρ'.bx μ6 st6 H6 := by rw [b1]; exact F6.sto
      have w6 := wk1 μ6 st6 H6 X6 s6 j
      have fr6 : Fr Z c.N c.BX CE σ' ρ' μ6 st6 H6 := fr5.of X6 s6 L6 fun q hq => by
        rw [b1] at hq
        exact (F6.owns q hq).trans (F5.owns q hq).symm
      cases k1 with
      | zero =>
        left
        simp only [loopN] at eq6
        by_cases hend : srcEnd st6 src1 j = true
        · rw [if_pos hend, Res.bind_ok, List.append_nil] at eq6
          exact ⟨w6.2 hend, μ6, st6, acc6, xs6, F6, hH6, hr6, eq6⟩
        · rw [if_neg hend] at eq6; cases eq6
      | succ k1 =>
        right
        simp only [loopN] at eq6
        cases hx1 : srcAt st6 src1 j with
        | none => rw [hx1] at eq6; cases eq6
        | some dx1 =>
        rw [hx1] at eq6
        simp only [Res.bind_bind] at eq6
        obtain ⟨ya1, st7, ef1, eq7⟩ := bind_inv eq6
        obtain ⟨wg1, wy1⟩ := w6.1 dx1 hx1
        refine ⟨wg1, fun H => ∃ μ' st' acc xs, Fill Z ρ.bx ρ.bs L μ1 st1 H1 μ' st' H ∧ Ext μ5 H5 μ' H ∧ st5.length ≤ st'.length ∧ H L = some (.lst acc) ∧ Reps Z H μ' acc xs ∧ ((loopN (itemF C ρ' p1.ixs p1 cs1 (.fin a)) src1 k1 (j + 1) st').bind fun b st => rest (xs ++ b) st) = .ok d0 stF,
          fun H' hq => ⟨k1, Nat.lt_succ_self k1, hq⟩, fun v1 H7 hy1 => ?_⟩
        obtain ⟨μ7, n7, r7⟩ := wy1 v1 H7 hy1
        have n7' : NxE Z ρ.bx ρ.bs μ6 st6 H6 μ7 st6 H7 := by rw [← b1, ← b2]; exact n7
        have F7 := F6.next n7'
        have hH7 : H7 L = some (.lst acc6) := (n7'.hots.2 L (by rw [F6.hots.1]; simp)).trans hH6
        have hr7 := Reps.ext n7'.ext hr6
        have fr7 := (fr6.next n7).blk (own := p1.ixs) (pat_own (c := c.blk scope) hq1)
        cases hbp1 : bindP (ρ'.fgt p1.ixs) p1 dx1 with
        | none => simp only [itemF, hbp1] at ef1; cases ef1
        | some ρ1 =>
        simp only [itemF, hbp1] at ef1
        obtain ⟨kb1, st8, ec1, ef3⟩ := bind_inv ef1
        obtain ⟨d1, d2⟩ := bindP_bx hbp1
        have d1 : ρ1.bx = ρ.bx := d1.trans b1
        have d2 : ρ1.bs = ρ.bs := d2.trans b2
        refine ⟨ρ'.fgt p1.ixs, μ7, st6, dx1, fr7, r7, ?_⟩
        rw [hbp1]
        refine fun σ1 fr8 hw1 => ⟨(hw1 p1.ixs (fun _ z => z)).trans (wipe_again fun _ z => z), ρ1, μ7, st6, fr8, ?_⟩
        show tR relB Z E ρ1.bx ρ1.bs μ7 st6 H7 (evC C ρ1 cs1 st6) _
        rw [ec1]
        rintro kb2 H8 μ8 n8 rfl
        have n8' : NxE Z ρ.bx ρ.bs μ7 st6 H7 μ8 st8 H8 := by rw [← d1, ← d2]; exact n8
        have F8 := F7.next n8'
        have hH8 : H8 L = some (.lst acc6) := (n8'.hots.2 L (by rw [F7.hots.1]; simp)).trans hH7
        have hr8 := Reps.ext n8'.ext hr7
        have X8 := X6.trans (n7'.ext.trans n8'.ext)
        have L8 := Nat.le_trans L6 n8'.pres.len
        cases kb2 with
        | false =>
          simp only [Bool.false_eq_true, if_false] at ef3 ⊢
          obtain ⟨rfl, rfl⟩ : ([] : List D) = ya1 ∧ st8 = st7 := by
            cases ef3; exact ⟨rfl, rfl⟩
          exact ⟨μ8, st8, acc6, xs6, F8, X8, L8, hH8, hr8, by simpa using eq7⟩
        | true =>
          simp only [if_true, evG] at ef3 ⊢
          obtain ⟨yd, st9, ee, ef4⟩ := bind_inv ef3
          obtain ⟨rfl, rfl⟩ : [yd] = ya1 ∧ st9 = st7 := by
            cases ef4; exact ⟨rfl, rfl⟩
          refine ⟨ρ1, μ8, st8, fr8.next n8, ?_⟩
          show tR (relD Z) Z E ρ1.bx ρ1.bs μ8 st8 H8 (evE C ρ1 a st8) _
          rw [ee]
          intro yv H9 μ9 n9 r9
          have n9' : NxE Z ρ.bx ρ.bs μ8 st8 H8 μ9 st9 H9 := by rw [← d1, ← d2]; exact n9
          have F9 := F8.next n9'
          have hH9 : H9 L = some (.lst acc6) := (n9'.hots.2 L (by rw [F8.hots.1]; simp)).trans hH8
          have hr9 := Reps.ext n9'.ext hr8
          simp only [Res.bind_ok] at eq7
          have hlen : acc6.length < sizeLine := by
            obtain ⟨bb, st10, _, em⟩ := bind_inv eq7
            have hl := rlen em
            rw [hr6.length]
            simp at hl
            omega
          have ef : Ext μ9 H9 μ9 (L2.upd H9 L (.lst (acc6 ++ [yv]))) := Ext.fill (by rw [F9.hots.1]; simp)
          exact ⟨acc6, hH9, hlen, μ9, st9, acc6 ++ [yv], xs6 ++ [yd], F9.put fr1.sto hL hH9, (X8.trans n9'.ext).trans ef, Nat.le_trans L8 n9'.pres.len, upd_same, Reps.ext ef (hr9.append (.cons r9 .nil)), by simpa only [List.append_assoc] using eq7⟩
theorem y_comp2 {m : Bool} {own : List Nat} {it it1 : Y.It} {p p1 : Pt} {cs cs1 : Es} {elt tg iter tg1 iter1 : Expr} {ifs ifs1 : List Expr} {scope : Scope} (G : Good Z C c CE X E) (ho : (own.all fun i => !c.BX.contains i) = true) (hp : chkIt own p = true) (hp1 : chkIt own p1 = true) (hb : blkC c.N c.sc scope (ownP c.N own) = true)
    (hi : PI X tg iter (YI Z C c CE E it)) (hs : okHead iter = true) (hs1 : okHead iter1 = true) (hq1 : chkP (c.blk scope) p1 tg1 = true)
    (hg : ∀ (s : Shared) (H : Hp) (L : Addr) (cl : List (Str × Addr)) (fp : List Addr), PG (X.blk s H scope (compEnvC scope cl L X.env) fp) tg (YP Z (c.blk scope) CE p))
    (ht : ∀ (s : Shared) (H : Hp) (L : Addr) (cl : List (Str × Addr)) (fp : List Addr), PTs (X.blk s H scope (compEnvC scope cl L X.env) fp) ifs (YC Z C (c.blk scope) CE E cs))
    (hi1 : ∀ (s : Shared) (H : Hp) (L : Addr) (cl : List (Str × Addr)) (fp : List Addr), PI (X.blk s H scope (compEnvC scope cl L X.env) fp) tg1 iter1 (YI Z C (c.blk scope) CE E it1))
    (hg1 : ∀ (s : Shared) (H : Hp) (L : Addr) (cl : List (Str × Addr)) (fp : List Addr), PG (X.blk s H scope (compEnvC scope cl L X.env) fp) tg1 (YP Z (c.blk scope) CE p1))
    (ht1 : ∀ (s : Shared) (H : Hp) (L : Addr) (cl : List (Str × Addr)) (fp : List Addr), PTs (X.blk s H scope (compEnvC scope cl L X.env) fp) ifs1 (YC Z C (c.blk scope) CE E cs1))
    (he : ∀ (s : Shared) (H : Hp) (L : Addr) (cl : List (Str × Addr)) (fp : List Addr), PE (X.blk s H scope (compEnvC scope cl L X.env) fp) elt (YE Z C (c.blk scope) CE E a)) :
    PE X (.ListComp elt [⟨tg, iter, ifs, 0⟩, ⟨tg1, iter1, ifs1, 0⟩] scope pos) (YE Z C c CE E (.comp m own it p cs (.cons p1 it1 cs1 (.fin a)))) ∧
    ∀ (i : Nat) (y : Str) (py spos : Pos), X.N[i]? = some y → X.env.scope.names.lookup y = some .local → X.env.scope.kind = .function → (py.line == pos.line) = true → (scope.names.any fun (n, k) => n == y && (k == .local || k == .cell)) = false →
      PS X (.Assign [.Name y py] (.ListComp elt [⟨tg, iter, ifs, 0⟩, ⟨tg1, iter1, ifs1, 0⟩] scope pos) spos) (tAsg (YE Z C c CE E (.comp m own it p cs (.cons p1 it1 cs1 (.fin a)))) (gName i)) := by
  have ok : BlkOk X.N X.env.scope scope (ownP c.N own) := by rw [G.N, G.sc]; exact blkOk_by hb
  have hv : ∀ i ∈ p1.ixs, i ∈ (ownP c.N own).map (·.2) := fun i hi => by rw [own_map]; exact List.contains_iff_mem.mp (List.all_eq_true.mp hp1 i hi)
  refine ⟨(pe_lc2 (vs1 := p1.ixs) G.calm (by exact G.nd) hi ok hv hg ht hi1 hg1 ht1 he (foldSet_of hs X.env) (fun env => foldSet_of hs1 env)).imp fun σ H Q hq => by rw [own_map]; exact comp2_imp ho hp hq1 hq, fun i y py spos h1 h2 h3 h4 h5 => ?_⟩
  refine ⟨fun pins s σ H D I hq => ?_⟩
  have hq : YE Z C c CE E (.comp m own it p cs (.cons p1 it1 cs1 (.fin a))) σ H (fun x H1 => gName i x σ H1 D.nx) := hq
  refine (ps_setLc2 (vs1 := p1.ixs) G.calm (by exact G.nd) h1 h2 (sw_true h3 h2 h4 h5) hi ok hv hg ht hi1 hg1 ht1 he (foldSet_of hs X.env) (fun env => foldSet_of hs1 env)).run pins s σ H D I ?_
  show tLc2 _ _ _ _ _ _ _ _ _ σ H (fun x H1 => gName i x σ H1 D.nx)
  rw [own_map]
  exact comp2_imp ho hp hq1 hq
end Y
end
section
set_option Elab.async false
set_option linter.all false
set_option maxRecDepth 100000
set_option maxHeartbeats 1000000
set_option autoImplicit false
/-! Y15: calls of closures, their making; all expressions. -/
namespace Y
open PySem PySem.Spec PyProof.Rows L2 LamX NdefX
variable {Z : Lk} {C : Cs} {c : Cf} {CE : List (Str × Addr)} {X : Cx} {E : XK} {pos : Pos} {x y z : Expr} {a b d : Y.E} {n : Nat} {k : Nat}
theorem clo_fn {pins : List (Addr × Obj)} {σ : L2.St} {H : Hp} {s : Shared} {μ : Mu} {g : Addr} {l : Nat} {cs : List Nat} (I : Inv X pins σ H s) (r : Rep Z H μ (.ref g) (.clo l cs)) : PySem.W.FnAt g s.heap := by
  cases r with
  | clo h1 n1 n2 h2 h3 h4 h5 h6 h7 =>
    obtain ⟨⟨pm, ctv, e⟩, _, _⟩ := I.hok g _ h2
    exact ⟨_, _, _, _, e⟩
theorem y_vcall {i : Nat} {es : Es} {nm : Str} {xs : List Expr} {p : Pos} (G : Good Z C c CE X E) (h0 : (c.BX.isEmpty || c.top) = true) (h1 : c.N[i]? = some nm) (h2 : visB c.sc nm = true) (h3 : nmOk nm = true) (hx : xs.all okHead = true) (h8 : esLen es = some xs.length) (ha : PA X xs (YEs Z C c CE E es)) :
    PE X (.Call (.Name nm p) xs [] pos) (YE Z C c CE E (.vcall (.var i) es)) := by
  refine ⟨fun pins s σ H Q I ⟨ρ, μ, st, fr, h⟩ => ?_⟩
  simp only [evE] at h
  refine wpAny_Call_Name_kw (thn ((pe_var (pos := p) (i := i) (by rw [G.N]; exact h1) (G.vis h2) (nm_dbg h3) (nm_cd h3)).run pins s σ H (fun v H1 => H1 = H ∧ ∃ g, v = .ref g ∧ ∃ l cs, Rep Z H μ (.ref g) (.clo l cs) ∧ tR (relD Z) Z E ρ.bx ρ.bs μ st H ((evEs C ρ es st).bind fun xs st => C.clo l cs xs st) Q) I ?_) fun u s1 ⟨v, H1, I1, r1, e1, g, ev, l, cs, rg, h⟩ => ?_)
  · cases e : ρ.sl[i]? with
    | none => rw [e] at h; exact h.elim
    | some o =>
      cases o with
      | none => rw [e] at h; exact h.elim
      | some g =>
        rw [e] at h
        obtain ⟨v, q1, q2⟩ := fr.sl i g e
        refine ⟨v, q1, rfl, ?_⟩
        simp only [Res.bind_ok] at h
        cases q2 with
        | clo a1 a2 a3 a4 a5 a6 a7 a8 a9 => exact ⟨_, rfl, _, _, .clo a1 a2 a3 a4 a5 a6 a7 a8 a9, h⟩
        | _ =>
          exfalso
          simp only at h
          cases e2 : evEs C ρ es st with
          | ok _ _ => rw [e2] at h; exact h
          | ex _ _ => rw [e2] at h; exact h
          | no => rw [e2] at h; exact h
  · subst e1 ev
    obtain rfl : u = Value.ref g := r1
    have fn := clo_fn I1 rg
    have step : ∀ (H2 : Hp) (us : List Value) (vs : List V) (ds : List D) (st2 : Sto) (μ2 : Mu) (s2 : Shared), Inv X pins σ H2 s2 → Vals vs us → Fr Z c.N c.BX CE σ ρ μ2 st2 H2 → Rep Z H2 μ2 (.ref g) (.clo l cs) → Reps Z H2 μ2 vs ds → tR (relD Z) Z E ρ.bx ρ.bs μ2 st2 H2 (C.clo l cs ds st2) Q →
        wpAny (model X.prog X.w) X.A (PySem.call (.ref g) us []) (EP X pins σ Q) X.xe s2 := fun H2 us vs ds st2 μ2 s2 I2 rv fr2 rg2 rs h2 => G.vrun X (Sib.refl X) (cal_of h0) pins σ H2 s2 us vs Q ρ μ2 st2 ds l cs g I2 rv fr2 rs rg2 h2
    cases xs with
    | nil =>
      refine PySem.W.callWith_F0 fn ?_
      have e0 : evEs C ρ es st = .ok [] st := by
        cases es with
        | nil => simp only [evEs]
        | cons _ r => simp only [esLen, Option.map_eq_some_iff] at h8; obtain ⟨_, _, h8⟩ := h8; cases h8
        | star _ _ => cases h8
      rw [e0, Res.bind_ok] at h
      exact step H1 [] [] [] st μ s1 I1 .nil fr rg .nil h
    | cons x0 xs =>
      refine PySem.W.callWith_F fn ?_ (star_cons (by simp only [List.all_cons, Bool.and_eq_true] at hx; exact hx.1)) (star_any (by simp only [List.all_cons, Bool.and_eq_true] at hx; exact hx.2))
      refine thn (ha.run pos pins s1 σ H1 (fun vs H2 => ∃ ds st2 μ2, Fr Z c.N c.BX CE σ ρ μ2 st2 H2 ∧ Rep Z H2 μ2 (.ref g) (.clo l cs) ∧ Reps Z H2 μ2 vs ds ∧ tR (relD Z) Z E ρ.bx ρ.bs μ2 st2 H2 (C.clo l cs ds st2) Q) I1
        (sub_A (sem := fun ρ st => evEs C ρ es st) fr h fun vs H2 ds st2 μ2 n2 fr2 r2 h2 => ⟨ds, st2, μ2, fr2, rg.ext n2.ext, r2, h2⟩)) fun us s2 ⟨vs, H2, I2, rv, ds, st2, μ2, fr2, rg2, rs, h2⟩ => ⟨clo_fn I2 rg2, ?_⟩
      exact step H2 us vs ds st2 μ2 s2 I2 rv fr2 rg2 rs h2
end Y
end
section
set_option Elab.async false
set_option linter.all false
set_option maxRecDepth 100000
set_option maxHeartbeats 1000000
set_option autoImplicit false
/-! Y16: how parameters are bound. -/
namespace Y
open PySem PySem.Spec PyProof.Rows L2 LamX NdefX
abbrev Sl := List (Str × Value) × List (Str × Value)
theorem kw_loop {names : List Str} {f : Str × Value → Sl → Sem (ForInStep Sl)} (hf : ∀ x s, names.contains x.1 = true → s.1.lookup x.1 = none → f x s = pure (.yield (s.1 ++ [x], s.2))) :
    ∀ (kws slots : List (Str × Value)), (∀ x ∈ kws, names.contains x.1 = true) → ((slots ++ kws).map (·.1)).Nodup → forIn kws (slots, ([] : List (Str × Value))) f = (pure (slots ++ kws, []) : Sem Sl)
  | [], slots, _, _ => by simp
  | x :: kws, slots, h1, h2 => by
    have hn : slots.lookup x.1 = none := by
      cases e : slots.lookup x.1 with
      | none => rfl
      | some v =>
        exfalso
        have hm := PySem.mem_of_lookup e
        simp only [List.map_append, List.map_cons] at h2
        have := (List.nodup_append.mp h2).2.2 x.1 (List.mem_map.mpr ⟨_, hm, rfl⟩) x.1 (by simp)
        exact this rfl
    rw [List.forIn_cons, hf x _ (h1 x (by simp)) hn]
    simp only [pure_bind]
    rw [kw_loop hf kws (slots ++ [x]) (fun y hy => h1 y (by simp [hy])) (by simpa using h2)]
    simp
theorem bind_kw {fd : FuncData} {args : List PySem.Arg} {kwd : List (Option Expr)} {dfl : List Expr} {us : List Value} {kws : List (Str × Value)} (hp : fd.params = ⟨[], args, none, [], kwd, none, dfl⟩) (hd : fd.defaults = .none)
    (hl : us.length ≤ args.length) (h1 : ∀ x ∈ kws, (args.map (·.arg)).contains x.1 = true) (h2 : ((((args.map (·.arg)).zip us) ++ kws).map (·.1)).Nodup) (h3 : ∀ n ∈ args.map (·.arg), (((args.map (·.arg)).zip us ++ kws).lookup n).isSome = true) :
    bindArgs fd ⟨us, kws⟩ = pure ((args.map (·.arg)).filterMap fun n => (((args.map (·.arg)).zip us ++ kws).lookup n).map (n, ·)) := by
  unfold bindArgs
  simp only [hp, hd, List.map_nil, List.nil_append, List.contains_nil, Bool.or_false]
  rw [kw_loop (names := args.map (·.arg)) (fun x s ha hb => by rw [if_pos ha, hb]; rfl) kws ((args.map (·.arg)).zip us) h1 h2]
  simp only [pure_bind]
  have e : seqItems? Value.none = (pure none : Sem (Option (Array Value))) := rfl
  rw [e]
  simp only [pure_bind, Option.getD_none, List.drop_nil, List.length_nil, Nat.sub_zero, List.drop_zero]
  have hn : (List.filter (fun n => (List.lookup n ((args.map (·.arg)).zip us ++ kws)).isNone) (List.take (List.map (fun x => x.arg) args).length (args.map (·.arg)))).isEmpty = true := by
    rw [List.isEmpty_iff, List.filter_eq_nil_iff]
    intro a ha hc
    have := h3 a (List.mem_of_mem_take ha)
    rw [Option.isNone_iff_eq_none] at hc
    rw [hc] at this; cases this
  have hg : ¬ (decide (us.length > (List.map (fun x => x.arg) args).length) && (none : Option PySem.Arg).isNone) = true := by
    simp; omega
  rw [if_neg hg, if_neg (by rw [hn]; simp)]
  simp only [List.zip_nil_right, List.forIn_nil, pure_bind, List.isEmpty_nil, Bool.not_true, Bool.false_eq_true, if_false, List.append_nil]
/-- which signatures are told -/
def sigB (ps : List Str) (n : Nat) (ks : List Str) : Bool := decide ps.Nodup && decide (ps.take n ++ ks).Nodup && decide (n + ks.length = ps.length) && (ps.drop n).all ks.contains && ks.all ps.contains
theorem zip_keys : ∀ (ps : List Str) (us : List Value), (ps.zip us).map (·.1) = ps.take us.length
  | [], us => by simp
  | _ :: _, [] => by simp
  | p :: ps, u :: us => by simp [zip_keys ps us]
theorem zip_lookup : ∀ {ps : List Str} {us : List Value} {i : Nat} {x : Str} {u : Value}, ps.Nodup → ps[i]? = some x → us[i]? = some u → (ps.zip us).lookup x = some u
  | [], _, _, _, _, _, h, _ => by simp at h
  | _ :: _, [], _, _, _, _, _, h => by simp at h
  | p :: ps, v :: us, 0, x, u, _, h1, h2 => by
    simp only [List.getElem?_cons_zero, Option.some.injEq] at h1 h2
    subst h1 h2
    simp
  | p :: ps, v :: us, i + 1, x, u, hn, h1, h2 => by
    simp only [List.getElem?_cons_succ] at h1 h2
    have hne : (x == p) = false := by
      rw [beq_eq_false_iff_ne]
      intro e
      subst e
      exact (List.nodup_cons.mp hn).1 (List.mem_of_getElem? h1)
    simp only [List.zip_cons_cons, List.lookup_cons, hne]
    exact zip_lookup (List.nodup_cons.mp hn).2 h1 h2
theorem zip_no : ∀ {ps : List Str} {us : List Value} {i : Nat} {x : Str}, ps.Nodup → ps[i]? = some x → us.length ≤ i → (ps.zip us).lookup x = none
  | [], _, _, _, _, h, _ => by simp at h
  | _ :: _, [], _, _, _, _, _ => by simp
  | p :: ps, v :: us, 0, x, _, h1, h2 => by simp at h2
  | p :: ps, v :: us, i + 1, x, hn, h1, h2 => by
    simp only [List.getElem?_cons_succ] at h1
    have hne : (x == p) = false := by
      rw [beq_eq_false_iff_ne]
      intro e
      subst e
      exact (List.nodup_cons.mp hn).1 (List.mem_of_getElem? h1)
    simp only [List.zip_cons_cons, List.lookup_cons, hne]
    exact zip_no (List.nodup_cons.mp hn).2 h1 (by simpa using h2)
theorem zip_eq : ∀ {ps : List Str} {f : Str → Option Value} {as : List Value}, ps.length = as.length → (∀ (i : Nat) (x : Str) (u : Value), ps[i]? = some x → as[i]? = some u → f x = some u) → (ps.filterMap fun n => (f n).map (n, ·)) = ps.zip as
  | [], _, [], _, _ => rfl
  | [], _, _ :: _, h, _ => by simp at h
  | _ :: _, _, [], h, _ => by simp at h
  | p :: ps, f, a :: as, hl, h => by
    have h0 := h 0 p a rfl rfl
    simp only [List.filterMap_cons, h0, Option.map_some, List.zip_cons_cons]
    rw [zip_eq (as := as) (by simpa using hl) fun i x u h1 h2 => h (i + 1) x u (by simpa using h1) (by simpa using h2)]
/-- what is bound: as stands in the parameters' order -/
theorem bind_sig {fd : FuncData} {args : List PySem.Arg} {kwd : List (Option Expr)} {dfl : List Expr} {us ws as : List Value} {ks : List Str} (hp : fd.params = ⟨[], args, none, [], kwd, none, dfl⟩) (hd : fd.defaults = .none)
    (hs : sigB (args.map (·.arg)) us.length ks = true) (hw : ws.length = ks.length) (hl : as.length = args.length) (h1 : ∀ (i : Nat) (u : Value), i < us.length → as[i]? = some u → us[i]? = some u)
    (h2 : ∀ (i : Nat) (x : Str) (u : Value), us.length ≤ i → (args.map (·.arg))[i]? = some x → as[i]? = some u → ws[ks.idxOf x]? = some u) : bindArgs fd ⟨us, ks.zip ws⟩ = pure ((args.map (·.arg)).zip as) := by
  simp only [sigB, Bool.and_eq_true, decide_eq_true_eq, List.all_eq_true] at hs
  obtain ⟨⟨⟨⟨n1, n5⟩, n3⟩, n4⟩, n6⟩ := hs
  have n2 : ks.Nodup := (List.nodup_append.mp n5).2.1
  have look : ∀ (i : Nat) (x : Str) (u : Value), (args.map (·.arg))[i]? = some x → as[i]? = some u → (((args.map (·.arg)).zip us ++ ks.zip ws).lookup x) = some u := fun i x u e1 e2 => by
    rw [List.lookup_append]
    by_cases hi : i < us.length
    · rw [zip_lookup n1 e1 (h1 i u hi e2)]; rfl
    · rw [zip_no n1 e1 (by omega)]
      have hm : x ∈ ks := by
        have : x ∈ (args.map (·.arg)).drop us.length := by
          have hlt := (List.getElem?_eq_some_iff.mp e1).1
          rw [List.mem_iff_getElem?]
          exact ⟨i - us.length, by rw [List.getElem?_drop, show us.length + (i - us.length) = i by omega]; exact e1⟩
        exact List.contains_iff_mem.mp (n4 x this)
      have hlt := List.idxOf_lt_length_of_mem hm
      rw [zip_lookup n2 (i := ks.idxOf x) (by rw [List.getElem?_eq_getElem hlt]; exact congrArg some (List.getElem_idxOf hlt)) (h2 i x u (by omega) e1 e2)]; rfl
  have hla : (args.map (·.arg)).length = as.length := by rw [List.length_map]; exact hl.symm
  have hn3 : us.length ≤ (args.map (·.arg)).length := by omega
  rw [bind_kw hp hd (by rw [List.length_map] at hn3; exact hn3)]
  · rw [zip_eq hla look]
  · intro x hx
    exact n6 _ (List.of_mem_zip (show (x.1, x.2) ∈ ks.zip ws from hx)).1
  · rw [List.map_append]
    have e1 : ((args.map (·.arg)).zip us).map (·.1) = (args.map (·.arg)).take us.length := by
      exact zip_keys _ _
    have e2 : (ks.zip ws).map (·.1) = ks := List.map_fst_zip (by omega)
    rw [e1, e2]; exact n5
  · intro n hn
    obtain ⟨i, hi⟩ := List.mem_iff_getElem?.mp hn
    have hlt : i < as.length := by rw [← hla]; exact (List.getElem?_eq_some_iff.mp hi).1
    rw [look i n _ hi (List.getElem?_eq_getElem hlt)]; rfl
end Y
end
section
set_option Elab.async false
set_option linter.all false
set_option maxRecDepth 100000
set_option maxHeartbeats 1000000
set_option autoImplicit false
/-! Y17: a lambda is made. -/
namespace Y
open PySem PySem.Spec PyProof.Rows L2 LamX NdefX
variable {Z : Lk} {C : Cs} {c : Cf} {CE : List (Str × Addr)} {X : Cx} {E : XK} {pos : Pos} {x y z : Expr} {a b d : Y.E} {n : Nat} {k : Nat}
theorem tabs_up {T : List (Addr × Str)} {H : Hp} {p : Addr} {o : HO} (t : Tabs T H) (hp : H p = none) : Tabs T (L2.upd H p o) := t.ext fun b u e => by rw [upd_ne (ne_of_none e hp)]; exact e
section
variable {pins : List (Addr × Obj)} {σ : L2.St} {H : Hp} {s : Shared}
/-- a function object just laid is known from now on -/
theorem inv_lam {q : Str} {params : Arguments} {body : Expr} {scope : Scope} {cl : List (Str × Addr)} {c' : Addr} {pm ctv : Value} {h : Heap} {t t' : Nat} (I : Inv X pins σ H { s with heap := h, toks := t }) :
    Inv X pins σ (L2.upd H h.objs.size (lamO h.objs.size q params body scope cl c')) { s with heap := h.push (PySem.W.kla_obj "<lambda>" q params body scope cl pm c' ctv), toks := t' } := by
  have g : (h.push (PySem.W.kla_obj "<lambda>" q params body scope cl pm c' ctv)).get? h.objs.size = some (PySem.W.kla_obj "<lambda>" q params body scope cl pm c' ctv) := Heap.get?_push_size _ rfl
  exact I.laid (a := h.objs.size) (fun b u e => Heap.get?_push_of_some _ e) (Nat.le_refl _) ⟨⟨pm, ctv, g⟩, ⟨_, g⟩, fun h1 h2 ⟨p1, c1, z⟩ st => ⟨p1, c1, st _ z⟩⟩
theorem lam_mk {T : List (Addr × Str)} {cc P : Addr} {params : Arguments} {body : Expr} {scope : Scope} {E : Value → Shared → Prop} {Q : Value → Shared → Prop} (I : Inv X pins σ H s) (TB : TabB X.base X.mg cc P) (hcode : X.env.code = .ref cc)
    (hm : (P, X.env.qual ++ "<lambda>") ∈ T) (hu : ∀ p ∈ T, p.1 = P → p.2 = X.env.qual ++ "<lambda>") (hT : Tabs T H) (hdef : defaultsOf params X.env = ([], [])) (hfree : ∀ y ∈ scope.names, y.2 = .free → ∃ c, X.env.cells.lookup y.1 = some c)
    (h : ∀ (f c' : Addr) (H1 : Hp) (s' : Shared), Inv X pins σ (L2.upd H1 f (lamO f (X.env.qual ++ "<lambda>") params body scope (cloFrom X.env.cells scope.names []) c')) s' → ExtN H H1 → (∀ b, H1 b = none → H b = none) → Tabs T H1 → H1 f = none → H1 c' = some (CodeO c' (X.env.qual ++ "<lambda>")) → Q (.ref f) s') :
    wpAny (model X.prog X.w) X.A (eval (.Lambda params body scope pos) X.env) Q E s := by
  obtain ⟨tb, hP, ht, ha⟩ := hT _ hm
  refine PySem.W.kla_eval hdef ?_
  have bP : s.heap.BuiltinsAt X.mg P := TB.bm.keeps I.bk
  have hP' : s.heap.get? P = some { cls := .none, data := .fields tb } := I.hok P _ hP
  cases hc : codeAmong pos tb.toList with
  | some cv =>
    obtain ⟨c', rfl, hco⟩ := ha pos cv hc
    refine PySem.W.kla_makeFunctionHit (mg := X.mg) (c := cc) (P := P) (ps := tb) (closure_ok hfree) I.ok.glob (I.mod.glob.keeps I.bk) hcode (TB.code.keeps I.bk) hP' ht hc bP fun ctv h' tk hx hsz => ?_
    have J : Inv X pins σ H { s with heap := h', toks := s.toks } := I.kept hx
    exact h _ c' H _ (inv_lam J) (ExtN.refl H) (fun _ z => z) hT (J.hok.fresh (Nat.le_refl _)) hco
  | none =>
    refine PySem.W.kla_makeFunction (mg := X.mg) (c := cc) (P := P) (ps := tb) (closure_ok hfree) I.ok.glob (I.mod.glob.keeps I.bk) hcode (TB.code.keeps I.bk) hP' ht hc TB.gP bP fun c' ctv h' tk hx hge hlt hrec htb => ?_
    obtain ⟨c2, oc, vs, t, e2, hoc, hd, hv⟩ := hrec
    cases e2
    have nC : H c' = none := I.hok.fresh hge
    have J := inv_table (t' := s.toks) (h' := h') I hP hx htb hge ⟨oc, vs, t, hoc, hd, hv⟩
    have hne : ∀ b o, H b = some o → (∀ q, o ≠ .tbl q) → b ≠ P := fun b o e w z => by
      rw [z, hP] at e
      exact w tb (Option.some.inj e).symm
    have xt : ExtN H (L2.upd (L2.upd H P (.tbl (tb ++ #[rawInt pos.line, rawInt pos.col, .ref c']))) c' (CodeO c' (X.env.qual ++ "<lambda>"))) := fun b o e w => by
      rw [upd_ne (ne_of_none e nC), upd_ne (hne b o e w)]
      exact e
    refine h _ c' _ _ (inv_lam J) xt (fun b z => Y.upd_none (Y.upd_none z)) (fun p hp => ?_) (J.hok.fresh (Nat.le_refl _)) upd_same
    have more : (tb ++ #[rawInt pos.line, rawInt pos.col, .ref c']).toList = tb.toList ++ [rawInt pos.line, rawInt pos.col, .ref c'] := by simp
    by_cases hb : p.1 = P
    · rw [hu p hp hb, hb]
      refine ⟨tb ++ #[rawInt pos.line, rawInt pos.col, .ref c'], by rw [upd_ne (ne_of_none hP nC), upd_same], ?_, fun p' cv hcv => ?_⟩
      · rw [more]; exact PySem.TriplesOk_snoc _ _ _ _ ht
      · rw [more] at hcv
        rcases among_app tb.toList ht hcv with w | w
        · obtain ⟨c0, e1, e2⟩ := ha p' cv w
          exact ⟨c0, e1, xt c0 _ e2 codeO_ne⟩
        · exact ⟨c', w, upd_same⟩
    · obtain ⟨tb', a1, a2, a3⟩ := hT p hp
      refine ⟨tb', by rw [upd_ne (ne_of_none a1 nC), upd_ne hb]; exact a1, a2, fun p' cv hcv => ?_⟩
      obtain ⟨c0, e1, e2⟩ := a3 p' cv hcv
      exact ⟨c0, e1, xt c0 _ e2 codeO_ne⟩
end
theorem js_at : ∀ {js : List Nat} {fr : List Str} {k : Nat} {y : Str}, chkJs c js fr = true → fr[k]? = some y → ∃ j i, js[k]? = some j ∧ c.BX[j]? = some i ∧ c.N[i]? = some y
  | [], [], k, y, _, h => by simp at h
  | j :: js, z :: fr, 0, y, h, e => by
    simp only [chkJs, Bool.and_eq_true] at h
    simp only [List.getElem?_cons_zero, Option.some.injEq] at e
    subst e
    have h1 := h.1
    cases hb : c.BX[j]? with
    | none => rw [hb] at h1; cases h1
    | some i => rw [hb] at h1; exact ⟨j, i, rfl, hb, of_decide_eq_true h1⟩
  | j :: js, z :: fr, k + 1, y, h, e => by
    simp only [chkJs, Bool.and_eq_true] at h
    simp only [List.getElem?_cons_succ] at e
    obtain ⟨j', i, h1, h2, h3⟩ := js_at h.2 e
    exact ⟨j', i, by simpa using h1, h2, h3⟩
  | [], _ :: _, _, _, h, _ => by cases h
  | _ :: _, [], _, _, h, _ => by cases h
theorem js_len : ∀ {js : List Nat} {fr : List Str}, chkJs c js fr = true → js.length = fr.length
  | [], [], _ => rfl
  | j :: js, z :: fr, h => by
    simp only [chkJs, Bool.and_eq_true] at h
    simp [js_len h.2]
  | [], _ :: _, h => by cases h
  | _ :: _, [], h => by cases h
theorem mapM_at {α β : Type} {f : α → Option β} : ∀ {l : List α} {r : List β}, l.mapM f = some r → r.length = l.length ∧ ∀ (k : Nat) (a : α) (b : β), l[k]? = some a → r[k]? = some b → f a = some b
  | [], r, h => by
    simp at h; subst h; simp
  | a :: l, r, h => by
    simp only [List.mapM_cons] at h
    cases h1 : f a with
    | none => rw [h1] at h; cases h
    | some b =>
      rw [h1] at h
      cases h2 : l.mapM f with
      | none => rw [h2] at h; cases h
      | some bs =>
        rw [h2] at h
        cases h
        obtain ⟨q1, q2⟩ := mapM_at h2
        refine ⟨by simp [q1], fun k a' b' e1 e2 => ?_⟩
        cases k with
        | zero => simp at e1 e2; subst e1 e2; exact h1
        | succ k => exact q2 k a' b' (by simpa using e1) (by simpa using e2)
section
variable {bx : List Nat} {bs : Nat} {μ : Mu} {st : Sto} {H H1 : Hp}
theorem ext_of (e : ExtN H H1) (m : ∀ b, H1 b = none → H b = none) : Ext μ H μ H1 := ⟨fun b o _ ho h => e b o h ho, m, ⟨[], by simp, by simp⟩, fun _ h => .inl h, fun _ h => h⟩
theorem lst_ne {vs : List V} (ps : Array Value) : HO.lst vs ≠ .tbl ps := fun z => by cases z
theorem StoR.ofN (s : StoR Z bx μ st H) (e : ExtN H H1) (m : ∀ b, H1 b = none → H b = none) (t : Tabs Z.tabs H1) : StoR Z bx μ st H1 := by
  have x : Ext μ H μ H1 := ext_of e m
  refine ⟨s.len, s.nd, fun i zs h => ?_, fun i k zs h => ?_, s.var, fun i q hq => ?_, s.own, s.vu, t, fun b hb => ?_⟩
  · obtain ⟨q, us, h1, h2, h3⟩ := s.cell i zs h
    exact ⟨q, us, h1, e q _ h2 lst_ne, Reps.ext x h3⟩
  · obtain ⟨q, us, h1, h2, h4, h3⟩ := s.dc i k zs h
    exact ⟨q, us, h1, e q _ h2 (k.ho_ne us), h4, Reps.ext x h3⟩
  · obtain ⟨od, ob, h1, h2, h4, h3⟩ := s.vcs i q hq
    refine ⟨od, ob, h1, e q _ h2 CellO_ne, h4, fun f hf => ?_⟩
    obtain ⟨v, u, q1, q2, q3⟩ := h3 f hf
    exact ⟨v, u, q1, q2, q3.ext x⟩
  · obtain ⟨⟨us, h1⟩, h2⟩ := s.hot b hb
    exact ⟨⟨us, e b _ h1 lst_ne⟩, h2⟩
theorem NxE.ofN (s : StoR Z bx μ st H) (e : ExtN H H1) (m : ∀ b, H1 b = none → H b = none) (t : Tabs Z.tabs H1) : NxE Z bx bs μ st H μ st H1 := by
  refine ⟨⟨ext_of e m, Pres.refl _ _, s.ofN e m t, fun i od hn h => h, fun i a ha => ?_, rfl, rfl, fun b hb => ?_⟩, fun _ _ => rfl⟩
  · obtain ⟨od, ob, h1, h2, _, _⟩ := s.vcs i a ha
    rw [e a _ h2 CellO_ne, h2]
  · obtain ⟨⟨us, h1⟩, _⟩ := s.hot b hb
    rw [e b _ h1 lst_ne, h1]
theorem no_code (s : StoR Z bx μ st H) {p : Addr} {q : Str} (hp : H p = some (CodeO p q)) : μ.no p := by
  refine ⟨fun hm => ?_, fun hm => ?_⟩
  · obtain ⟨n, hn⟩ := List.mem_iff_getElem?.mp hm
    obtain ⟨c0, o0, _, h2, h3⟩ := s.atC hn
    rw [hp] at h2
    exact h3.ne.2.1 _ _ (Option.some.inj h2).symm
  · obtain ⟨⟨us, h1⟩, _⟩ := s.hot p hm
    rw [hp] at h1; unfold CodeO at h1; cases h1
end
theorem simple_def {ps : List Str} {params : Arguments} (h : simpleP ps params = true) (env : PySem.Env) : defaultsOf params env = ([], []) := by
  unfold simpleP at h
  split at h
  · rfl
  · cases h
theorem y_lam {l : Nat} {js : List Nat} {params : Arguments} {body : Expr} {scope : Scope} {lm : LmC} {lmd : Lm} (G : Good Z C c CE X E) (h1 : c.lam = true) (h2 : c.top = true) (h3 : c.g.lmc[l]? = some lm) (h4 : c.g.P.lms[l]? = some lmd) (h5 : lamB lm lmd params c.sc scope = true) (h6 : chkJs c js lm.fr = true)
    (h7 : chkE n (Cf.inL c.g lm scope) lmd.body body = true) : PE X (.Lambda params body scope pos) (YE Z C c CE E (.lam l js)) := by
  refine ⟨fun pins s σ H Q I ⟨ρ, μ, st, fr, h⟩ => ?_⟩
  obtain ⟨cc, P, tb, hcode, hm, hu⟩ := G.lamT h1
  obtain ⟨k1, k2⟩ := G.lok n l lm lmd params body c.sc scope (X.env.qual ++ "<lambda>") h3 h4 h5 h7
  have h5' := h5
  simp only [lamB, Bool.and_eq_true, decide_eq_true_eq, List.all_eq_true, Bool.or_eq_true, Bool.not_eq_true', decide_eq_false_iff_not] at h5'
  obtain ⟨⟨⟨⟨p1, p2⟩, p3⟩, p4⟩, p5⟩ := h5'
  have S := nscope_by p2
  have hfr : ∀ y ∈ scope.names, y.2 = .free → X.env.scope.names.lookup y.1 = some .cell ∨ X.env.scope.names.lookup y.1 = some .free := fun y hy e => by
    rw [G.sc]
    rcases p5 y hy with (z | z) | z
    · exact absurd e z
    · exact .inl z
    · exact .inr z
  have hfree : ∀ y ∈ scope.names, y.2 = .free → ∃ c, X.env.cells.lookup y.1 = some c := fun y hy e => I.ok.has _ (hfr y hy e)
  refine lam_mk I tb hcode hm hu fr.sto.tabs (simple_def p1 _) hfree fun f c' H1 s' J xt mn T1 hf hc => ?_
  refine ⟨.ref f, _, J, rfl, ?_⟩
  simp only [evE] at h
  obtain ⟨e, he, hq⟩ := tR_of fr.sto h
  obtain ⟨cs, hcs, rfl⟩ := Option.map_eq_some_iff.mp he
  obtain ⟨m1, m2⟩ := mapM_at hcs
  have n1 : NxE Z ρ.bx ρ.bs μ st H μ st H1 := NxE.ofN fr.sto xt mn T1
  have nf := n1.sto.fresh hf
  have J0 : HOk X.prog X.w (L2.upd H1 f (lamO f (X.env.qual ++ "<lambda>") params body scope (cloFrom X.env.cells scope.names []) c')) s'.heap := J.hok
  have n2 : NxE Z ρ.bx ρ.bs μ st H1 μ st (L2.upd H1 f (lamO f (X.env.qual ++ "<lambda>") params body scope (cloFrom X.env.cells scope.names []) c')) := Nx.lay n1.sto hf
  have hc2 : (L2.upd H1 f (lamO f (X.env.qual ++ "<lambda>") params body scope (cloFrom X.env.cells scope.names []) c')) c' = some (CodeO c' (X.env.qual ++ "<lambda>")) := by rw [upd_ne (ne_of_none hc hf)]; exact hc
  refine hq _ _ μ (n1.trans n2) (.clo k1 nf (no_code n2.sto hc2) upd_same hc2 ?_ (fun k y m e1 e2 => ?_) (fun y c0 e1 => ?_) fun x y c0 e1 e2 => I.ok.inj x y c0 (clo_cm hfree e1) (clo_cm hfree e2))
  · rw [k2, m1]; exact js_len h6
  · rw [k2] at e1
    obtain ⟨j, i, g1, g2, g3⟩ := js_at h6 e1
    have g4 := m2 k j m g1 e2
    obtain ⟨i', x', c0, b1, b2, b3, b4, _⟩ := fr.box j m g4
    rw [g2] at b1; cases b1
    rw [g3] at b2; cases b2
    have hy : (y, NameKind.free) ∈ scope.names := PySem.mem_of_lookup (S.frk y (List.mem_of_getElem? e1))
    refine ⟨c0, ?_, ?_, .inr b4⟩
    · rw [G.ce h2] at b3
      exact clo_has hfree hy b3
    · rw [fr.sto.len]; exact own_lt fr.sto m (List.mem_of_getElem? g4)
  · rw [k2]
    rcases cloFrom_mem (PySem.mem_of_lookup e1) with z | ⟨z, _⟩
    · cases z
    · exact S.free _ z rfl
end Y
end
section
set_option Elab.async false
set_option linter.all false
set_option maxRecDepth 100000
set_option maxHeartbeats 4000000
set_option autoImplicit false
/-! Y18: every expression that is told. -/
namespace Y
open PySem PySem.Spec PyProof.Rows L2 LamX NdefX
variable {Z : Lk} {C : Cs} {c : Cf} {CE : List (Str × Addr)} {X : Cx} {E : XK} {pos : Pos} {x y z : Expr} {a b d : Y.E} {n : Nat} {k : Nat}
/-- forms whose truth is asked in their own way -/
def ownT : Expr → Bool
  | .UnaryOp .Not _ _ => true | .BoolOp .. => true | .IfExp .. => true | .Compare .. => true
  | _ => false
theorem pt_of (G : Good Z C c CE X E) (h : ownT x = false) (ha : PE X x (YE Z C c CE E a)) : PE X x (YE Z C c CE E a) ∧ PT X x (YT Z C c CE E a) := by
  refine ⟨ha, y_tru G ha fun whole => ?_⟩
  cases x with
  | UnaryOp o _ _ => cases o <;> first | rfl | (simp [ownT] at h)
  | _ => first | rfl | (simp [ownT] at h)
structure IHn (Z : Lk) (C : Cs) (E : XK) (CE : List (Str × Addr)) (n : Nat) : Prop where
  e : ∀ (c : Cf) (X : Cx) (e : Y.E) (py : Expr), Good Z C c CE X E → chkE n c e py = true → PE X py (YE Z C c CE E e) ∧ PT X py (YT Z C c CE E e)
  s : ∀ (c : Cf) (X : Cx) (es : Es) (xs : List Expr), Good Z C c CE X E → chkEs n c es xs = true → PA X xs (YEs Z C c CE E es) ∧ ∀ kws : List Keyword, kws.map (·.value) = xs → xs.all okHead = true → PK X kws (YEs Z C c CE E es)
  o : ∀ (c : Cf) (X : Cx) (o : Oe) (x : Option Expr), Good Z C c CE X E → chkO n c o x = true → PO X x (YO Z C c CE E o)
  i : ∀ (c : Cf) (X : Cx) (it : Y.It) (tg x : Expr), Good Z C c CE X E → chkI n c it (isTup tg) x = true → PI X tg x (YI Z C c CE E it)
  t : ∀ (c : Cf) (X : Cx) (cs : Es) (xs : List Expr), Good Z C c CE X E → chkC n c cs xs = true → PTs X xs (YC Z C c CE E cs)
theorem chk_len : ∀ (n : Nat) (c : Cf) (es : Es) (xs : List Expr), chkEs n c es xs = true → xs.all okHead = true → esLen es = some xs.length
  | 0, _, _, _, h, _ => by simp [chkEs] at h
  | n + 1, c, .nil, [], _, _ => rfl
  | n + 1, c, .cons e r, x :: xs, h, h2 => by
    simp only [chkEs, Bool.and_eq_true] at h
    simp only [List.all_cons, Bool.and_eq_true] at h2
    simp [esLen, chk_len n c r xs h.2 h2.2]
  | n + 1, c, .star e r, x :: xs, h, h2 => by
    simp only [List.all_cons, Bool.and_eq_true] at h2
    cases x <;> first | (simp [chkEs] at h; done) | (simp [okHead] at h2; done)
  | n + 1, c, .nil, _ :: _, h, _ => by simp [chkEs] at h
  | n + 1, c, .cons _ _, [], h, _ => by simp [chkEs] at h
  | n + 1, c, .star _ _, [], h, _ => by simp [chkEs] at h
theorem chkE_head {c : Cf} {e : Y.E} (h : chkE n c e x = true) : okHead x = true := by
  cases n with
  | zero => simp [chkE] at h
  | succ n => simp only [chkE, Bool.and_eq_true] at h; exact h.1
theorem ih_o (n : Nat) (ih : IHn Z C E CE n) : ∀ (c : Cf) (X : Cx) (o : Oe) (x : Option Expr), Good Z C c CE X E → chkO (n + 1) c o x = true → PO X x (YO Z C c CE E o) := by
  intro c X o x G h
  cases o with
  | none =>
    cases x with
    | none => exact y_none
    | some _ => simp [chkO] at h
  | some e =>
    cases x with
    | none => simp [chkO] at h
    | some x =>
      simp only [chkO] at h
      exact y_some (ih.e c X e x G h).1
theorem ih_t (n : Nat) (ih : IHn Z C E CE n) : ∀ (c : Cf) (X : Cx) (cs : Es) (xs : List Expr), Good Z C c CE X E → chkC (n + 1) c cs xs = true → PTs X xs (YC Z C c CE E cs) := by
  intro c X cs xs G h
  unfold chkC at h
  split at h
  · cases h
  · exact y_cnil
  · rename_i n' _ e x hn
    cases hn
    exact y_cone (ih.e _ X _ _ G h).2
  · cases h
theorem ih_s (n : Nat) (ih : IHn Z C E CE n) : ∀ (c : Cf) (X : Cx) (es : Es) (xs : List Expr), Good Z C c CE X E → chkEs (n + 1) c es xs = true → PA X xs (YEs Z C c CE E es) ∧ ∀ kws : List Keyword, kws.map (·.value) = xs → xs.all okHead = true → PK X kws (YEs Z C c CE E es) := by
  intro c X es xs G h
  unfold chkEs at h
  split at h
  · cases h
  · refine ⟨y_nil, fun kws hk _ => ?_⟩
    cases kws with
    | nil => exact y_knil
    | cons _ _ => cases hk
  · rename_i n' _ e r x xs hn
    cases hn
    simp only [Bool.and_eq_true] at h
    obtain ⟨s1, s2⟩ := ih.s _ X _ _ G h.2
    have he := (ih.e _ X _ _ G h.1).1
    refine ⟨y_cons (chkE_head h.1) he s1, fun kws hk ha => ?_⟩
    cases kws with
    | nil => cases hk
    | cons kw kws =>
      obtain ⟨nm, v, p⟩ := kw
      simp only [List.map_cons, List.cons.injEq] at hk
      obtain ⟨rfl, hk⟩ := hk
      simp only [List.all_cons, Bool.and_eq_true] at ha
      exact y_kcons he (s2 kws hk ha.2)
  · rename_i n' _ e r x p xs hn
    cases hn
    simp only [Bool.and_eq_true] at h
    obtain ⟨s1, _⟩ := ih.s _ X _ _ G h.2
    refine ⟨y_star G (ih.e _ X _ _ G h.1).1 s1, fun kws hk ha => ?_⟩
    simp [okHead] at ha
  · cases h
theorem isTup_of (h : isTup x = .tp) : ∃ ts k p, x = .Tuple ts k p := by
  cases x <;> first | exact ⟨_, _, _, rfl⟩ | (simp [isTup] at h)
theorem isNm_of (h : isTup x = .nm) : ∃ y p, x = .Name y p := by
  cases x <;> first | exact ⟨_, _, rfl⟩ | (simp [isTup] at h)
theorem ih_i (n : Nat) (ih : IHn Z C E CE n) : ∀ (c : Cf) (X : Cx) (it : Y.It) (tg x : Expr), Good Z C c CE X E → chkI (n + 1) c it (isTup tg) x = true → PI X tg x (YI Z C c CE E it) := by
  intro c X it tg x G h
  unfold chkI at h
  split at h
  · cases h
  · rename_i n' _ e _ x hn
    cases hn
    exact y_ival G (ih.e _ X _ _ G h).1
  · rename_i n' _ a _ y p x p2 hn
    cases hn
    simp only [Bool.and_eq_true, beq_iff_eq] at h
    obtain ⟨⟨⟨rfl, h2⟩, h3⟩, h4⟩ := h
    exact y_irng G h2 h3 (ih.e _ X _ _ G h4).1
  · rename_i n' _ a b _ y p x z p2 hn
    cases hn
    simp only [Bool.and_eq_true, beq_iff_eq] at h
    obtain ⟨⟨⟨⟨⟨rfl, h2⟩, h3⟩, h4⟩, h5⟩, h6⟩ := h
    exact y_irng2 G h2 h3 h4 (ih.e _ X _ _ G h5).1 (ih.e _ X _ _ G h6).1
  · rename_i n' _ a y p x p2 hn ht
    cases hn
    obtain ⟨ts, k, p3, rfl⟩ := isTup_of ht
    simp only [Bool.and_eq_true, beq_iff_eq] at h
    obtain ⟨⟨⟨rfl, h2⟩, h3⟩, h4⟩ := h
    exact y_ienum G h2 h3 (ih.e _ X _ _ G h4).1
  · rename_i n' _ a b y p x z p2 hn ht
    cases hn
    obtain ⟨ts, k, p3, rfl⟩ := isTup_of ht
    simp only [Bool.and_eq_true, beq_iff_eq] at h
    obtain ⟨⟨⟨⟨⟨rfl, h2⟩, h3⟩, h4⟩, h5⟩, h6⟩ := h
    exact y_izip G h2 h3 h4 (ih.e _ X _ _ G h5).1 (ih.e _ X _ _ G h6).1
  · rename_i n' _ a b y p x z p2 hn ht
    cases hn
    obtain ⟨y', p3, rfl⟩ := isNm_of ht
    simp only [Bool.and_eq_true, beq_iff_eq] at h
    obtain ⟨⟨⟨⟨⟨rfl, h2⟩, h3⟩, h4⟩, h5⟩, h6⟩ := h
    exact y_izipN G h2 h3 h4 (ih.e _ X _ _ G h5).1 (ih.e _ X _ _ G h6).1
  · rename_i n' _ a b d y p x z u p2 hn ht
    cases hn
    obtain ⟨y', p3, rfl⟩ := isNm_of ht
    simp only [Bool.and_eq_true, beq_iff_eq] at h
    obtain ⟨⟨⟨⟨⟨⟨⟨rfl, h2⟩, h3⟩, h4⟩, h5⟩, h6⟩, h7⟩, h8⟩ := h
    exact y_izip3N G h2 h3 h4 h5 (ih.e _ X _ _ G h6).1 (ih.e _ X _ _ G h7).1 (ih.e _ X _ _ G h8).1
  · cases h
theorem any_int {l : List (Str × D)} {x : Str} {i : Int} (h : (l.any fun p => match p with
    | (z, .int j) => z == x && decide (i = j)
    | _ => false) = true) : (x, .int i) ∈ l := by
  obtain ⟨⟨z, e⟩, hm, hp⟩ := List.any_eq_true.mp h
  cases e <;> first | cases hp | skip
  simp only [Bool.and_eq_true, beq_iff_eq, decide_eq_true_eq] at hp
  obtain ⟨rfl, rfl⟩ := hp
  exact hm
theorem any_str {l : List (Str × D)} {x : Str} {i : Str} (h : (l.any fun p => match p with
    | (z, .str j) => z == x && decide (i = j)
    | _ => false) = true) : (x, .str i) ∈ l := by
  obtain ⟨⟨z, e⟩, hm, hp⟩ := List.any_eq_true.mp h
  cases e <;> first | cases hp | skip
  simp only [Bool.and_eq_true, beq_iff_eq, decide_eq_true_eq] at hp
  obtain ⟨rfl, rfl⟩ := hp
  exact hm
theorem keys_len : ∀ {kws : List Keyword} {kn : List Str}, keysOf kws = some kn → kws.length = kn.length
  | [], _, h => by cases h; rfl
  | ⟨some _, _, _⟩ :: r, _, h => by
    obtain ⟨k, h1, rfl⟩ := Option.map_eq_some_iff.mp h
    simp [keys_len h1]
  | ⟨none, _, _⟩ :: _, _, h => by cases h
theorem nil_of {c : Cf} {ks : Es} (h : chkEs n c ks [] = true) : ks = .nil := by
  cases n with
  | zero => simp [chkEs] at h
  | succ n => cases ks <;> first | rfl | (simp [chkEs] at h)
theorem ih_e (n : Nat) (ih : IHn Z C E CE n) (c : Cf) (X : Cx) (e : Y.E) (py : Expr) (G : Good Z C c CE X E) (h : chkE (n + 1) c e py = true) : PE X py (YE Z C c CE E e) ∧ PT X py (YT Z C c CE E e) := by
  unfold chkE at h
  simp only [Bool.and_eq_true] at h
  obtain ⟨hh, h⟩ := h
  split at h
  · exact pt_of G rfl (y_lit h)
  · simp only [Bool.and_eq_true, decide_eq_true_eq] at h
    exact pt_of G rfl (y_var G h.1.1 h.1.2 h.2)
  · split at h
    · rename_i hb
      simp only [Bool.and_eq_true, decide_eq_true_eq] at h
      exact pt_of G rfl (y_box G hb h.1.1 h.1.2 h.2)
    · cases h
  · simp only [Bool.and_eq_true, beq_iff_eq] at h
    obtain ⟨⟨⟨rfl, h2⟩, h3⟩, h4⟩ := h
    exact pt_of G rfl (y_glf G h2 h3 (List.contains_iff_mem.mp h4))
  · simp only [Bool.and_eq_true, beq_iff_eq] at h
    obtain ⟨⟨⟨rfl, h2⟩, h3⟩, h4⟩ := h
    exact pt_of G rfl (y_gli G h2 h3 (any_int h4))
  · simp only [Bool.and_eq_true, beq_iff_eq] at h
    obtain ⟨⟨⟨rfl, h2⟩, h3⟩, h4⟩ := h
    exact pt_of G rfl (y_gls G h2 h3 (any_str h4))
  · exact pt_of G rfl (y_tup (ih.s _ X _ _ G h).1)
  · exact pt_of G rfl (y_lst (ih.s _ X _ _ G h).1)
  · simp only [Bool.and_eq_true, decide_eq_true_eq] at h
    obtain ⟨⟨rfl, h2⟩, h3⟩ := h
    exact pt_of G rfl (y_bin G (ih.e _ X _ _ G h2).1 (ih.e _ X _ _ G h3).1)
  · exact pt_of G rfl (y_neg (ih.e _ X _ _ G h).1)
  · simp only [Bool.and_eq_true, decide_eq_true_eq, Bool.not_eq_true'] at h
    obtain ⟨⟨⟨rfl, h2⟩, h3⟩, h4⟩ := h
    exact ⟨y_cmp G (ih.e _ X _ _ G h2).1 (ih.e _ X _ _ G h3).1 h4, y_cmpT G (ih.e _ X _ _ G h2).1 (ih.e _ X _ _ G h3).1 h4⟩
  · simp only [Bool.and_eq_true, decide_eq_true_eq, Bool.not_eq_true'] at h
    obtain ⟨⟨⟨⟨⟨rfl, rfl⟩, h2⟩, h3⟩, h4⟩, h5⟩ := h
    exact ⟨y_cmp2 G (ih.e _ X _ _ G h2).1 (ih.e _ X _ _ G h3).1 (ih.e _ X _ _ G h4).1 h5, y_cmp2T G (ih.e _ X _ _ G h2).1 (ih.e _ X _ _ G h3).1 (ih.e _ X _ _ G h4).1 h5⟩
  · exact ⟨y_not G (ih.e _ X _ _ G h).1, y_notT (ih.e _ X _ _ G h).2⟩
  · simp only [Bool.and_eq_true] at h
    obtain ⟨h1, h2⟩ := h
    obtain ⟨a1, a2⟩ := ih.e _ X _ _ G h1
    split at h2
    · obtain ⟨b1, b2⟩ := ih.e _ X _ _ G h2
      exact ⟨y_and G a1 (pe_one b1), y_andT a2 (pw_and1 b2)⟩
    · obtain ⟨b1, b2⟩ := ih.e _ X _ _ G h2
      exact ⟨y_and G a1 b1, y_andT a2 (pw_of b2)⟩
  · simp only [Bool.and_eq_true] at h
    obtain ⟨h1, h2⟩ := h
    obtain ⟨a1, a2⟩ := ih.e _ X _ _ G h1
    split at h2
    · obtain ⟨b1, b2⟩ := ih.e _ X _ _ G h2
      exact ⟨y_or G a1 (pe_one b1), y_orT a2 (pw_or1 b2)⟩
    · obtain ⟨b1, b2⟩ := ih.e _ X _ _ G h2
      exact ⟨y_or G a1 b1, y_orT a2 (pw_of b2)⟩
  · simp only [Bool.and_eq_true] at h
    obtain ⟨⟨h1, h2⟩, h3⟩ := h
    obtain ⟨_, c2⟩ := ih.e _ X _ _ G h1
    obtain ⟨a1, a2⟩ := ih.e _ X _ _ G h2
    obtain ⟨b1, b2⟩ := ih.e _ X _ _ G h3
    exact ⟨y_ite c2 a1 b1, y_iteT c2 a2 b2⟩
  · simp only [Bool.and_eq_true] at h
    exact pt_of G rfl (y_idx G (ih.e _ X _ _ G h.1).1 (ih.e _ X _ _ G h.2).1 (chkE_head h.2))
  · simp only [Bool.and_eq_true] at h
    exact pt_of G rfl (y_sl G (ih.e _ X _ _ G h.1.1).1 (ih.o _ X _ _ G h.1.2) (ih.o _ X _ _ G h.2))
  · exact pt_of G rfl (y_rev G (ih.e _ X _ _ G h).1)
  · rename_i f es ks perm nm p1 xs kws p2
    simp only [Bool.and_eq_true] at h
    obtain ⟨⟨⟨⟨h1, h2⟩, h3⟩, h4⟩, h5⟩ := h
    split at h5
    · rename_i kn ps hk hf
      simp only [Bool.and_eq_true, decide_eq_true_eq] at h5
      obtain ⟨⟨⟨⟨⟨g1, g2⟩, g3⟩, g4⟩, g5⟩, g6⟩ := h5
      have hm := List.contains_iff_mem.mp h4
      have hs := List.contains_iff_mem.mp g1
      have ha := (ih.s _ X _ _ G g3).1
      have hl := chk_len _ _ _ _ g3 g5
      refine pt_of G rfl ?_
      cases kws with
      | nil =>
        cases hk
        obtain rfl := nil_of g4
        subst g2
        exact y_call0 G h1 h2 h3 hm hf hs g5 hl ha
      | cons kw kws =>
        have hl2 := chk_len _ _ _ _ g4 g6
        rw [List.length_map] at hl2
        exact y_callK G h1 h2 h3 hm hk hf hs g2 g5 hl (by rw [hl2, keys_len hk]) ha ((ih.s _ X _ _ G g4).2 _ rfl g6)
    · cases h5
  · simp only [Bool.and_eq_true, decide_eq_true_eq] at h
    obtain ⟨⟨⟨⟨⟨h1, h2⟩, h3⟩, h4⟩, h5⟩, h6⟩ := h
    exact pt_of G rfl (y_vcall G h1 h2 h3 h4 h6 (chk_len _ _ _ _ h5 h6) (ih.s _ X _ _ G h5).1)
  · simp only [Bool.and_eq_true, beq_iff_eq] at h
    obtain ⟨⟨⟨⟨⟨rfl, rfl⟩, h2⟩, h3⟩, h4⟩, h5⟩ := h
    exact pt_of G rfl (y_listrange G h2 h3 h4 (ih.e _ X _ _ G h5).1)
  · simp only [Bool.and_eq_true, beq_iff_eq, Bool.not_eq_true'] at h
    obtain ⟨⟨⟨⟨⟨⟨h1, rfl⟩, h2⟩, h3⟩, h4⟩, h5⟩, h6⟩ := h
    rename_i xs _ _
    cases xs with
    | nil => simp at h4
    | cons x0 xs => exact pt_of G rfl (y_bi G h1 h2 h3 h6 (ih.s _ X _ _ G h5).1)
  · simp only [Bool.and_eq_true, beq_iff_eq, Bool.not_eq_true'] at h
    obtain ⟨⟨⟨⟨rfl, h2⟩, h3⟩, h4⟩, h5⟩ := h
    rename_i xs _
    cases xs with
    | nil => simp at h3
    | cons x0 xs => exact pt_of G rfl (y_dof G h2 h5 (ih.s _ X _ _ G h4).1)
  · simp only [Bool.and_eq_true, beq_iff_eq, Bool.not_eq_true'] at h
    obtain ⟨⟨⟨⟨rfl, h2⟩, h3⟩, h4⟩, h5⟩ := h
    rename_i xs _
    cases xs with
    | nil => simp at h3
    | cons x0 xs => exact pt_of G rfl (y_lstm G h2 h5 (ih.s _ X _ _ G h4).1)
  · simp only [Bool.and_eq_true, beq_iff_eq] at h
    obtain ⟨⟨⟨⟨⟨⟨⟨rfl, rfl⟩, _⟩, h2⟩, h3⟩, h4⟩, h5⟩, h6⟩ := h
    exact pt_of G rfl (y_isa G h2 h3 h5 (ih.e _ X _ _ G h6).1)
  · simp only [Bool.and_eq_true, beq_iff_eq] at h
    obtain ⟨⟨⟨⟨⟨rfl, h2⟩, h3⟩, h4⟩, h5⟩, h6⟩ := h
    exact pt_of G rfl (y_app G h4 (beq_iff_eq.mpr h2) h3 (ih.e _ X _ _ G h5).1 (ih.e _ X _ _ G h6).1)
  · simp only [Bool.and_eq_true, beq_iff_eq] at h
    obtain ⟨⟨⟨⟨⟨rfl, h2⟩, h3⟩, h4⟩, h5⟩, h6⟩ := h
    exact pt_of G rfl (y_ext G h4 (beq_iff_eq.mpr h2) h3 (ih.e _ X _ _ G h5).1 (ih.e _ X _ _ G h6).1)
  · exact pt_of G rfl (y_dnewT G)
  · exact pt_of G rfl (y_dnewK G)
  · simp only [Bool.and_eq_true, beq_iff_eq] at h
    obtain ⟨⟨⟨⟨⟨⟨⟨rfl, h2⟩, h3⟩, h4⟩, h5⟩, h6⟩, h7⟩, h8⟩ := h
    exact pt_of G rfl (y_dget G h5 (beq_iff_eq.mpr h2) h3 h4 (ih.e _ X _ _ G h6).1 (ih.e _ X _ _ G h7).1 (ih.e _ X _ _ G h8).1)
  · simp only [Bool.and_eq_true] at h
    obtain ⟨⟨h1, h2⟩, h3⟩ := h
    split at h3
    · rename_i hl hd
      simp only [Bool.and_eq_true] at h3
      exact pt_of G rfl (y_lam G h1 h2 hl hd h3.1.1 h3.1.2 h3.2)
    · cases h3
  · simp only [Bool.and_eq_true, beq_iff_eq] at h
    obtain ⟨⟨⟨⟨⟨⟨⟨⟨h1, h2⟩, h4⟩, h5⟩, h6⟩, h7⟩, h8⟩, h9⟩, h10⟩ := h
    rename_i m own it p cs e elt g scope pos
    obtain ⟨tg, iter, ifs, asy⟩ := g
    subst h8
    have kg : ∀ (s : Shared) (H : Hp) (L : Addr) (cl : List (Str × Addr)) (fp : List Addr), Good Z C (c.blk scope) CE (X.blk s H scope (compEnvC scope cl L X.env) fp) E := fun s H L cl fp => G.blk s H cl L fp
    exact pt_of G rfl (y_comp1 (pos := pos) (m := m) G h1 h2 h5 (ih.i _ X _ _ _ G h6) h4 (fun s H L cl fp => y_pat (kg s H L cl fp) h7) (fun s H L cl fp => ih.t _ _ _ _ (kg s H L cl fp) h9) (fun s H L cl fp => (ih.e _ _ _ _ (kg s H L cl fp) h10).1)).1
  · simp only [Bool.and_eq_true, beq_iff_eq] at h
    obtain ⟨⟨⟨⟨⟨⟨⟨⟨⟨⟨⟨⟨⟨⟨h1, h2⟩, h3⟩, h4⟩, h4'⟩, h5⟩, h6⟩, h7⟩, h8⟩, h9⟩, k6⟩, k7⟩, k8⟩, k9⟩, h10⟩ := h
    rename_i m own it p cs p1 it1 cs1 e elt g g1 scope pos
    obtain ⟨tg, iter, ifs, asy⟩ := g
    obtain ⟨tg1, iter1, ifs1, asy1⟩ := g1
    subst h8 k8
    have kg : ∀ (s : Shared) (H : Hp) (L : Addr) (cl : List (Str × Addr)) (fp : List Addr), Good Z C (c.blk scope) CE (X.blk s H scope (compEnvC scope cl L X.env) fp) E := fun s H L cl fp => G.blk s H cl L fp
    exact pt_of G rfl (y_comp2 (pos := pos) (m := m) G h1 h2 h3 h5 (ih.i _ X _ _ _ G h6) h4 h4' k7 (fun s H L cl fp => y_pat (kg s H L cl fp) h7) (fun s H L cl fp => ih.t _ _ _ _ (kg s H L cl fp) h9) (fun s H L cl fp => ih.i _ _ _ _ _ (kg s H L cl fp) k6) (fun s H L cl fp => y_pat (kg s H L cl fp) k7) (fun s H L cl fp => ih.t _ _ _ _ (kg s H L cl fp) k9) (fun s H L cl fp => (ih.e _ _ _ _ (kg s H L cl fp) h10).1)).1
  · cases h
theorem ih_all : ∀ n : Nat, IHn Z C E CE n
  | 0 => ⟨fun _ _ _ _ _ h => by simp [chkE] at h, fun _ _ _ _ _ h => by simp [chkEs] at h, fun _ _ _ _ _ h => by simp [chkO] at h, fun _ _ _ _ _ _ h => by simp [chkI] at h, fun _ _ _ _ _ h => by simp [chkC] at h⟩
  | n + 1 => ⟨ih_e n (ih_all n), ih_s n (ih_all n), ih_o n (ih_all n), ih_i n (ih_all n), ih_t n (ih_all n)⟩
theorem pe_of (G : Good Z C c CE X E) (h : chkE n c a x = true) : PE X x (YE Z C c CE E a) := ((ih_all n).e c X a x G h).1
theorem pt_chk (G : Good Z C c CE X E) (h : chkE n c a x = true) : PT X x (YT Z C c CE E a) := ((ih_all n).e c X a x G h).2
/-- a list comprehension that goes to a name at once -/
theorem comp_set {elt : Expr} {gs : List Comprehension} {scope : Scope} (G : Good Z C c CE X E) (h : chkE n c a (.ListComp elt gs scope pos) = true) {i : Nat} {y : Str} {py spos : Pos} (g1 : X.N[i]? = some y) (g2 : X.env.scope.names.lookup y = some .local) (g3 : X.env.scope.kind = .function)
    (g4 : (py.line == pos.line) = true) (g5 : (scope.names.any fun (n, k) => n == y && (k == .local || k == .cell)) = false) : PS X (.Assign [.Name y py] (.ListComp elt gs scope pos) spos) (tAsg (YE Z C c CE E a) (gName i)) := by
  cases n with
  | zero => simp [chkE] at h
  | succ n =>
  have ih : IHn Z C E CE n := ih_all n
  unfold chkE at h
  simp only [Bool.and_eq_true] at h
  obtain ⟨hh, h⟩ := h
  split at h
  case h_33 =>
    rename_i m own it p cs e elt1 g scope1 pos1 heq
    cases heq
    simp only [Bool.and_eq_true, beq_iff_eq] at h
    obtain ⟨⟨⟨⟨⟨⟨⟨⟨h1, h2⟩, h4⟩, h5⟩, h6⟩, h7⟩, h8⟩, h9⟩, h10⟩ := h
    obtain ⟨tg, iter, ifs, asy⟩ := g
    subst h8
    have kg : ∀ (s : Shared) (H : Hp) (L : Addr) (cl : List (Str × Addr)) (fp : List Addr), Good Z C (c.blk scope) CE (X.blk s H scope (compEnvC scope cl L X.env) fp) E := fun s H L cl fp => G.blk s H cl L fp
    exact (y_comp1 (pos := pos) (m := m) G h1 h2 h5 (ih.i _ X _ _ _ G h6) h4 (fun s H L cl fp => y_pat (kg s H L cl fp) h7) (fun s H L cl fp => ih.t _ _ _ _ (kg s H L cl fp) h9) (fun s H L cl fp => (ih.e _ _ _ _ (kg s H L cl fp) h10).1)).2 i y py spos g1 g2 g3 g4 g5
  case h_34 =>
    rename_i m own it p cs p1 it1 cs1 e elt1 g g1' scope1 pos1 heq
    cases heq
    simp only [Bool.and_eq_true, beq_iff_eq] at h
    obtain ⟨⟨⟨⟨⟨⟨⟨⟨⟨⟨⟨⟨⟨⟨h1, h2⟩, h3⟩, h4⟩, h4'⟩, h5⟩, h6⟩, h7⟩, h8⟩, h9⟩, k6⟩, k7⟩, k8⟩, k9⟩, h10⟩ := h
    obtain ⟨tg, iter, ifs, asy⟩ := g
    obtain ⟨tg1, iter1, ifs1, asy1⟩ := g1'
    subst h8 k8
    have kg : ∀ (s : Shared) (H : Hp) (L : Addr) (cl : List (Str × Addr)) (fp : List Addr), Good Z C (c.blk scope) CE (X.blk s H scope (compEnvC scope cl L X.env) fp) E := fun s H L cl fp => G.blk s H cl L fp
    exact (y_comp2 (pos := pos) (m := m) G h1 h2 h3 h5 (ih.i _ X _ _ _ G h6) h4 h4' k7 (fun s H L cl fp => y_pat (kg s H L cl fp) h7) (fun s H L cl fp => ih.t _ _ _ _ (kg s H L cl fp) h9) (fun s H L cl fp => ih.i _ _ _ _ _ (kg s H L cl fp) k6) (fun s H L cl fp => y_pat (kg s H L cl fp) k7) (fun s H L cl fp => ih.t _ _ _ _ (kg s H L cl fp) k9) (fun s H L cl fp => (ih.e _ _ _ _ (kg s H L cl fp) h10).1)).2 i y py spos g1 g2 g3 g4 g5
  case h_35 => cases h
  all_goals (rename_i heq; cases heq)
end Y
end
section
set_option Elab.async false
set_option linter.all false
set_option maxRecDepth 100000
set_option maxHeartbeats 4000000
set_option autoImplicit false
/-! Y19: targets, assignments. -/
namespace Y
open PySem PySem.Spec PyProof.Rows L2 LamX NdefX
variable {Z : Lk} {C : Cs} {c : Cf} {CE : List (Str × Addr)} {X : Cx} {E : XK} {pos : Pos} {x y z : Expr} {a b d : Y.E} {n : Nat} {k : Nat}
mutual
def chkT : Nat → Cf → T → Expr → Bool
  | 0, _, _, _ => false
  | _ + 1, c, .name i, .Name x _ => tgB c i x
  | n + 1, c, .sub a i, .Subscript x y _ => chkE n c a x && chkE n c i y
  | n + 1, c, .tup ts, .Tuple xs _ _ => chkTs n c ts xs
  | _ + 1, _, _, _ => false
def chkTs : Nat → Cf → Ts → List Expr → Bool
  | 0, _, _, _ => false
  | _ + 1, _, .nil, [] => true
  | n + 1, c, .cons t r, x :: xs => chkT n c t x && chkTs n c r xs
  | _ + 1, _, _, _ => false
end
/-- what follows where a target has its value -/
def tG (Z : Lk) (N : List Str) (BX : List Nat) (CE : List (Str × Addr)) (ρ : Env) (μ : Mu) (st : Sto) (H : Hp) (r : Res Env) (Q : L2.St → Hp → Prop) : Prop := match r with
  | .ok ρ' st' => ∀ σ' H' μ', Nx Z ρ.bx ρ.bs μ st H μ' st' H' → Fr Z N BX CE σ' ρ' μ' st' H' → Q σ' H'
  | .ex _ _ => False
  | .no => False
def YG (Z : Lk) (C : Cs) (c : Cf) (CE : List (Str × Addr)) (t : T) : TG := fun v σ H Q => ∃ ρ μ st e, Fr Z c.N c.BX CE σ ρ μ st H ∧ Rep Z H μ v e ∧ tG Z c.N c.BX CE ρ μ st H (asT C t e ρ st) Q
def YGs (Z : Lk) (C : Cs) (c : Cf) (CE : List (Str × Addr)) (t : Ts) : TGs := fun vs σ H Q => ∃ ρ μ st es, Fr Z c.N c.BX CE σ ρ μ st H ∧ Reps Z H μ vs es ∧ tG Z c.N c.BX CE ρ μ st H (asTs C t es ρ st) Q
theorem tG_inv {N : List Str} {BX : List Nat} {ρ : Env} {μ : Mu} {st : Sto} {H : Hp} {r : Res Env} {Q : L2.St → Hp → Prop} (h : tG Z N BX CE ρ μ st H r Q) : ∃ ρ' st', r = .ok ρ' st' := by
  cases r with
  | ok ρ' st' => exact ⟨ρ', st', rfl⟩
  | ex _ _ => exact h.elim
  | no => exact h.elim
theorem y_tname {i : Nat} {nm : Str} (G : Good Z C c CE X E) (h : tgB c i nm = true) : PG X (.Name nm pos) (YG Z C c CE (.name i)) := by
  obtain ⟨h1, h2, h3, h4⟩ := tgB_at G h
  refine (pg_name (by exact G.nd) h1 h3 h4).imp fun v σ H Q ⟨ρ, μ, st, e, fr, r, q⟩ => ?_
  simp only [asT] at q
  exact q _ H μ (Nx.refl fr.sto) (fr.set h2 r)
theorem tR_ok' {bx : List Nat} {bs : Nat} {μ : Mu} {st st' : Sto} {H : Hp} {r : Res D} {e : D} {Q : VK} (he : r = .ok e st') (h : ∀ v H' μ', NxE Z bx bs μ st H μ' st' H' → Rep Z H' μ' v e → Q v H') : tR (relD Z) Z E bx bs μ st H r Q := by
  rw [he]; exact h
theorem setI_inv {base : Nat} {o i e : D} {st st' : Sto} {u : Unit} (h : setI base o i e st = .ok u st') : (∃ (m : Nat) (k : Int) (xs : List D) (j : Nat), o = .ref m ∧ i = .int k ∧ st[m]? = some (Cell.lst xs) ∧ L2.ixN xs.length k = some j ∧ wrOk base m e = true ∧ st' = st.set m (.lst (xs.set j e))) ∨
    ∃ (m : Nat) (k k' : DK) (xs xs' : List D), o = .ref m ∧ st[m]? = some (Cell.dct k xs) ∧ k.put xs i e = some (k', xs') ∧ wrOk base m e = true ∧ xs.length < sizeLine ∧ st' = st.set m (.dct k' xs') := by
  cases o with
  | ref m =>
    unfold setI at h
    simp only at h
    cases hs : st[m]? with
    | none => rw [hs] at h; cases h
    | some cl =>
      cases cl with
      | var _ => rw [hs] at h; cases h
      | lst xs =>
        rw [hs] at h
        simp only at h
        split at h
        · rename_i k
          cases hj : L2.ixN xs.length k with
          | none => rw [hj] at h; cases h
          | some j =>
            rw [hj] at h
            simp only at h
            split at h
            · rename_i hw
              cases h
              exact .inl ⟨m, k, xs, j, rfl, rfl, hs, hj, hw, rfl⟩
            · cases h
        · cases h
      | dct k xs =>
        rw [hs] at h
        simp only at h
        split at h
        · rename_i k' xs' hp
          split at h
          · rename_i hw
            simp only [Bool.and_eq_true, decide_eq_true_eq] at hw
            cases h
            exact .inr ⟨m, k, k', xs, xs', rfl, hs, hp, hw.1, hw.2, rfl⟩
          · cases h
        · cases h
  | _ => cases h
theorem set_or {X : Cx} {t u : TSet} (h1 : PSet X t) (h2 : PSet X u) : PSet X fun o i v H Q => t o i v H Q ∨ u o i v H Q := by
  intro pins s σ H o i v ov iv w Q I r1 r2 r3 h
  rcases h with h | h
  · exact h1 pins s σ H o i v ov iv w Q I r1 r2 r3 h
  · exact h2 pins s σ H o i v ov iv w Q I r1 r2 r3 h
theorem olds_zip {α : Type} [DecidableEq α] {bb : Nat} {e : D} {k : α} (he : e.old bb = true) : ∀ (ks : List α) {xs : List D}, D.olds bb xs = true → D.olds bb (List.zipWith (fun a x => if a = k then e else x) ks xs) = true
  | [], _, _ => by simp [D.olds]
  | a :: ks, [], _ => by simp [D.olds]
  | a :: ks, x :: xs, h => by
    simp only [List.zipWith_cons_cons, D.olds, Bool.and_eq_true] at h ⊢
    refine ⟨?_, olds_zip he ks h.2⟩
    by_cases q : a = k
    · rw [if_pos q]; exact he
    · rw [if_neg q]; exact h.1
theorem olds_putKs {α : Type} [DecidableEq α] {bb : Nat} {e : D} {k : α} {ks : List α} {xs : List D} (he : e.old bb = true) (h : D.olds bb xs = true) : D.olds bb (putKs k e ks xs).2 = true := by
  unfold putKs
  split
  · exact olds_zip he ks h
  · exact olds_app h (by simp only [D.olds, Bool.and_true]; exact he)
theorem olds_put {bb : Nat} {k k' : DK} {xs xs' : List D} {i e : D} (hp : k.put xs i e = some (k', xs')) (he : e.old bb = true) (h : D.olds bb xs = true) : D.olds bb xs' = true := by
  cases k <;> cases i <;> simp only [DK.put, Option.map_eq_some_iff] at hp <;> first | (cases hp; done) | (obtain ⟨_, _, h2⟩ := hp; cases h2; exact olds_putKs he h) | (cases hp; exact olds_putKs he h)
theorem olds_set {bb : Nat} {e : D} (he : e.old bb = true) : ∀ {xs : List D} (j : Nat), D.olds bb xs = true → D.olds bb (xs.set j e) = true
  | [], _, h => h
  | x :: xs, 0, h => by
    simp only [List.set_cons_zero, D.olds, Bool.and_eq_true] at h ⊢
    exact ⟨he, h.2⟩
  | x :: xs, j + 1, h => by
    simp only [List.set_cons_succ, D.olds, Bool.and_eq_true] at h ⊢
    exact ⟨h.1, olds_set he j h.2⟩
theorem sub_assign (h : okHead y = true) (env : PySem.Env) (v : Value) : assign (.Subscript x y pos) env v = (do
    let ov ← holding [v] (eval x env)
    let iv ← holding [v, ov] (eval y env)
    standAt pos
    holding [v, ov, iv] (setItem ov iv v)
    release [v, ov, iv] []) := by
  cases y <;> first | rfl | (simp [okHead] at h)
theorem y_tsub {i : Y.E} (hy : okHead y = true) (G : Good Z C c CE X E) (ha : PE X x (YE Z C c CE E a)) (hb : PE X y (YE Z C c CE E i)) : PG X (.Subscript x y pos) (YG Z C c CE (.sub a i)) := by
  have hu : X.A.units + 1 < cLine := by have := G.units; omega
  refine (pg_sub ha hb (set_or set_list (set_dict hu)) (sub_assign hy X.env)).imp fun v σ H Q ⟨ρ, μ, st, e, fr, r, q⟩ => ?_
  obtain ⟨ρ', st', hq⟩ := tG_inv q
  have hq0 := hq
  simp only [asT] at hq0
  obtain ⟨o, st1, e1, hq0⟩ := bind_inv hq0
  obtain ⟨j, st2, e2, hq0⟩ := bind_inv hq0
  obtain ⟨u, st3, e3, hq0⟩ := bind_inv hq0
  rcases setI_inv e3 with ⟨m, kk, xs, jj, rfl, rfl, hs, hj, hw, rfl⟩ | ⟨m, kd, kd', xs, xs', rfl, hs, hj, hw, hz, rfl⟩
  · cases hq0
    rw [hq] at q
    refine ⟨ρ, μ, st, fr, tR_ok' e1 fun ov H1 μ1 n1 r1 => ⟨ρ, μ1, st1, fr.next n1, tR_ok' e2 fun iv H2 μ2 n2 r2 => ?_⟩⟩
    have fr2 := (fr.next n1).next n2
    have r1' := r1.ext n2.ext
    have rv := (r.ext n1.ext).ext n2.ext
    obtain ⟨p, vs, h1, h2, h3⟩ := fr2.sto.cell m xs hs
    cases r2
    cases r1' with
    | ref hp =>
      rw [h1] at hp; cases hp
      refine .inl ⟨_, vs, kk, jj, rfl, rfl, h2, by rw [h3.length]; exact hj, ?_⟩
      have nw := NxE.wr (bs := ρ.bs) fr2.sto h1 hs (h3.set rv jj) (by
        simp only [wrOk, Bool.or_eq_true, decide_eq_true_eq] at hw
        rcases hw with w | w
        · exact .inl w
        · exact .inr (.inr fun bb hbb => olds_set (old_nr e bb w) jj hbb))
      exact q σ _ μ2 (n1.toNx.trans (n2.toNx.trans nw.toNx)) (fr2.next nw)
  · cases hq0
    rw [hq] at q
    refine ⟨ρ, μ, st, fr, tR_ok' e1 fun ov H1 μ1 n1 r1 => ⟨ρ, μ1, st1, fr.next n1, tR_ok' e2 fun iv H2 μ2 n2 r2 => ?_⟩⟩
    have fr2 := (fr.next n1).next n2
    have r1' := r1.ext n2.ext
    have rv := (r.ext n1.ext).ext n2.ext
    obtain ⟨p, vs, h1, h2, h4, h3⟩ := fr2.sto.dc m kd xs hs
    cases r1' with
    | ref hp =>
      rw [h1] at hp; cases hp
      obtain ⟨vs', q1, q2, q3⟩ := put_rel h2 h4 h3 r2 rv hj hz
      refine .inr ⟨_, _, rfl, q1, ?_⟩
      have nw := NxE.wrC (bs := ρ.bs) (c := .dct kd' xs') fr2.sto h1 hs ⟨vs', rfl, q2, q3⟩ (by
        simp only [wrOk, Bool.or_eq_true, decide_eq_true_eq] at hw
        rcases hw with w | w
        · exact .inl w
        · exact .inr (.inr fun bb hbb => olds_put hj (old_nr e bb w) hbb))
      exact q σ _ μ2 (n1.toNx.trans (n2.toNx.trans nw.toNx)) (fr2.next nw)
theorem tG_mono {N : List Str} {BX : List Nat} {ρ : Env} {μ μ1 : Mu} {st st1 : Sto} {H H1 : Hp} {r : Res Env} {Q : L2.St → Hp → Prop} (n : Nx Z ρ.bx ρ.bs μ st H μ1 st1 H1) (h : tG Z N BX CE ρ μ st H r Q) : tG Z N BX CE ρ μ1 st1 H1 r Q := by
  cases r with
  | ok ρ' st' => exact fun σ' H' μ' n' f => h σ' H' μ' (n.trans n') f
  | ex _ _ => exact h
  | no => exact h
theorem tG_bx {N : List Str} {BX : List Nat} {ρ ρ1 : Env} {μ : Mu} {st : Sto} {H : Hp} {r : Res Env} {Q : L2.St → Hp → Prop} (h1 : ρ1.bx = ρ.bx) (h2 : ρ1.bs = ρ.bs) (h : tG Z N BX CE ρ μ st H r Q) : tG Z N BX CE ρ1 μ st H r Q := by
  unfold tG at h ⊢
  rw [h1, h2]
  exact h
theorem y_tnil : PGs X [] (YGs Z C c CE .nil) := pgs_nil.imp fun vs σ H Q ⟨ρ, μ, st, es, fr, r, q⟩ => by
  cases es with
  | nil => cases r; simp only [asTs] at q; exact ⟨rfl, q σ H μ (Nx.refl fr.sto) fr⟩
  | cons _ _ => simp only [asTs] at q; exact q.elim
theorem y_tcons {t : T} {r : Ts} {xs : List Expr} (h1 : PG X x (YG Z C c CE t)) (h2 : PGs X xs (YGs Z C c CE r)) (hs : (assignEach (x :: xs) X.env).map (·.2) = assign x X.env :: (assignEach xs X.env).map (·.2)) : PGs X (x :: xs) (YGs Z C c CE (.cons t r)) := by
  refine (pgs_cons h1 h2 hs).imp fun vs σ H Q ⟨ρ, μ, st, es, fr, rr, q⟩ => ?_
  obtain ⟨ρ', st', hq⟩ := tG_inv q
  cases rr with
  | nil => simp only [asTs] at hq; cases hq
  | @cons v1 vs1 d1 ds1 r1 rr =>
    rw [hq] at q
    simp only [asTs] at hq
    obtain ⟨ρ1, st1, e1, e2⟩ := bind_inv hq
    obtain ⟨b1, b2⟩ := asT_bx t e1
    refine ⟨v1, vs1, rfl, ρ, μ, st, d1, fr, r1, ?_⟩
    rw [e1]
    intro σ1 H1 μ1 n1 fr1
    refine ⟨ρ1, μ1, st1, ds1, fr1, Reps.ext n1.ext rr, ?_⟩
    rw [e2]
    have q1 := tG_bx b1 b2 (tG_mono (r := .ok ρ' st') n1 q)
    exact q1
/-- a form that a target has -/
def tgHead : Expr → Bool
  | .Name .. => true | .Subscript .. => true | .Tuple .. => true
  | _ => false
theorem each_cons {xs : List Expr} {env : PySem.Env} (h : tgHead x = true) : assignEach (x :: xs) env = (false, assign x env) :: assignEach xs env := by
  cases x <;> first | rfl | (simp [tgHead] at h)
theorem chkT_head {t : T} (h : chkT n c t x = true) : tgHead x = true := by
  cases n with
  | zero => simp [chkT] at h
  | succ n => cases t <;> cases x <;> first | rfl | (simp [chkT] at h; done)
theorem each_tg {env : PySem.Env} : ∀ (n : Nat) (c : Cf) (ts : Ts) (xs : List Expr), chkTs n c ts xs = true → (assignEach xs env).findIdx? (·.1) = none ∧ (assignEach xs env).length = xs.length
  | 0, _, _, _, h => by simp [chkTs] at h
  | n + 1, c, .nil, [], _ => ⟨rfl, rfl⟩
  | n + 1, c, .cons t r, x :: xs, h => by
    simp only [chkTs, Bool.and_eq_true] at h
    obtain ⟨h1, h2⟩ := each_tg (env := env) n c r xs h.2
    rw [each_cons (chkT_head h.1)]
    refine ⟨?_, by simp [h2]⟩
    rw [List.findIdx?_cons, h1]; rfl
  | n + 1, c, .nil, _ :: _, h => by simp [chkTs] at h
  | n + 1, c, .cons _ _, [], h => by simp [chkTs] at h
theorem asTs_len {ρ' : Env} {st' : Sto} : ∀ (n : Nat) (c : Cf) (ts : Ts) (xs : List Expr) (es : List D) {ρ : Env} {st : Sto}, chkTs n c ts xs = true → asTs C ts es ρ st = .ok ρ' st' → es.length = xs.length
  | 0, _, _, _, _, _, _, h, _ => by simp [chkTs] at h
  | n + 1, c, .nil, [], [], _, _, _, _ => rfl
  | n + 1, c, .nil, [], _ :: _, _, _, _, h => by simp [asTs] at h
  | n + 1, c, .cons t r, x :: xs, [], _, _, _, h => by simp [asTs] at h
  | n + 1, c, .cons t r, x :: xs, e :: es, _, _, h, h2 => by
    simp only [chkTs, Bool.and_eq_true] at h
    simp only [asTs] at h2
    obtain ⟨ρ1, st1, _, h3⟩ := bind_inv h2
    rw [List.length_cons, List.length_cons, asTs_len n c r xs es h.2 h3]
  | n + 1, c, .nil, _ :: _, _, _, _, h, _ => by simp [chkTs] at h
  | n + 1, c, .cons _ _, [], _, _, _, h, _ => by simp [chkTs] at h
mutual
theorem y_tg (G : Good Z C c CE X E) : ∀ (n : Nat) (t : T) (x : Expr), chkT n c t x = true → PG X x (YG Z C c CE t)
  | 0, _, _, h => by simp [chkT] at h
  | n + 1, .name i, x, h => by
    cases x <;> first
      | (simp only [chkT] at h; exact y_tname G h)
      | (simp [chkT] at h; done)
  | n + 1, .sub a i, x, h => by
    cases x <;> first
      | (simp only [chkT, Bool.and_eq_true] at h; exact y_tsub (chkE_head h.2) G (pe_of G h.1) (pe_of G h.2))
      | (simp [chkT] at h; done)
  | n + 1, .tup ts, x, h => by
    cases x <;> first
      | (simp only [chkT] at h
         obtain ⟨h1, h2⟩ := each_tg (env := X.env) n c ts _ h
         refine (pg_tup G.calm (y_tgs G n ts _ h) h2 h1).imp fun v σ H Q ⟨ρ, μ, st, e, fr, r, q⟩ => ?_
         cases r with
         | tup ht rr =>
           simp only [asT] at q
           obtain ⟨ρ', st', hq⟩ := tG_inv q
           exact ⟨_, _, rfl, by rw [G.K]; exact ht.sqt, by rw [rr.length]; exact asTs_len n c ts _ _ h hq, ρ, μ, st, _, fr, rr, q⟩
         | _ => simp only [asT] at q; exact q.elim)
      | (simp [chkT] at h; done)
  | n + 1, .box _, x, h => by cases x <;> simp [chkT] at h
theorem y_tgs (G : Good Z C c CE X E) : ∀ (n : Nat) (t : Ts) (xs : List Expr), chkTs n c t xs = true → PGs X xs (YGs Z C c CE t)
  | 0, _, _, h => by simp [chkTs] at h
  | n + 1, .nil, [], _ => y_tnil
  | n + 1, .cons t r, x :: xs, h => by
    simp only [chkTs, Bool.and_eq_true] at h
    refine y_tcons (y_tg G n t x h.1) (y_tgs G n r xs h.2) ?_
    rw [each_cons (chkT_head h.1)]; rfl
  | n + 1, .nil, _ :: _, h => by simp [chkTs] at h
  | n + 1, .cons _ _, [], h => by simp [chkTs] at h
end
end Y
end
section
set_option Elab.async false
set_option linter.all false
set_option maxRecDepth 100000
set_option maxHeartbeats 4000000
set_option autoImplicit false
/-! Y20: statements. -/
namespace Y
open PySem PySem.Spec PyProof.Rows L2 LamX NdefX
variable {Z : Lk} {C : Cs} {c : Cf} {CE : List (Str × Addr)} {X : Cx} {E : XK} {pos : Pos} {x y z : Expr} {a b d : Y.E} {n : Nat} {k : Nat}
structure GoodS (Z : Lk) (C : Cs) (c : Cf) (CE : List (Str × Addr)) (X : Cx) (E : XK) : Prop extends Good Z C c CE X E where
  kind : X.env.scope.kind = .function
  po : PassesOwn (model X.prog X.w) X.A X.env X.xe
/-! ### tuples of names, stored from the right -/
def swNames (sc : Scope) (ts : List Expr) : List Str :=
  let line := (ts.head?.map (·.pos.line)).getD 0
  ts.filterMap fun
    | .Name id pos => if sc.names.lookup id == some .local && pos.line == line then some id else none
    | _ => none
def isStar : Expr → Bool
  | .Starred .. => true
  | _ => false
/-- surely not so -/
def swN (sc : Scope) : Expr → Expr → Bool
  | .Tuple ts _ _, .Tuple vs _ _ => (!(ts.length == 2 || ts.length == 3) || vs.length != ts.length) || vs.any isStar || ((swNames sc ts).length != ts.length || (swNames sc ts).eraseDups.length != (swNames sc ts).length) || vs.all (foldedForSure 8)
  | .List .., .Tuple .. => false
  | _, _ => true
def swS (sc : Scope) (ts vs : List Expr) : Bool := (ts.length == 2 || ts.length == 3) && vs.length == ts.length && !vs.any isStar && (swNames sc ts).length == ts.length && (swNames sc ts).eraseDups.length == (swNames sc ts).length && !vs.all (foldedForSure 8) && !vs.all (constantsAlone 8)
theorem star_eq : (fun e : Expr => match e with | .Starred .. => true | _ => false) = isStar := by
  funext e; cases e <;> rfl
theorem blk_kind {env : PySem.Env} (h : env.scope.kind = .function) : env.blockKind = .function := by unfold Env.blockKind; rw [h]; rfl
theorem sw_none {env : PySem.Env} {sc : Scope} (hk : env.scope.kind = .function) (hs : env.scope = sc) (h : swN sc x y = true) : swappedStores [x] y env = pure none := by
  subst hs
  unfold swappedStores
  cases x <;> cases y <;> first | rfl | (simp [swN] at h; done) | skip
  rename_i ts k1 p1 vs k2 p2
  simp only [swN, Bool.or_eq_true] at h
  have hb := blk_kind hk
  by_cases c1 : ((!(ts.length == 2 || ts.length == 3) || vs.length != ts.length) = true)
  · show (if (!(ts.length == 2 || ts.length == 3) || vs.length != ts.length || env.blockKind != .function) = true then pure none else _) = _
    rw [if_pos (by rw [c1]; rfl)]
  · have c1' : ¬ (!(ts.length == 2 || ts.length == 3) || vs.length != ts.length || env.blockKind != .function) = true := by
      rw [hb]; simpa using c1
    show (if (!(ts.length == 2 || ts.length == 3) || vs.length != ts.length || env.blockKind != .function) = true then pure none else _) = _
    rw [if_neg c1']
    by_cases c2 : vs.any isStar = true
    · show (if (vs.any fun e : Expr => match e with | .Starred .. => true | _ => false) = true then pure none else _) = _
      rw [star_eq, if_pos c2]
    · show (if (vs.any fun e : Expr => match e with | .Starred .. => true | _ => false) = true then pure none else _) = _
      rw [star_eq, if_neg c2]
      show (if ((swNames env.scope ts).length != ts.length || (swNames env.scope ts).eraseDups.length != (swNames env.scope ts).length) = true then pure none else _) = _
      by_cases c3 : ((swNames env.scope ts).length != ts.length || (swNames env.scope ts).eraseDups.length != (swNames env.scope ts).length) = true
      · rw [if_pos c3]
      · rw [if_neg c3]
        have c4 : vs.all (foldedForSure 8) = true := by
          rcases h with ((h | h) | h) | h
          · exact absurd (by simpa using h) c1
          · exact absurd h c2
          · exact absurd (by simpa using h) c3
          · exact h
        show (if vs.all (foldedForSure 8) = true then pure none else _) = _
        rw [if_pos c4]
theorem sw_some {env : PySem.Env} {sc : Scope} {ts vs : List Expr} {k1 k2 : Nat} {p1 p2 : Pos} (hk : env.scope.kind = .function) (hs : env.scope = sc) (h : swS sc ts vs = true) : swappedStores [.Tuple ts k1 p1] (.Tuple vs k2 p2) env = pure (some (swNames sc ts)) := by
  subst hs
  simp only [swS, Bool.and_eq_true, Bool.not_eq_true'] at h
  obtain ⟨⟨⟨⟨⟨⟨h1, h2⟩, h3⟩, h4⟩, h5⟩, h6⟩, h7⟩ := h
  have hb := blk_kind hk
  unfold swappedStores
  show (if (!(ts.length == 2 || ts.length == 3) || vs.length != ts.length || env.blockKind != .function) = true then pure none else _) = _
  rw [if_neg (by rw [hb, h1]; simp only [bne, h2]; decide)]
  show (if (vs.any fun e : Expr => match e with | .Starred .. => true | _ => false) = true then pure none else _) = _
  rw [star_eq, if_neg (by rw [h3]; decide)]
  show (if ((swNames env.scope ts).length != ts.length || (swNames env.scope ts).eraseDups.length != (swNames env.scope ts).length) = true then pure none else _) = _
  rw [if_neg (by simp only [bne, h4, h5]; decide)]
  show (if vs.all (foldedForSure 8) = true then pure none else _) = _
  rw [if_neg (by rw [h6]; decide)]
  show (if vs.all (constantsAlone 8) = true then _ else _) = _
  rw [if_neg (by rw [h7]; decide)]
  rfl
/-! ### the block of a comprehension swapped -/
def okV : Expr → Bool
  | .SetComp .. => false | .DictComp .. => false
  | _ => true
def isComp : Expr → Bool
  | .ListComp .. => true
  | _ => false
/-- whether a comprehension's new list goes to the name at once -/
def swB (sc : Scope) : Expr → Expr → Bool
  | .Name t tp, .ListComp _ _ s p => decide (sc.names.lookup t = some .local) && tp.line == p.line && !(s.names.any fun (n, k) => n == t && (k == .local || k == .cell))
  | _, _ => false
theorem swB_eq {env : PySem.Env} {sc : Scope} {l : Nat} (hk : env.scope.kind = .function) (hs : env.scope = sc) (hv : okV y = true) (h : swB sc x y = false) : swapsWith y (some x) l env = pure false := by
  subst hs
  have hb := blk_kind hk
  cases y <;> first | rfl | (simp [okV] at hv; done) | skip
  rename_i elt gs s p
  cases x <;> first | rfl | skip
  rename_i t tp
  unfold swapsWith
  simp only [swB] at h
  show pure (env.blockKind == .function && env.kindOf t == some .local && tp.line == p.line && !(s.names.any fun (n, k) => n == t && (k == .local || k == .cell))) = _
  rw [hb]
  have e : (env.kindOf t == some NameKind.local) = decide (env.scope.names.lookup t = some .local) := by
    show (env.scope.names.lookup t == some NameKind.local) = _
    by_cases hq : env.scope.names.lookup t = some .local
    · rw [hq]; rfl
    · simp [hq]
  rw [e]
  simp only [beq_self_eq_true, Bool.true_and]
  rw [h]
/-! ### what a statement's end means -/
def tF (Z : Lk) (N : List Str) (BX : List Nat) (CE : List (Str × Addr)) (ρ : Env) (μ : Mu) (st : Sto) (H : Hp) (fl : Fl) (D : Ends) : Prop := match fl with
  | .nx ρ' st' => ∀ σ' H' μ', Nx Z ρ.bx ρ.bs μ st H μ' st' H' → Fr Z N BX CE σ' ρ' μ' st' H' → D.nx σ' H'
  | .rt d st' => ∀ v H' μ', Nx Z ρ.bx ρ.bs μ st H μ' st' H' → Rep Z H' μ' v d → D.rt v H'
  | .ex _ _ _ => False
  | .no => False
def YS (Z : Lk) (C : Cs) (c : Cf) (CE : List (Str × Addr)) (s : S) : TS := fun D σ H => ∃ ρ μ st, Fr Z c.N c.BX CE σ ρ μ st H ∧ tF Z c.N c.BX CE ρ μ st H (evS C s ρ st) D
def YSs (Z : Lk) (C : Cs) (c : Cf) (CE : List (Str × Addr)) (s : Ss) : TS := fun D σ H => ∃ ρ μ st, Fr Z c.N c.BX CE σ ρ μ st H ∧ tF Z c.N c.BX CE ρ μ st H (evSs C s ρ st) D
theorem _root_.L2.PS.imp {X : Cx} {s : Stmt} {t t' : TS} (h : PS X s t) (i : ∀ D σ H, t' D σ H → t D σ H) : PS X s t' := ⟨fun pins s σ H D I q => h.run pins s σ H D I (i D σ H q)⟩
theorem _root_.L2.PSs.imp {X : Cx} {s : List Stmt} {t t' : TS} (h : PSs X s t) (i : ∀ D σ H, t' D σ H → t D σ H) : PSs X s t' := ⟨fun pins s σ H D I q => h.run pins s σ H D I (i D σ H q)⟩
section
variable {N : List Str} {BX : List Nat} {ρ ρ1 : Env} {μ μ1 : Mu} {st st1 : Sto} {H H1 : Hp} {D D' : Ends}
theorem tF_later {fl : Fl} (n : Nx Z ρ.bx ρ.bs μ st H μ1 st1 H1) (h : tF Z N BX CE ρ μ st H fl D) : tF Z N BX CE ρ μ1 st1 H1 fl D := by
  cases fl with
  | nx ρ' st' => exact fun σ' H' μ' n' f => h σ' H' μ' (n.trans n') f
  | rt d st' => exact fun v H' μ' n' f => h v H' μ' (n.trans n') f
  | ex _ _ _ => exact h
  | no => exact h
theorem tF_bx {fl : Fl} (h1 : ρ1.bx = ρ.bx) (h2 : ρ1.bs = ρ.bs) (h : tF Z N BX CE ρ μ st H fl D) : tF Z N BX CE ρ1 μ st H fl D := by
  unfold tF at h ⊢
  rw [h1, h2]
  exact h
theorem tF_mono {fl : Fl} (h : tF Z N BX CE ρ μ st H fl D) (hn : ∀ σ H, D.nx σ H → D'.nx σ H) (hr : ∀ v H, D.rt v H → D'.rt v H) : tF Z N BX CE ρ μ st H fl D' := by
  cases fl with
  | nx ρ' st' => exact fun σ' H' μ' n' f => hn _ _ (h σ' H' μ' n' f)
  | rt d st' => exact fun v H' μ' n' f => hr _ _ (h v H' μ' n' f)
  | ex _ _ _ => exact h
  | no => exact h
/-- a value, then the rest -/
theorem tF_E {sem : Env → Sto → Res Y.D} {k : Y.D → Sto → Fl} {σ : L2.St} {Q : VK} (fr : Fr Z c.N c.BX CE σ ρ μ st H) (h : tF Z c.N c.BX CE ρ μ st H ((sem ρ st).fl ρ k) D)
    (hk : ∀ v H1 e st1 μ1, NxE Z ρ.bx ρ.bs μ st H μ1 st1 H1 → Fr Z c.N c.BX CE σ ρ μ1 st1 H1 → Rep Z H1 μ1 v e → tF Z c.N c.BX CE ρ μ1 st1 H1 (k e st1) D → Q v H1) : tE Z c.N c.BX CE E sem σ H Q := by
  refine ⟨ρ, μ, st, fr, ?_⟩
  cases e : sem ρ st with
  | ok d st' =>
    rw [e] at h
    exact fun v H' μ' n q => hk v H' d st' μ' n (fr.next n) q (tF_later n.toNx h)
  | ex x st' => rw [e] at h; exact h.elim
  | no => rw [e] at h; exact h.elim
theorem tF_T {sem : Env → Sto → Res Bool} {k : Bool → Sto → Fl} {σ : L2.St} {Q : Bool → Hp → Prop} (fr : Fr Z c.N c.BX CE σ ρ μ st H) (h : tF Z c.N c.BX CE ρ μ st H ((sem ρ st).fl ρ k) D)
    (hk : ∀ b H1 st1 μ1, NxE Z ρ.bx ρ.bs μ st H μ1 st1 H1 → Fr Z c.N c.BX CE σ ρ μ1 st1 H1 → tF Z c.N c.BX CE ρ μ1 st1 H1 (k b st1) D → Q b H1) : tT Z c.N c.BX CE E sem σ H Q := by
  refine ⟨ρ, μ, st, fr, ?_⟩
  cases e : sem ρ st with
  | ok d st' =>
    rw [e] at h
    refine fun v H' μ' n q => ?_
    have q' : v = d := q
    subst q'
    exact hk v H' st' μ' n (fr.next n) (tF_later n.toNx h)
  | ex x st' => rw [e] at h; exact h.elim
  | no => rw [e] at h; exact h.elim
end
theorem asg_imp {t : T} {e : Y.E} {D : Ends} {σ : L2.St} {H : Hp} (h : YS Z C c CE (.asg t e) D σ H) : tAsg (YE Z C c CE E e) (YG Z C c CE t) D σ H := by
  obtain ⟨ρ, μ, st, fr, h⟩ := h
  simp only [evS] at h
  refine tF_E (sem := fun ρ st => evE C ρ e st) fr h fun v H1 e1 st1 μ1 n1 fr1 r1 h1 => ⟨ρ, μ1, st1, e1, fr1, r1, ?_⟩
  cases e2 : asT C t e1 ρ st1 with
  | ok ρ' st' => rw [e2] at h1; exact fun σ' H' μ' n f => h1 σ' H' μ' n f
  | ex _ _ => rw [e2] at h1; exact h1.elim
  | no => rw [e2] at h1; exact h1.elim
theorem y_asg {m : Nat} {t : T} {e : Y.E} (G : GoodS Z C c CE X E) (he : chkE n c e y = true) (ht : chkT m c t x = true) (hv : okV y = true) (hb : swB c.sc x y = false) (hn : swN c.sc x y = true) : PS X (.Assign [x] y pos) (YS Z C c CE (.asg t e)) := by
  refine (ps_asg (pe_of G.toGood he) (y_tg G.toGood m t x ht) (swB_eq G.kind G.sc hv hb) (sw_none G.kind G.sc hn) ?_).imp fun D σ H h => asg_imp h
  rw [each_cons (chkT_head ht)]; rfl
theorem y_asgC {i : Nat} {nm : Str} {e : Y.E} {elt : Expr} {gs : List Comprehension} {scope : Scope} {py p2 : Pos} (G : GoodS Z C c CE X E) (he : chkE n c e (.ListComp elt gs scope p2) = true) (ht : tgB c i nm = true) (hb : swB c.sc (.Name nm py) (.ListComp elt gs scope p2) = true) :
    PS X (.Assign [.Name nm py] (.ListComp elt gs scope p2) pos) (YS Z C c CE (.asg (.name i) e)) := by
  simp only [swB, Bool.and_eq_true, decide_eq_true_eq, Bool.not_eq_true'] at hb
  obtain ⟨h1, h2, h3, h4⟩ := tgB_at G.toGood ht
  refine (comp_set G.toGood he (spos := pos) h1 (by rw [G.sc]; exact hb.1.1) G.kind hb.1.2 hb.2).imp fun D σ H h => ?_
  obtain ⟨ρ, μ, st, fr, h⟩ := h
  simp only [evS] at h
  refine tF_E (sem := fun ρ st => evE C ρ e st) fr h fun v H1 e1 st1 μ1 n1 fr1 r1 h1 => ?_
  simp only [asT] at h1
  exact h1 _ H1 μ1 (Nx.refl fr1.sto) (fr1.set h2 r1)
theorem y_ex {e : Y.E} (G : GoodS Z C c CE X E) (he : chkE n c e x = true) (hc : isComp x = false) (hv : okV x = true) : PS X (.Expr x pos) (YS Z C c CE (.ex e)) := by
  refine (ps_expr (pe_of G.toGood he) ?_).imp fun D σ H ⟨ρ, μ, st, fr, h⟩ => ?_
  · cases x <;> first | rfl | (simp [isComp] at hc; done) | (simp [okV] at hv; done)
  · simp only [evS] at h
    exact tF_E (sem := fun ρ st => evE C ρ e st) fr h fun v H1 e1 st1 μ1 n1 fr1 r1 h1 => h1 σ H1 μ1 (Nx.refl fr1.sto) fr1
theorem y_ret {e : Y.E} (G : GoodS Z C c CE X E) (he : chkE n c e x = true) : PS X (.Return (some x) pos) (YS Z C c CE (.ret e)) := by
  refine (ps_ret (pe_of G.toGood he)).imp fun D σ H ⟨ρ, μ, st, fr, h⟩ => ?_
  simp only [evS] at h
  exact tF_E (sem := fun ρ st => evE C ρ e st) fr h fun v H1 e1 st1 μ1 n1 fr1 r1 h1 => h1 v H1 μ1 (Nx.refl fr1.sto) r1
theorem y_retN : PS X (.Return none pos) (YS Z C c CE .retN) := ps_retN.imp fun D σ H ⟨ρ, μ, st, fr, h⟩ => by
  simp only [evS] at h
  exact h .non H μ (Nx.refl fr.sto) .non
theorem y_pass : PS X (.Pass pos) (YS Z C c CE .pass) := ps_pass.imp fun D σ H ⟨ρ, μ, st, fr, h⟩ => by
  simp only [evS] at h
  exact h σ H μ (Nx.refl fr.sto) fr
theorem y_raise {cl : Nat} {es : Es} {s : Stmt} : PS X s (YS Z C c CE (.raise cl es)) := ps_never.imp fun D σ H ⟨ρ, μ, st, fr, h⟩ => by
  simp only [evS] at h
  cases e : evEs C ρ es st with
  | ok xs st' =>
    rw [e] at h
    simp only [Res.fl_ok] at h
    split at h
    · exact h.elim
    · split at h <;> exact h.elim
    · exact h.elim
  | ex _ _ => rw [e] at h; exact h.elim
  | no => rw [e] at h; exact h.elim
theorem y_snil : PSs X [] (YSs Z C c CE .nil) := pss_nil.imp fun D σ H ⟨ρ, μ, st, fr, h⟩ => by
  simp only [evSs] at h
  exact h σ H μ (Nx.refl fr.sto) fr
theorem y_scons {s : S} {r : Ss} {t : Stmt} {ts : List Stmt} (h1 : PS X t (YS Z C c CE s)) (h2 : PSs X ts (YSs Z C c CE r)) : PSs X (t :: ts) (YSs Z C c CE (.cons s r)) := by
  refine (pss_cons h1 h2).imp fun D σ H ⟨ρ, μ, st, fr, h⟩ => ?_
  simp only [evSs] at h
  refine ⟨ρ, μ, st, fr, ?_⟩
  cases e : evS C s ρ st with
  | nx ρ1 st1 =>
    rw [e, Fl.then_nx] at h
    obtain ⟨b1, b2⟩ := evS_bx s e
    exact fun σ1 H1 μ1 n1 fr1 => ⟨ρ1, μ1, st1, fr1, tF_bx b1 b2 (tF_later n1 h)⟩
  | rt d st1 => rw [e, Fl.then_rt] at h; exact h
  | ex _ _ _ => rw [e] at h; exact h
  | no => rw [e] at h; exact h
theorem y_if {e : Y.E} {s1 s2 : Ss} {t1 t2 : List Stmt} (G : GoodS Z C c CE X E) (he : chkE n c e x = true) (h1 : PSs X t1 (YSs Z C c CE s1)) (h2 : PSs X t2 (YSs Z C c CE s2)) : PS X (.If x t1 t2 pos) (YS Z C c CE (.iff e s1 s2)) := by
  refine (ps_if (pt_chk G.toGood he) h1 h2).imp fun D σ H ⟨ρ, μ, st, fr, h⟩ => ?_
  simp only [evS] at h
  refine tF_T (sem := fun ρ st => tru (evE C ρ e st)) fr h fun b H1 st1 μ1 n1 fr1 q => ?_
  cases b with
  | true => exact ⟨ρ, μ1, st1, fr1, q⟩
  | false => exact ⟨ρ, μ1, st1, fr1, q⟩
end Y
end
section
set_option Elab.async false
set_option linter.all false
set_option maxRecDepth 100000
set_option maxHeartbeats 4000000
set_option autoImplicit false
/-! Y21: loops; every statement that is told. -/
namespace Y
open PySem PySem.Spec PyProof.Rows L2 LamX NdefX
variable {Z : Lk} {C : Cs} {c : Cf} {CE : List (Str × Addr)} {X : Cx} {E : XK} {pos : Pos} {x y z : Expr} {a b d : Y.E} {n : Nat} {k : Nat}
theorem Nx.bx {bx bx' : List Nat} {bs bs' : Nat} {μ μ' : Mu} {st st' : Sto} {H H' : Hp} (h1 : bx' = bx) (h2 : bs' = bs) (n : Nx Z bx bs μ st H μ' st' H') : Nx Z bx' bs' μ st H μ' st' H' := by rw [h1, h2]; exact n
theorem y_for {it : Y.It} {p : Pt} {s : Ss} {tg iter : Expr} {body : List Stmt} (G : GoodS Z C c CE X E) (hi : PI X tg iter (YI Z C c CE E it)) (hs : okHead iter = true) (hg : PG X tg (YP Z c CE p)) (hb : PSs X body (YSs Z C c CE s)) : PS X (.For tg iter body [] pos) (YS Z C c CE (.for_ p it s)) := by
  refine (ps_for G.po G.calm hi hg hb (foldSet_of hs X.env)).imp fun D σ H ⟨ρ, μ, st, fr, h⟩ => ?_
  simp only [evS] at h
  refine ⟨ρ, μ, st, fr, ?_⟩
  simp only []
  cases e0 : evI C ρ it st with
  | ex _ _ => rw [e0] at h; exact h.elim
  | no => rw [e0] at h; exact h.elim
  | ok src st1 =>
  rw [e0, Res.fl_ok, for_N] at h
  intro J H1 μ1 n1 wk
  have fr1 := fr.next n1
  have h := tF_later n1.toNx h
  generalize e1 : forN (fun d ρ st => match bindP ρ p d with
      | some ρ => evSs C s ρ st
      | none => Fl.no) src src.len 0 ρ st1 = fl0 at h
  refine ⟨fun i k σ' H' => ∃ ρ' μ' st', Fr Z c.N c.BX CE σ' ρ' μ' st' H' ∧ Nx Z ρ.bx ρ.bs μ1 st1 H1 μ' st' H' ∧ ρ'.bx = ρ.bx ∧ ρ'.bs = ρ.bs ∧ forN (fun d ρ st => match bindP ρ p d with
      | some ρ => evSs C s ρ st
      | none => Fl.no) src k i ρ' st' = fl0, ⟨src.len, ρ, μ1, st1, fr1, Nx.refl fr1.sto, rfl, rfl, e1⟩, ?_⟩
  rintro i k σ2 H2 ⟨ρ2, μ2, st2, fr2, n2, b1, b2, eq⟩
  have s2 : StoR Z ρ.bx μ2 st2 H2 := by rw [← b1]; exact fr2.sto
  have w := wk μ2 st2 H2 n2.ext s2 i
  cases k with
  | zero =>
    left
    simp only [forN] at eq
    by_cases hend : srcEnd st2 src i = true
    · rw [if_pos hend] at eq
      subst eq
      exact ⟨w.2 hend, h σ2 H2 μ2 n2 fr2⟩
    · rw [if_neg hend] at eq
      subst eq
      exact h.elim
  | succ k =>
    right
    simp only [forN] at eq
    cases hx : srcAt st2 src i with
    | none => rw [hx] at eq; subst eq; exact h.elim
    | some dx =>
    rw [hx] at eq
    obtain ⟨wg, wy⟩ := w.1 dx hx
    refine ⟨wg, fun σ' H' => ∃ ρ' μ' st', Fr Z c.N c.BX CE σ' ρ' μ' st' H' ∧ Nx Z ρ.bx ρ.bs μ1 st1 H1 μ' st' H' ∧ ρ'.bx = ρ.bx ∧ ρ'.bs = ρ.bs ∧ forN (fun d ρ st => match bindP ρ p d with
      | some ρ => evSs C s ρ st
      | none => Fl.no) src k (i + 1) ρ' st' = fl0, fun σ' H' hq => ⟨k, Nat.lt_succ_self k, hq⟩, fun v H3 hy => ?_⟩
    obtain ⟨μ3, n3, r3⟩ := wy v H3 hy
    have n3' : NxE Z ρ2.bx ρ2.bs μ2 st2 H2 μ3 st2 H3 := by rw [b1, b2]; exact n3
    refine ⟨ρ2, μ3, st2, dx, fr2.next n3', r3, ?_⟩
    simp only at eq
    cases hbp : bindP ρ2 p dx with
    | none => rw [hbp] at eq; simp only [Fl.then_no] at eq; subst eq; exact h.elim
    | some ρ3 =>
    rw [hbp] at eq
    simp only at eq
    obtain ⟨d1, d2⟩ := bindP_bx hbp
    intro σ3 fr3 _
    refine ⟨ρ3, μ3, st2, fr3, ?_⟩
    have n23 := n2.trans n3.toNx
    cases es : evSs C s ρ3 st2 with
    | nx ρ4 st4 =>
      rw [es, Fl.then_nx] at eq
      obtain ⟨f1, f2⟩ := evSs_bx s es
      intro σ4 H4 μ4 n4 fr4
      exact ⟨ρ4, μ4, st4, fr4, n23.trans (n4.bx (d1.trans b1).symm (d2.trans b2).symm), (f1.trans d1).trans b1, (f2.trans d2).trans b2, eq⟩
    | rt d st4 =>
      rw [es, Fl.then_rt] at eq
      subst eq
      exact fun v4 H4 μ4 n4 r4 => h v4 H4 μ4 (n23.trans (n4.bx (d1.trans b1).symm (d2.trans b2).symm)) r4
    | ex _ _ _ => rw [es, Fl.then_ex] at eq; subst eq; exact h.elim
    | no => rw [es, Fl.then_no] at eq; subst eq; exact h.elim
theorem y_whl {e : Y.E} {s : Ss} {body : List Stmt} (G : GoodS Z C c CE X E) (he : chkE n c e x = true) (hb : PSs X body (YSs Z C c CE s)) : PS X (.While x body [] pos) (YS Z C c CE (.whl e s)) := by
  refine (ps_while G.po (pt_chk G.toGood he) hb).imp fun D σ H ⟨ρ, μ, st, fr, h⟩ => ?_
  simp only [evS] at h
  generalize e1 : whlN (fun ρ st => tru (evE C ρ e st)) (evSs C s) C.fuel ρ st = fl0 at h
  refine ⟨fun k σ' H' => ∃ ρ' μ' st', Fr Z c.N c.BX CE σ' ρ' μ' st' H' ∧ Nx Z ρ.bx ρ.bs μ st H μ' st' H' ∧ ρ'.bx = ρ.bx ∧ ρ'.bs = ρ.bs ∧ whlN (fun ρ st => tru (evE C ρ e st)) (evSs C s) k ρ' st' = fl0, ⟨C.fuel, ρ, μ, st, fr, Nx.refl fr.sto, rfl, rfl, e1⟩, ?_⟩
  rintro k σ2 H2 ⟨ρ2, μ2, st2, fr2, n2, b1, b2, eq⟩
  cases k with
  | zero => simp only [whlN] at eq; subst eq; exact h.elim
  | succ k =>
    simp only [whlN] at eq
    refine ⟨ρ2, μ2, st2, fr2, ?_⟩
    simp only []
    cases et : tru (evE C ρ2 e st2) with
    | ex _ _ => rw [et] at eq; simp only [Res.fl_ex] at eq; subst eq; exact h.elim
    | no => rw [et] at eq; simp only [Res.fl_no] at eq; subst eq; exact h.elim
    | ok kb st3 =>
      rw [et, Res.fl_ok] at eq
      rintro kb' H3 μ3 n3 rfl
      have fr3 := fr2.next n3
      have n23 := n2.trans (n3.toNx.bx b1.symm b2.symm)
      cases kb' with
      | false =>
        simp only [Bool.false_eq_true, if_false] at eq ⊢
        subst eq
        exact h σ2 H3 μ3 n23 fr3
      | true =>
        simp only [if_true] at eq ⊢
        refine ⟨fun σ' H' => ∃ ρ' μ' st', Fr Z c.N c.BX CE σ' ρ' μ' st' H' ∧ Nx Z ρ.bx ρ.bs μ st H μ' st' H' ∧ ρ'.bx = ρ.bx ∧ ρ'.bs = ρ.bs ∧ whlN (fun ρ st => tru (evE C ρ e st)) (evSs C s) k ρ' st' = fl0, fun σ' H' hq => ⟨k, Nat.lt_succ_self k, hq⟩, ρ2, μ3, st3, fr3, ?_⟩
        cases es : evSs C s ρ2 st3 with
        | nx ρ4 st4 =>
          rw [es, Fl.then_nx] at eq
          obtain ⟨f1, f2⟩ := evSs_bx s es
          intro σ4 H4 μ4 n4 fr4
          exact ⟨ρ4, μ4, st4, fr4, n23.trans (n4.bx b1.symm b2.symm), f1.trans b1, f2.trans b2, eq⟩
        | rt d st4 =>
          rw [es, Fl.then_rt] at eq
          subst eq
          exact fun v4 H4 μ4 n4 r4 => h v4 H4 μ4 (n23.trans (n4.bx b1.symm b2.symm)) r4
        | ex _ _ _ => rw [es, Fl.then_ex] at eq; subst eq; exact h.elim
        | no => rw [es, Fl.then_no] at eq; subst eq; exact h.elim
theorem pa_of {es : Es} {xs : List Expr} (G : Good Z C c CE X E) (h : chkEs n c es xs = true) : PA X xs (YEs Z C c CE E es) := ((ih_all n).s c X es xs G h).1
/-- the values of a written tuple, each to its name -/
theorem tF_tup {es : Es} {t : T} {D : Ends} {σ : L2.St} {H : Hp} {ρ : Env} {μ : Mu} {st : Sto} (fr : Fr Z c.N c.BX CE σ ρ μ st H) (h : tF Z c.N c.BX CE ρ μ st H (evS C (.asg t (.tup es)) ρ st) D) {Q : List V → Hp → Prop}
    (hk : ∀ vs H1 ds st1 μ1, NxE Z ρ.bx ρ.bs μ st H μ1 st1 H1 → Fr Z c.N c.BX CE σ ρ μ1 st1 H1 → Reps Z H1 μ1 vs ds → tF Z c.N c.BX CE ρ μ1 st1 H1 ((asT C t (.tup ds) ρ st1).fl ρ fun ρ st => .nx ρ st) D → Q vs H1) : YEs Z C c CE E es σ H Q := by
  refine ⟨ρ, μ, st, fr, ?_⟩
  simp only [evS, evE] at h
  show tR (relDs Z) Z E ρ.bx ρ.bs μ st H (evEs C ρ es st) Q
  cases e : evEs C ρ es st with
  | ok ds st1 =>
    rw [e, Res.bind_ok] at h
    split at h
    · exact fun vs H1 μ1 n1 r1 => hk vs H1 ds st1 μ1 n1 (fr.next n1) r1 (tF_later n1.toNx h)
    · exact h.elim
  | ex _ _ => rw [e] at h; exact h.elim
  | no => rw [e] at h; exact h.elim
theorem loc_of {i : Nat} {nm : Str} (G : Good Z C c CE X E) (h : tgB c i nm = true) (hl : c.sc.names.lookup nm = some .local) : X.N[i]? = some nm ∧ c.BX.contains i = false ∧ X.env.scope.names.lookup nm = some .local := by
  obtain ⟨h1, h2, _, _⟩ := tgB_at G h
  exact ⟨h1, h2, by rw [G.sc]; exact hl⟩
theorem y_par2 {i j k1 k2 : Nat} {u v : Str} {p1 p2 p3 p4 : Pos} {es : Es} {a b : Expr} (G : GoodS Z C c CE X E) (he : chkEs n c es [a, b] = true) (h1 : tgB c i u = true) (h2 : tgB c j v = true) (l1 : c.sc.names.lookup u = some .local) (l2 : c.sc.names.lookup v = some .local) (hij : i ≠ j)
    (hs : swS c.sc [.Name u p1, .Name v p2] [a, b] = true) (hn : swNames c.sc [.Name u p1, .Name v p2] = [u, v]) :
    PS X (.Assign [.Tuple [.Name u p1, .Name v p2] k1 p3] (.Tuple [a, b] k2 p4) pos) (YS Z C c CE (.asg (.tup (.cons (.name i) (.cons (.name j) .nil))) (.tup es))) := by
  obtain ⟨a1, a2, a3⟩ := loc_of G.toGood h1 l1
  obtain ⟨b1, b2, b3⟩ := loc_of G.toGood h2 l2
  refine (ps_par G.calm (by exact G.nd) a1 b1 hij a3 b3 (pa_of G.toGood he) (by rw [sw_some G.kind G.sc hs, hn]) rfl).imp fun D σ H ⟨ρ, μ, st, fr, h⟩ => ?_
  refine tF_tup fr h fun vs H1 ds st1 μ1 n1 fr1 r1 h1 => ?_
  cases r1 with
  | nil => simp only [asT, asTs] at h1; exact h1.elim
  | cons q1 r1 =>
    cases r1 with
    | nil => simp only [asT, asTs, Res.bind_ok] at h1; exact h1.elim
    | cons q2 r1 =>
      cases r1 with
      | cons _ _ => simp only [asT, asTs, Res.bind_ok] at h1; exact h1.elim
      | nil =>
        simp only [asT, asTs, Res.bind_ok] at h1
        exact ⟨_, _, rfl, h1 _ H1 μ1 (Nx.refl fr1.sto) ((fr1.set a2 q1).set b2 q2)⟩
theorem y_par3 {i j l k1 k2 : Nat} {u v w : Str} {p1 p2 p3 p4 p5 : Pos} {es : Es} {a b d : Expr} (G : GoodS Z C c CE X E) (he : chkEs n c es [a, b, d] = true) (h1 : tgB c i u = true) (h2 : tgB c j v = true) (h3 : tgB c l w = true) (l1 : c.sc.names.lookup u = some .local) (l2 : c.sc.names.lookup v = some .local) (l3 : c.sc.names.lookup w = some .local)
    (hij : i ≠ j) (hil : i ≠ l) (hjl : j ≠ l) (hs : swS c.sc [.Name u p1, .Name v p2, .Name w p3] [a, b, d] = true) (hn : swNames c.sc [.Name u p1, .Name v p2, .Name w p3] = [u, v, w]) :
    PS X (.Assign [.Tuple [.Name u p1, .Name v p2, .Name w p3] k1 p4] (.Tuple [a, b, d] k2 p5) pos) (YS Z C c CE (.asg (.tup (.cons (.name i) (.cons (.name j) (.cons (.name l) .nil)))) (.tup es))) := by
  obtain ⟨a1, a2, a3⟩ := loc_of G.toGood h1 l1
  obtain ⟨b1, b2, b3⟩ := loc_of G.toGood h2 l2
  obtain ⟨d1, d2, d3⟩ := loc_of G.toGood h3 l3
  refine (ps_par3 G.calm (by exact G.nd) a1 b1 d1 hij hil hjl a3 b3 d3 (pa_of G.toGood he) (by rw [sw_some G.kind G.sc hs, hn]) rfl).imp fun D σ H ⟨ρ, μ, st, fr, h⟩ => ?_
  refine tF_tup fr h fun vs H1 ds st1 μ1 n1 fr1 r1 h1 => ?_
  cases r1 with
  | nil => simp only [asT, asTs] at h1; exact h1.elim
  | cons q1 r1 =>
    cases r1 with
    | nil => simp only [asT, asTs, Res.bind_ok] at h1; exact h1.elim
    | cons q2 r1 =>
      cases r1 with
      | nil => simp only [asT, asTs, Res.bind_ok] at h1; exact h1.elim
      | cons q3 r1 =>
        cases r1 with
        | cons _ _ => simp only [asT, asTs, Res.bind_ok] at h1; exact h1.elim
        | nil =>
          simp only [asT, asTs, Res.bind_ok] at h1
          exact ⟨_, _, _, rfl, h1 _ H1 μ1 (Nx.refl fr1.sto) (((fr1.set a2 q1).set b2 q2).set d2 q3)⟩
/-! ### every statement -/
def isDoc : Expr → Bool
  | .Constant (.str _) _ _ => true
  | _ => false
mutual
def chkS : Nat → Cf → S → Stmt → Bool
  | 0, _, _, _ => false
  | n + 1, c, s, py => match s, py with
    | .asg t e, .Assign [tg] v _ => okV v && (match t, tg, v with
      | .name i, .Name nm p, .ListComp elt gs scope p2 => if swB c.sc (.Name nm p) (.ListComp elt gs scope p2) then chkE n c e (.ListComp elt gs scope p2) && tgB c i nm else chkE n c e (.ListComp elt gs scope p2) && tgB c i nm && decide (0 < n)
      | .tup (.cons (.name i) (.cons (.name j) .nil)), .Tuple [.Name u p1, .Name w p2] k1 p3, .Tuple [x, y] k2 p4 => if swN c.sc (.Tuple [.Name u p1, .Name w p2] k1 p3) (.Tuple [x, y] k2 p4) then chkE n c e (.Tuple [x, y] k2 p4) && chkT n c t tg else (match e with
        | .tup es => chkEs n c es [x, y] && tgB c i u && tgB c j w && decide (c.sc.names.lookup u = some .local) && decide (c.sc.names.lookup w = some .local) && decide (i ≠ j) && swS c.sc [.Name u p1, .Name w p2] [x, y] && decide (swNames c.sc [.Name u p1, .Name w p2] = [u, w])
        | _ => false)
      | .tup (.cons (.name i) (.cons (.name j) (.cons (.name l) .nil))), .Tuple [.Name u p1, .Name w p2, .Name q p5] k1 p3, .Tuple [x, y, z] k2 p4 => if swN c.sc (.Tuple [.Name u p1, .Name w p2, .Name q p5] k1 p3) (.Tuple [x, y, z] k2 p4) then chkE n c e (.Tuple [x, y, z] k2 p4) && chkT n c t tg else (match e with
        | .tup es => chkEs n c es [x, y, z] && tgB c i u && tgB c j w && tgB c l q && decide (c.sc.names.lookup u = some .local) && decide (c.sc.names.lookup w = some .local) && decide (c.sc.names.lookup q = some .local) && decide (i ≠ j) && decide (i ≠ l) && decide (j ≠ l) && swS c.sc [.Name u p1, .Name w p2, .Name q p5] [x, y, z] && decide (swNames c.sc [.Name u p1, .Name w p2, .Name q p5] = [u, w, q])
        | _ => false)
      | t, tg, v => chkE n c e v && chkT n c t tg && !swB c.sc tg v && swN c.sc tg v)
    | .ex e, .Expr x _ => chkE n c e x && !isComp x && okV x
    | .pass, .Expr x _ => isDoc x
    | .ret e, .Return (some x) _ => chkE n c e x
    | .retN, .Return none _ => true
    | .iff e a b, .If x p q _ => chkE n c e x && chkSs n c a p && chkSs n c b q
    | .for_ p it b, .For tg iter body [] _ => chkI n c it (isTup tg) iter && okHead iter && chkP c p tg && chkSs n c b body
    | .whl e b, .While x body [] _ => chkE n c e x && chkSs n c b body
    | .raise _ _, .Raise .. => true
    | .pass, .Pass _ => true
    | _, _ => false
def chkSs : Nat → Cf → Ss → List Stmt → Bool
  | 0, _, _, _ => false
  | _ + 1, _, .nil, [] => true
  | n + 1, c, .cons s r, x :: xs => chkS n c s x && chkSs n c r xs
  | _ + 1, _, _, _ => false
end
theorem pi_chk {it : Y.It} {tg : Expr} (G : Good Z C c CE X E) (h : chkI n c it (isTup tg) x = true) : PI X tg x (YI Z C c CE E it) := (ih_all n).i c X it tg x G h
mutual
theorem y_stmt (G : GoodS Z C c CE X E) : ∀ (n : Nat) (s : S) (py : Stmt), chkS n c s py = true → PS X py (YS Z C c CE s)
  | 0, _, _, h => by simp [chkS] at h
  | n + 1, s, py, h => by
    unfold chkS at h
    split at h
    · simp only [Bool.and_eq_true] at h
      obtain ⟨hv, h⟩ := h
      split at h
      · split at h
        · rename_i hb
          simp only [Bool.and_eq_true] at h
          exact y_asgC G h.1 h.2 hb
        · rename_i hb
          simp only [Bool.and_eq_true, decide_eq_true_eq] at h
          obtain ⟨m, rfl⟩ : ∃ m, n = m + 1 := ⟨n - 1, by omega⟩
          exact y_asg (m := m + 1) G h.1.1 (by simp only [chkT]; exact h.1.2) hv (by simpa using hb) rfl
      · split at h
        · rename_i hb
          simp only [Bool.and_eq_true] at h
          exact y_asg G h.1 h.2 hv rfl hb
        · split at h
          · simp only [Bool.and_eq_true, decide_eq_true_eq] at h
            obtain ⟨⟨⟨⟨⟨⟨⟨g1, g2⟩, g3⟩, g4⟩, g5⟩, g6⟩, g7⟩, g8⟩ := h
            exact y_par2 G g1 g2 g3 g4 g5 g6 g7 g8
          · cases h
      · split at h
        · rename_i hb
          simp only [Bool.and_eq_true] at h
          exact y_asg G h.1 h.2 hv rfl hb
        · split at h
          · simp only [Bool.and_eq_true, decide_eq_true_eq] at h
            obtain ⟨⟨⟨⟨⟨⟨⟨⟨⟨⟨⟨g1, g2⟩, g3⟩, g3'⟩, g4⟩, g5⟩, g5'⟩, g6⟩, g6'⟩, g6''⟩, g7⟩, g8⟩ := h
            exact y_par3 G g1 g2 g3 g3' g4 g5 g5' g6 g6' g6'' g7 g8
          · cases h
      · simp only [Bool.and_eq_true, Bool.not_eq_true'] at h
        exact y_asg G h.1.1.1 h.1.1.2 hv h.1.2 h.2
    · simp only [Bool.and_eq_true, Bool.not_eq_true'] at h
      exact y_ex G h.1.1 h.1.2 h.2
    · rename_i x _
      refine PS.imp (t := tNext) ?_ fun D σ H ⟨ρ, μ, st, fr, h⟩ => ?_
      · cases x <;> first | (simp [isDoc] at h; done) | skip
        rename_i q _ _
        cases q <;> first | exact ps_doc | (simp [isDoc] at h; done)
      · simp only [evS] at h
        exact h σ H μ (Nx.refl fr.sto) fr
    · exact y_ret G h
    · exact y_retN
    · simp only [Bool.and_eq_true] at h
      exact y_if G h.1.1 (y_stmts G n _ _ h.1.2) (y_stmts G n _ _ h.2)
    · simp only [Bool.and_eq_true] at h
      obtain ⟨⟨⟨g1, g2⟩, g3⟩, g4⟩ := h
      exact y_for G (pi_chk G.toGood g1) g2 (y_pat G.toGood g3) (y_stmts G n _ _ g4)
    · simp only [Bool.and_eq_true] at h
      exact y_whl G h.1 (y_stmts G n _ _ h.2)
    · exact y_raise
    · exact y_pass
    · cases h
theorem y_stmts (G : GoodS Z C c CE X E) : ∀ (n : Nat) (s : Ss) (py : List Stmt), chkSs n c s py = true → PSs X py (YSs Z C c CE s)
  | 0, _, _, h => by simp [chkSs] at h
  | n + 1, .nil, [], _ => y_snil
  | n + 1, .cons s r, x :: xs, h => by
    simp only [chkSs, Bool.and_eq_true] at h
    exact y_scons (y_stmt G n s x h.1) (y_stmts G n r xs h.2)
  | n + 1, .nil, _ :: _, h => by simp [chkSs] at h
  | n + 1, .cons _ _, [], h => by simp [chkSs] at h
end
end Y
end
section
set_option Elab.async false
set_option linter.all false
set_option maxRecDepth 100000
set_option maxHeartbeats 4000000
set_option autoImplicit false
/-! Y22: entering and leaving a frame, in our own relation. -/
namespace Y
open PySem PySem.Spec PyProof.Rows L2 LamX NdefX
def Lk.at (Z : Lk) (o : List (Nat × Addr)) : Lk := { Z with ow := o }
/-- what values are made of -/
inductive Kn (q : Addr) : HO → Prop
  | lst (vs : List V) : Kn q (.lst vs)
  | tup (vs : List V) : Kn q (.tup vs)
  | dct (k : DK) (vs : List V) : Kn q (k.ho vs)
  | frz (w : Obj) (u : HO) : Kn q (.frz w u)
  | lam (n : Str) (params : Arguments) (body : Expr) (scope : Scope) (cl : List (Str × Addr)) (c' : Addr) : Kn q (lamO q n params body scope cl c')
  | code (n : Str) : Kn q (CodeO q n)
section
variable {Z : Lk} {o o' : List (Nat × Addr)} {H H' : Hp} {μ μ' : Mu}
/-- the same values, seen from another frame -/
structure Move (Z : Lk) (o : List (Nat × Addr)) (H : Hp) (μ : Mu) (o' : List (Nat × Addr)) (H' : Hp) (μ' : Mu) : Prop where
  no : ∀ q u, Kn q u → H q = some u → μ.no q → μ'.no q ∧ H' q = some u
  m : ∀ (i : Nat) (a : Addr), μ.m[i]? = some (some a) → μ'.m[i]? = some (some a)
  c : ∀ n c, CAt (Z.at o) μ n c → CAt (Z.at o') μ' n c
theorem LsAt.move (v : Move Z o H μ o' H' μ') {p : Addr} {vs : List V} (h : LsAt Z.K H μ p vs) : LsAt Z.K H' μ' p vs := by
  rcases h with ⟨hn, h | ⟨w, h⟩⟩ | h
  · obtain ⟨q1, q2⟩ := v.no p _ (.lst _) h hn
    exact .inl ⟨q1, .inl q2⟩
  · obtain ⟨q1, q2⟩ := v.no p _ (.frz _ _) h hn
    exact .inl ⟨q1, .inr ⟨w, q2⟩⟩
  · exact .inr h
theorem TpAt.move (v : Move Z o H μ o' H' μ') {p : Addr} {vs : List V} (h : TpAt Z.K H μ p vs) : TpAt Z.K H' μ' p vs := by
  obtain ⟨q1, q2⟩ := v.no p _ (.tup _) h.2 h.1
  exact ⟨q1, q2⟩
theorem DcAt.move (v : Move Z o H μ o' H' μ') {p : Addr} {k : DK} {vs : List V} (h : DcAt H μ p k vs) : DcAt H' μ' p k vs := by
  obtain ⟨q1, q2⟩ := v.no p _ (.dct k vs) h.2.1 h.1
  exact ⟨q1, q2, h.2.2⟩
mutual
theorem Rep.move (m : Move Z o H μ o' H' μ') : ∀ {v : V} {d : D}, Rep (Z.at o) H μ v d → Rep (Z.at o') H' μ' v d
  | _, _, .non => .non
  | _, _, .bl b => .bl b
  | _, _, .int i => .int i
  | _, _, .str x => .str x
  | _, _, .tup h r => .tup (h.move m) (Reps.move m r)
  | _, _, .lst h r => .lst (h.move m) (Reps.move m r)
  | _, _, .dct h r => .dct (h.move m) (Reps.move m r)
  | _, _, .ref h => .ref (m.m _ _ h)
  | _, _, .fn h => .fn h
  | _, _, .clo h1 n1 n2 h2 h3 h4 h5 h6 h7 => .clo h1 (m.no _ _ (.lam _ _ _ _ _ _) h2 n1).1 (m.no _ _ (.code _) h3 n2).1 (m.no _ _ (.lam _ _ _ _ _ _) h2 n1).2 (m.no _ _ (.code _) h3 n2).2 h4
      (fun k y n a b => by
        obtain ⟨c, p, q⟩ := h5 k y n a b
        exact ⟨c, p, m.c n c q⟩) h6 h7
theorem Reps.move (m : Move Z o H μ o' H' μ') : ∀ {vs : List V} {ds : List D}, Reps (Z.at o) H μ vs ds → Reps (Z.at o') H' μ' vs ds
  | _, _, .nil => .nil
  | _, _, .cons h r => .cons (h.move m) (Reps.move m r)
end
theorem StoR.old {bx : List Nat} {st : Sto} (s : StoR Z bx μ st H) : OldC st.length st := fun i c hi h => by
  cases c with
  | var _ => rfl
  | lst xs =>
    obtain ⟨a, vs, h1, h2, h3⟩ := s.cell i xs h
    show D.olds st.length xs = true
    rw [← s.len]
    exact Reps.old h3
  | dct k xs =>
    obtain ⟨a, vs, h1, h2, h4, h3⟩ := s.dc i k xs h
    show D.olds st.length xs = true
    rw [← s.len]
    exact Reps.old h3
end
/-! ### leaving -/
section
variable {Z : Lk} {ow : List (Nat × Addr)} {H H' : Hp} {μ μ2 μ' : Mu} {st st2 st' : Sto} {nb : Nat}
/-- at a frame's end: where it began (μ, st, H), its own cells behind (nb of them), what it reached (μ', st', H') -/
structure Left (Z : Lk) (ow : List (Nat × Addr)) (nb : Nat) (μ : Mu) (st : Sto) (H : Hp) (μ' : Mu) (st' : Sto) (H' : Hp) : Prop where
  s : StoR (Z.at []) [] μ st H
  own : ∀ p ∈ ow, st.length ≤ p.1
  len : st.length ≤ st'.length
  pre : ∃ m, μ'.m = μ.m ++ m ∧ ∀ b, some b ∈ m → H b = none
  keep : ∀ b u, μ.no b → (∀ ps, u ≠ .tbl ps) → H b = some u → H' b = some u
  mono : ∀ b, H' b = none → H b = none
  vce : μ'.vc = μ.vc
  hots : μ'.hot = μ.hot ∧ ∀ b ∈ μ.hot, H' b = H b
  old : ∀ b, b ≤ st.length → OldC b st → OldC b st'
  vars : ∀ (n : Nat) (od : Option D), n < st.length → st[n]? = some (Cell.var od) → st'[n]? = some (Cell.var od)
  cells : ∀ (n : Nat) (a : Addr), (n, a) ∈ μ.vc → H' a = H a
  s' : ∃ bx, StoR (Z.at ow) bx μ' st' H'
theorem take_lt {α : Type} {l : List α} {n i : Nat} {x : α} (h : (l.take n)[i]? = some x) : i < n ∧ l[i]? = some x := by
  have := (List.getElem?_eq_some_iff.mp h).1
  rw [List.length_take] at this
  have hi : i < n := by omega
  rw [List.getElem?_take_of_lt hi] at h
  exact ⟨hi, h⟩
theorem Left.cutm (l : Left Z ow nb μ st H μ' st' H') : (μ'.cut st.length).m = μ.m := by
  obtain ⟨m, e, _⟩ := l.pre
  show μ'.m.take st.length = μ.m
  rw [e, ← l.s.len, List.take_left]
/-- what is old is seen from outside as well -/
theorem Left.move (l : Left Z ow nb μ st H μ' st' H') : Move Z ow H' (μ'.cut st.length) [] H' (μ'.cut st.length) := by
  refine ⟨fun q u _ h n => ⟨n, h⟩, fun i a h => h, fun n c h => ⟨h.1, ?_⟩⟩
  rcases h.2 with z | z
  · exact .inl z
  · have h1 := l.own _ z
    have h2 : n < (μ'.cut st.length).m.length := h.1
    rw [l.cutm, l.s.len] at h2
    simp only at h1
    omega
theorem Left.rep (l : Left Z ow nb μ st H μ' st' H') {v : V} {d : D} (r : Rep (Z.at ow) H' μ' v d) (ho : d.old st.length = true) : Rep (Z.at []) H' (μ'.cut st.length) v d := (r.cut st.length ho).move l.move
theorem Left.reps (l : Left Z ow nb μ st H μ' st' H') {v : List V} {d : List D} (r : Reps (Z.at ow) H' μ' v d) (ho : D.olds st.length d = true) : Reps (Z.at []) H' (μ'.cut st.length) v d := Reps.move l.move (Reps.cut st.length r ho)
theorem Left.nx (l : Left Z ow nb μ st H μ' st' H') : NxE (Z.at []) [] st.length μ st H (μ'.cut st.length) (st'.take st.length) H' := by
  obtain ⟨bx, s'⟩ := l.s'
  have lt : (st'.take st.length).length = st.length := by rw [List.length_take]; have := l.len; omega
  have oc : OldC st.length st' := l.old _ (Nat.le_refl _) l.s.old
  have at' : ∀ {i : Nat} {x : Cell}, (st'.take st.length)[i]? = some x → i < st.length ∧ st'[i]? = some x := fun h => take_lt h
  refine ⟨⟨⟨l.keep, l.mono, ⟨[], by rw [l.cutm]; simp, by simp⟩, fun b hb => .inl (by have := l.hots.1; simp only [Mu.cut] at hb; rw [this] at hb; exact hb), fun p hp => by show p ∈ μ'.vc; rw [l.vce]; exact hp⟩, ⟨by rw [lt]; exact Nat.le_refl _, fun b hb h i c hi e => ?_⟩, ?_, fun n od _ h => ?_, l.cells, l.vce, l.hots⟩, fun n hn => absurd hn (by simp)⟩
  · obtain ⟨_, e'⟩ := at' e
    exact l.old b hb h i c hi e'
  · refine ⟨by rw [l.cutm, lt]; exact l.s.len, fun i j a h1 h2 => ?_, fun n xs h => ?_, fun n k xs h => ?_, fun n od h => ?_, fun n a h => ?_, fun n hn => absurd hn (by simp), ⟨s'.vu.inj, s'.vu.one, fun n a hn => absurd hn (by simp)⟩, s'.tabs, fun b hb => ?_⟩
    · exact s'.nd i j a (take_lt h1).2 (take_lt h2).2
    · obtain ⟨hn, h'⟩ := at' h
      obtain ⟨a, vs, h1, h2, h3⟩ := s'.cell n xs h'
      refine ⟨a, vs, ?_, h2, l.reps h3 (oc n _ hn h')⟩
      show (μ'.m.take st.length)[n]? = _
      rw [List.getElem?_take_of_lt hn]; exact h1
    · obtain ⟨hn, h'⟩ := at' h
      obtain ⟨a, vs, h1, h2, h4, h3⟩ := s'.dc n k xs h'
      refine ⟨a, vs, ?_, h2, h4, l.reps h3 (oc n _ hn h')⟩
      show (μ'.m.take st.length)[n]? = _
      rw [List.getElem?_take_of_lt hn]; exact h1
    · obtain ⟨hn, h'⟩ := at' h
      show (μ'.m.take st.length)[n]? = _
      rw [List.getElem?_take_of_lt hn]; exact s'.var n od h'
    · have h0 : (n, a) ∈ μ.vc := by rw [← l.vce]; exact h
      obtain ⟨od0, o0, a1, a2, a3, a4⟩ := l.s.vcs n a h0
      obtain ⟨od, ob, h1, h2, h4, h3⟩ := s'.vcs n a h
      have hn : n < st.length := (List.getElem?_eq_some_iff.mp a1).1
      have hv := l.vars n od0 hn a1
      rw [hv] at h1; cases h1
      refine ⟨od0, ob, by rw [List.getElem?_take_of_lt hn]; exact hv, h2, h4, fun d hd => ?_⟩
      obtain ⟨v, u, q1, q2, q3⟩ := h3 d hd
      obtain ⟨v0, u0, _, _, p3⟩ := a4 d hd
      have ho := p3.old
      rw [l.s.len] at ho
      exact ⟨v, u, q1, q2, l.rep q3 ho⟩
    · obtain ⟨h1, h2⟩ := s'.hot b hb
      exact ⟨h1, fun z => h2 (List.mem_of_mem_take z)⟩
  · have hn : n < st.length := (List.getElem?_eq_some_iff.mp h).1
    rw [List.getElem?_take_of_lt hn]
    exact l.vars n od hn h
mutual
theorem frz_rep (l : Left Z ow nb μ st H μ' st' H') : ∀ {v : V} {d e : D}, Rep (Z.at ow) H' μ' v d → frz st.length st' d = some e → Rep (Z.at []) H' (μ'.cut st.length) v e
  | _, _, _, .non, h => by simp only [frz] at h; cases h; exact .non
  | _, _, _, .bl b, h => by simp only [frz] at h; cases h; exact .bl b
  | _, _, _, .int b, h => by simp only [frz] at h; cases h; exact .int b
  | _, _, _, .str b, h => by simp only [frz] at h; cases h; exact .str b
  | _, _, _, .fn b, h => by simp only [frz] at h; cases h; exact .fn b
  | _, _, _, .tup t r, h => by
    simp only [frz] at h
    obtain ⟨ys, h1, rfl⟩ := Option.map_eq_some_iff.mp h
    exact .tup (TpAt.move l.move (t.cut st.length)) (frzs_rep l r h1)
  | _, _, _, .lst t r, h => by
    simp only [frz] at h
    obtain ⟨ys, h1, rfl⟩ := Option.map_eq_some_iff.mp h
    exact .lst (LsAt.move l.move (t.cut st.length)) (frzs_rep l r h1)
  | _, _, _, .dct t r, h => by
    simp only [frz] at h
    obtain ⟨ys, h1, rfl⟩ := Option.map_eq_some_iff.mp h
    exact .dct (DcAt.move l.move (t.cut st.length)) (frzs_rep l r h1)
  | _, _, _, .ref (n := n) hm, h => by
    simp only [frz] at h
    split at h
    · rename_i hn
      cases h
      exact l.rep (.ref hm) (by simp only [D.old, decide_eq_true_eq]; exact hn)
    · rename_i hn
      obtain ⟨bx, s'⟩ := l.s'
      split at h
      · rename_i xs hs
        split at h
        · rename_i hr
          cases h
          obtain ⟨a, vs, h1, h2, h3⟩ := s'.cell n xs hs
          rw [hm] at h1; cases h1
          refine .lst (.inl ⟨⟨fun z => ?_, fun z => ?_⟩, .inl h2⟩) (l.reps h3 (olds_nr xs _ hr))
          · obtain ⟨i, hi⟩ := List.mem_iff_getElem?.mp z
            obtain ⟨hi', e⟩ := take_lt (show (μ'.m.take st.length)[i]? = _ from hi)
            have := s'.nd i n _ e hm
            omega
          · exact (s'.hot _ z).2 (List.mem_of_getElem? hm)
        · cases h
      · rename_i k xs hs
        split at h
        · rename_i hr
          cases h
          obtain ⟨a, vs, h1, h2, h4, h3⟩ := s'.dc n k xs hs
          rw [hm] at h1; cases h1
          refine .dct ⟨⟨fun z => ?_, fun z => ?_⟩, h2, h4⟩ (l.reps h3 (olds_nr xs _ hr))
          · obtain ⟨i, hi⟩ := List.mem_iff_getElem?.mp z
            obtain ⟨hi', e⟩ := take_lt (show (μ'.m.take st.length)[i]? = _ from hi)
            have := s'.nd i n _ e hm
            omega
          · exact (s'.hot _ z).2 (List.mem_of_getElem? hm)
        · cases h
      · cases h
  | _, _, _, .clo (cs := cs) h1 n1 n2 h2 h3 h4 h5 h6 h7, h => by
    simp only [frz] at h
    split at h
    · rename_i hn
      cases h
      exact l.rep (.clo h1 n1 n2 h2 h3 h4 h5 h6 h7) (by simp only [D.old]; exact hn)
    · cases h
theorem frzs_rep (l : Left Z ow nb μ st H μ' st' H') : ∀ {vs : List V} {ds es : List D}, Reps (Z.at ow) H' μ' vs ds → frzs st.length st' ds = some es → Reps (Z.at []) H' (μ'.cut st.length) vs es
  | _, _, _, .nil, h => by simp only [frzs] at h; cases h; exact .nil
  | _, _, _, .cons r rr, h => by
    simp only [frzs] at h
    split at h
    · rename_i h1 h2
      cases h
      exact .cons (frz_rep l r h1) (frzs_rep l rr h2)
    · cases h
end
end
/-- places below base, seen from outside -/
structure Down (ow : List (Nat × Addr)) (base : Nat) (μ μ' : Mu) : Prop where
  no : ∀ q, μ.no q → μ'.no q
  m : ∀ (i : Nat) (oa : Option Addr), i < base → μ.m[i]? = some oa → μ'.m[i]? = some oa
  vc : ∀ p, p ∈ μ.vc → p ∈ μ'.vc
  own : ∀ p ∈ ow, base ≤ p.1
  len : base ≤ μ'.m.length
section
variable {Z : Lk} {ow : List (Nat × Addr)} {H : Hp} {μ μ' : Mu} {base : Nat}
mutual
theorem Rep.down (w : Down ow base μ μ') : ∀ {v : V} {d : D}, Rep (Z.at ow) H μ v d → d.old base = true → Rep (Z.at []) H μ' v d
  | _, _, .non, _ => .non
  | _, _, .bl b, _ => .bl b
  | _, _, .int b, _ => .int b
  | _, _, .str b, _ => .str b
  | _, _, .fn h, _ => .fn h
  | _, _, .tup t r, q => .tup (t.re w.no) (Reps.down w r (by simpa only [D.old] using q))
  | _, _, .lst t r, q => .lst (t.re w.no) (Reps.down w r (by simpa only [D.old] using q))
  | _, _, .dct t r, q => .dct (t.re w.no) (Reps.down w r (by simpa only [D.old] using q))
  | _, _, .ref h, q => .ref (w.m _ _ (by simpa only [D.old, decide_eq_true_eq] using q) h)
  | _, _, .clo h1 n1 n2 h2 h3 h4 h5 h6 h7, q => .clo h1 (w.no _ n1) (w.no _ n2) h2 h3 h4
      (fun k y m a b => by
        obtain ⟨c, p, r⟩ := h5 k y m a b
        simp only [D.old, List.all_eq_true, decide_eq_true_eq] at q
        have hm := q m (List.mem_of_getElem? b)
        refine ⟨c, p, Nat.lt_of_lt_of_le hm w.len, ?_⟩
        rcases r.2 with z | z
        · exact .inl (w.vc _ z)
        · have := w.own _ z
          simp only at this
          omega) h6 h7
theorem Reps.down (w : Down ow base μ μ') : ∀ {vs : List V} {ds : List D}, Reps (Z.at ow) H μ vs ds → D.olds base ds = true → Reps (Z.at []) H μ' vs ds
  | _, _, .nil, _ => .nil
  | _, _, .cons h r, q => by
    simp only [D.olds, Bool.and_eq_true] at q
    exact .cons (Rep.down w h q.1) (Reps.down w r q.2)
end
end
section
variable {Z : Lk} {ow : List (Nat × Addr)} {H H' : Hp} {μ μ' : Mu} {st st' : Sto} {nb : Nat}
theorem Left.keepL (l : Left Z ow nb μ st H μ' st' H') {n : Nat} {a : Addr} {c0 : Cell} (hm : μ'.m[n]? = some (some a)) (hs : st'[n]? = some c0) (hn : st.length ≤ n) (hr : D.nrs c0.its = true) :
    NxE (Z.at []) [] st.length μ st H ⟨(μ'.cut st.length).m ++ [some a], μ'.hot, μ'.vc⟩ (st'.take st.length ++ [c0]) H' ∧ Rep (Z.at []) H' ⟨(μ'.cut st.length).m ++ [some a], μ'.hot, μ'.vc⟩ (.ref a) (.ref st.length) := by
  obtain ⟨bx, s'⟩ := l.s'
  have nx := l.nx
  have lt : (st'.take st.length).length = st.length := by rw [List.length_take]; have := l.len; omega
  have lm : (μ'.cut st.length).m.length = st.length := by rw [l.cutm]; exact l.s.len
  have nin : some a ∉ (μ'.cut st.length).m := fun z => by
    obtain ⟨i, hi⟩ := List.mem_iff_getElem?.mp z
    obtain ⟨hi', e⟩ := take_lt (show (μ'.m.take st.length)[i]? = _ from hi)
    have := s'.nd i n _ e hm
    omega
  have nhot : a ∉ μ'.hot := fun z => (s'.hot _ z).2 (List.mem_of_getElem? hm)
  obtain ⟨c1, o1, h1, h2, h3⟩ := s'.atC hm
  rw [hs] at h1; cases h1
  obtain ⟨m, e1, e2⟩ := l.pre
  have hHa : H a = none := by
    refine e2 a ?_
    rw [e1] at hm
    rw [List.getElem?_append_right (by rw [l.s.len]; exact hn)] at hm
    exact List.mem_of_getElem? hm
  have eA : ((μ'.cut st.length).m ++ [some a])[st.length]? = some (some a) := by
    rw [List.getElem?_append_right (by rw [lm]; exact Nat.le_refl _), lm, Nat.sub_self]; rfl
  have hno : ∀ q, (μ'.cut st.length).no q → q ≠ a → (⟨(μ'.cut st.length).m ++ [some a], μ'.hot, μ'.vc⟩ : Mu).no q := fun q h ne => by
    refine ⟨fun z => ?_, h.2⟩
    rcases List.mem_append.mp z with z | z
    · exact h.1 z
    · simp at z; exact ne z
  have dn : Down ow st.length μ' ⟨(μ'.cut st.length).m ++ [some a], μ'.hot, μ'.vc⟩ := by
    refine ⟨fun q h => hno q ⟨fun z => h.1 (List.mem_of_mem_take z), h.2⟩ (fun z => h.1 (by rw [z]; exact List.mem_of_getElem? hm)), fun i oa hi h => ?_, fun _ h => h, l.own, ?_⟩
    · show ((μ'.cut st.length).m ++ [some a])[i]? = _
      rw [List.getElem?_append_left (by rw [lm]; exact hi)]
      show (μ'.m.take st.length)[i]? = _
      rw [List.getElem?_take_of_lt hi]; exact h
    · show st.length ≤ ((μ'.cut st.length).m ++ [some a]).length
      rw [List.length_append, lm]; omega
  have oc : OldC st.length st' := l.old _ (Nat.le_refl _) l.s.old
  refine ⟨⟨⟨⟨l.keep, l.mono, ⟨[some a], by rw [l.cutm], fun b hb => by simp at hb; rw [hb]; exact hHa⟩, fun b hb => .inl (by have := l.hots.1; rw [← this]; exact hb), fun p hp => by show p ∈ μ'.vc; rw [l.vce]; exact hp⟩, nx.pres.trans (Pres.push (by rw [lt]; exact Nat.le_refl _) _),
    ⟨by show ((μ'.cut st.length).m ++ [some a]).length = _; rw [List.length_append, List.length_append, lm, lt]; rfl, fun i j q g1 g2 => ?_, fun i zs g => ?_, fun i k zs g => ?_, fun i od g => ?_, fun i q g => ?_, fun i g => absurd g (by simp), ⟨s'.vu.inj, s'.vu.one, fun n a hn => absurd hn (by simp)⟩, s'.tabs, fun b hb => ?_⟩, fun i od _ g => ?_, l.cells, l.vce, l.hots⟩, fun i g => absurd g (by simp)⟩, .ref eA⟩
  · simp only at g1 g2
    by_cases c1 : i < (μ'.cut st.length).m.length
    · rw [List.getElem?_append_left c1] at g1
      by_cases c2 : j < (μ'.cut st.length).m.length
      · rw [List.getElem?_append_left c2] at g2
        exact nx.sto.nd i j q g1 g2
      · obtain ⟨_, e⟩ := snoc_at g2 (by omega)
        cases e
        exact absurd (List.mem_of_getElem? g1) nin
    · obtain ⟨e0, e⟩ := snoc_at g1 (by omega)
      cases e
      by_cases c2 : j < (μ'.cut st.length).m.length
      · rw [List.getElem?_append_left c2] at g2
        exact absurd (List.mem_of_getElem? g2) nin
      · obtain ⟨e3, _⟩ := snoc_at g2 (by omega)
        omega
  · by_cases hi : i < (st'.take st.length).length
    · rw [List.getElem?_append_left hi] at g
      obtain ⟨hi', g'⟩ := take_lt g
      obtain ⟨p, us, k1, k2, k3⟩ := s'.cell i zs g'
      exact ⟨p, us, dn.m i _ hi' k1, k2, Reps.down dn k3 (oc i _ hi' g')⟩
    · obtain ⟨e0, e⟩ := snoc_at g (by omega)
      subst e
      obtain ⟨vs, w1, w2⟩ := h3
      subst w1
      exact ⟨a, vs, by rw [e0, lt]; exact eA, h2, Reps.down dn w2 (olds_nr zs _ hr)⟩
  · by_cases hi : i < (st'.take st.length).length
    · rw [List.getElem?_append_left hi] at g
      obtain ⟨hi', g'⟩ := take_lt g
      obtain ⟨p, us, k1, k2, k4, k3⟩ := s'.dc i k zs g'
      exact ⟨p, us, dn.m i _ hi' k1, k2, k4, Reps.down dn k3 (oc i _ hi' g')⟩
    · obtain ⟨e0, e⟩ := snoc_at g (by omega)
      subst e
      obtain ⟨vs, w1, w3, w2⟩ := h3
      subst w1
      exact ⟨a, vs, by rw [e0, lt]; exact eA, h2, w3, Reps.down dn w2 (olds_nr zs _ hr)⟩
  · by_cases hi : i < (st'.take st.length).length
    · rw [List.getElem?_append_left hi] at g
      obtain ⟨hi', g'⟩ := take_lt g
      exact dn.m i _ hi' (s'.var i od g')
    · obtain ⟨_, e⟩ := snoc_at g (by omega)
      subst e; exact h3.elim
  · have h0 : (i, q) ∈ μ.vc := by rw [← l.vce]; exact g
    obtain ⟨od0, o0, a1, a2, a3, a4⟩ := l.s.vcs i q h0
    obtain ⟨od, ob, k1, k2, k4, k3⟩ := s'.vcs i q g
    have hi : i < st.length := (List.getElem?_eq_some_iff.mp a1).1
    have hv := l.vars i od0 hi a1
    rw [hv] at k1; cases k1
    refine ⟨od0, ob, by rw [List.getElem?_append_left (by rw [lt]; exact hi), List.getElem?_take_of_lt hi]; exact hv, k2, k4, fun f hf => ?_⟩
    obtain ⟨v, u, q1, q2, q3⟩ := k3 f hf
    obtain ⟨v0, u0, _, _, p3⟩ := a4 f hf
    have ho := p3.old
    rw [l.s.len] at ho
    exact ⟨v, u, q1, q2, Rep.down dn q3 ho⟩
  · obtain ⟨k1, k2⟩ := s'.hot b hb
    refine ⟨k1, fun z => ?_⟩
    rcases List.mem_append.mp z with z | z
    · exact k2 (List.mem_of_mem_take z)
    · simp at z; rw [z] at hb; exact nhot hb
  · have hi : i < st.length := (List.getElem?_eq_some_iff.mp g).1
    rw [List.getElem?_append_left (by rw [lt]; exact hi), List.getElem?_take_of_lt hi]
    exact l.vars i od hi g
theorem leave (l : Left Z ow nb μ st H μ' st' H') {v : V} {d e : D} {st'' : Sto} {keep : Bool} (r : Rep (Z.at ow) H' μ' v d) (h : fin keep st.length d st' = .ok e st'') : ∃ μ'', NxE (Z.at []) [] st.length μ st H μ'' st'' H' ∧ Rep (Z.at []) H' μ'' v e := by
  unfold fin at h
  split at h
  · split at h
    · rename_i n
      split at h
      · rename_i xs hs
        split at h
        · rename_i hc
          simp only [Bool.and_eq_true, decide_eq_true_eq] at hc
          cases h
          cases r with
          | ref hm => exact ⟨_, l.keepL hm hs hc.1 hc.2⟩
        · cases h
      · rename_i k xs hs
        split at h
        · rename_i hc
          simp only [Bool.and_eq_true, decide_eq_true_eq] at hc
          cases h
          cases r with
          | ref hm => exact ⟨_, l.keepL hm hs hc.1 hc.2⟩
        · cases h
      · cases h
    · cases h
  · split at h
    · rename_i hr
      cases h
      exact ⟨_, l.nx, l.rep r (old_nr _ _ hr)⟩
    · split at h
      · rename_i d' hd
        cases h
        exact ⟨_, l.nx, frz_rep l r hd⟩
      · cases h
end
end Y
end
section
set_option Elab.async false
set_option linter.all false
set_option maxRecDepth 100000
set_option maxHeartbeats 4000000
set_option autoImplicit false
/-! Y23: a frame's own cells, known from outside or not. -/
namespace Y
open PySem PySem.Spec PyProof.Rows L2 LamX NdefX
/-- the same moment, from within a frame that has the cells ow (μ, H), and from outside (μt, Ht) -/
structure TU (ow : List (Nat × Addr)) (μ : Mu) (H : Hp) (μt : Mu) (Ht : Hp) : Prop where
  m : μt.m = μ.m
  hot : μt.hot = μ.hot
  vc : ∀ p, p ∈ μt.vc ↔ p ∈ μ.vc ∨ p ∈ ow
  same : ∀ b, (∀ p ∈ ow, p.2 ≠ b) → Ht b = H b
  inn : ∀ p ∈ ow, H p.2 = none
  out : ∀ p ∈ ow, ∃ o w, Ht p.2 = some (CellO p.2 o) ∧ o.data = .cell w
section
variable {Z : Lk} {ow : List (Nat × Addr)} {H Ht : Hp} {μ μt : Mu} {st : Sto} {bx : List Nat} {P : Program} {w : World} {h : Heap}
theorem TU.ne (t : TU ow μ H μt Ht) {b : Addr} {o : HO} (e : H b = some o) : ∀ p ∈ ow, p.2 ≠ b := fun p hp z => by
  have := t.inn p hp
  rw [z, e] at this; cases this
theorem TU.up (t : TU ow μ H μt Ht) {b : Addr} {o : HO} (e : H b = some o) : Ht b = some o := by rw [t.same b (t.ne e)]; exact e
/-- what values are made of is no cell -/
theorem TU.kn (t : TU ow μ H μt Ht) (hok : HOk P w Ht h) {q : Addr} {u : HO} (k : Kn q u) (e : Ht q = some u) : H q = some u := by
  have key : ∀ p ∈ ow, p.2 ≠ q := fun p hp z => by
    obtain ⟨o, w', h1, h2⟩ := t.out p hp
    rw [z] at h1
    have h1' := h1
    obtain ⟨g1, _, _⟩ := hok q _ h1'
    rw [e] at h1
    cases k with
    | lst _ => unfold CellO at h1; cases h1
    | tup _ => unfold CellO at h1; cases h1
    | dct k vs => cases k <;> (unfold CellO at h1; cases h1)
    | frz _ _ => unfold CellO at h1; cases h1
    | lam n params body scope cl c' =>
      obtain ⟨⟨pm, ctv, g2⟩, _, _⟩ := hok q _ e
      rw [g1] at g2
      have := Option.some.inj g2
      rw [this] at h2; cases h2
    | code n =>
      obtain ⟨⟨oc, vs, tk, g2, g3, _⟩, _, _⟩ := hok q _ e
      rw [g1] at g2
      have := Option.some.inj g2
      rw [this] at h2
      rw [g3] at h2; cases h2
  rw [← t.same q key]; exact e
theorem TU.tbl (t : TU ow μ H μt Ht) {q : Addr} {ps : Array Value} (e : Ht q = some (.tbl ps)) : H q = some (.tbl ps) := by
  rw [← t.same q fun p hp z => ?_]; exact e
  obtain ⟨o, w', h1, _⟩ := t.out p hp
  rw [z, e] at h1; unfold CellO at h1; cases h1
theorem TU.moveT (t : TU ow μ H μt Ht) : Move Z ow H μ [] Ht μt := by
  refine ⟨fun q u _ e n => ⟨⟨by rw [t.m]; exact n.1, by rw [t.hot]; exact n.2⟩, t.up e⟩, fun i a e => by rw [t.m]; exact e, fun n c e => ⟨by rw [t.m]; exact e.1, .inl ((t.vc _).mpr e.2)⟩⟩
theorem TU.moveU (t : TU ow μ H μt Ht) (hok : HOk P w Ht h) : Move Z [] Ht μt ow H μ := by
  refine ⟨fun q u k e n => ⟨⟨by rw [← t.m]; exact n.1, by rw [← t.hot]; exact n.2⟩, t.kn hok k e⟩, fun i a e => by rw [← t.m]; exact e, fun n c e => ⟨by rw [← t.m]; exact e.1, ?_⟩⟩
  rcases e.2 with z | z
  · exact (t.vc _).mp z
  · cases z
theorem TU.tabs (t : TU ow μ H μt Ht) (hok : HOk P w Ht h) {T : List (Addr × Str)} (q : Tabs T Ht) : Tabs T H := fun p hp => by
  obtain ⟨ps, h1, h2, h3⟩ := q p hp
  refine ⟨ps, t.tbl h1, h2, fun pos cv hc => ?_⟩
  obtain ⟨c, e1, e2⟩ := h3 pos cv hc
  exact ⟨c, e1, t.kn hok (.code _) e2⟩
/-- from within to outside -/
theorem StoR.toT (t : TU ow μ H μt Ht) (s : StoR (Z.at ow) bx μ st H) (hv : ∀ p ∈ ow, ∃ od o, st[p.1]? = some (Cell.var od) ∧ Ht p.2 = some (CellO p.2 o) ∧ (∃ w, o.data = .cell w) ∧ ∀ d, od = some d → ∃ v u, o.data = .cell (some u) ∧ RelV v u ∧ Rep (Z.at ow) H μ v d)
    (hob : ∀ p ∈ ow, p.1 ∈ bx) (one : ∀ p ∈ ow, ∀ q ∈ ow, p.1 = q.1 → p.2 = q.2) (two : ∀ p ∈ ow, ∀ q ∈ ow, p.2 = q.2 → p.1 = q.1) : StoR (Z.at []) [] μt st Ht := by
  have apart : ∀ (n : Nat) (a : Addr), (n, a) ∈ μ.vc → ∀ p ∈ ow, p.2 ≠ a := fun n a e p hp z => by
    obtain ⟨od, o, _, h2, _⟩ := s.vcs n a e
    rw [← z, t.inn p hp] at h2; cases h2
  refine ⟨by rw [t.m]; exact s.len, fun i j a h1 h2 => s.nd i j a (by rw [← t.m]; exact h1) (by rw [← t.m]; exact h2), fun n xs e => ?_, fun n k xs e => ?_, fun n od e => by rw [t.m]; exact s.var n od e, fun n a e => ?_, fun n hn => absurd hn (by simp), ⟨fun m n a h1 h2 => ?_, fun n a b h1 h2 => ?_, fun n a hn => absurd hn (by simp)⟩, s.tabs.ext fun b o e => t.up e, fun b hb => ?_⟩
  · obtain ⟨a, vs, h1, h2, h3⟩ := s.cell n xs e
    exact ⟨a, vs, by rw [t.m]; exact h1, t.up h2, Reps.move t.moveT h3⟩
  · obtain ⟨a, vs, h1, h2, h4, h3⟩ := s.dc n k xs e
    exact ⟨a, vs, by rw [t.m]; exact h1, t.up h2, h4, Reps.move t.moveT h3⟩
  · rcases (t.vc _).mp e with z | z
    · obtain ⟨od, o, h1, h2, h4, h3⟩ := s.vcs n a z
      refine ⟨od, o, h1, t.up h2, h4, fun d hd => ?_⟩
      obtain ⟨v, u, q1, q2, q3⟩ := h3 d hd
      exact ⟨v, u, q1, q2, q3.move t.moveT⟩
    · obtain ⟨od, o, h1, h2, h4, h3⟩ := hv _ z
      refine ⟨od, o, h1, h2, h4, fun d hd => ?_⟩
      obtain ⟨v, u, q1, q2, q3⟩ := h3 d hd
      exact ⟨v, u, q1, q2, q3.move t.moveT⟩
  · rcases (t.vc _).mp h1 with z1 | z1 <;> rcases (t.vc _).mp h2 with z2 | z2
    · exact s.vu.inj m n a z1 z2
    · exact absurd rfl (apart m a z1 _ z2)
    · exact absurd rfl (apart n a z2 _ z1)
    · exact two _ z1 _ z2 rfl
  · rcases (t.vc _).mp h1 with z1 | z1 <;> rcases (t.vc _).mp h2 with z2 | z2
    · exact s.vu.one n a b z1 z2
    · exact absurd z1 (s.vu.own n a (hob _ z2))
    · exact absurd z2 (s.vu.own n b (hob _ z1))
    · exact one _ z1 _ z2 rfl
  · rw [t.hot] at hb
    obtain ⟨⟨vs, h1⟩, h2⟩ := s.hot b hb
    exact ⟨⟨vs, t.up h1⟩, by rw [t.m]; exact h2⟩
/-- from outside to within -/
theorem StoR.toU (t : TU ow μ H μt Ht) (hok : HOk P w Ht h) (s : StoR (Z.at []) [] μt st Ht) (hb : ∀ n ∈ bx, μ.m[n]? = some none ∧ ∃ od, st[n]? = some (Cell.var od)) (hd : ∀ p ∈ μ.vc, ∀ q ∈ ow, q.2 ≠ p.2) (hvo : ∀ (n : Nat) (a : Addr), n ∈ bx → (n, a) ∉ μ.vc) : StoR (Z.at ow) bx μ st H := by
  refine ⟨by rw [← t.m]; exact s.len, fun i j a h1 h2 => s.nd i j a (by rw [t.m]; exact h1) (by rw [t.m]; exact h2), fun n xs e => ?_, fun n k xs e => ?_, fun n od e => by rw [← t.m]; exact s.var n od e, fun n a e => ?_, hb, ⟨fun m n a h1 h2 => s.vu.inj m n a ((t.vc _).mpr (.inl h1)) ((t.vc _).mpr (.inl h2)), fun n a b h1 h2 => s.vu.one n a b ((t.vc _).mpr (.inl h1)) ((t.vc _).mpr (.inl h2)), hvo⟩, t.tabs hok s.tabs, fun b hb => ?_⟩
  · obtain ⟨a, vs, h1, h2, h3⟩ := s.cell n xs e
    exact ⟨a, vs, by rw [← t.m]; exact h1, t.kn hok (.lst _) h2, Reps.move (t.moveU hok) h3⟩
  · obtain ⟨a, vs, h1, h2, h4, h3⟩ := s.dc n k xs e
    exact ⟨a, vs, by rw [← t.m]; exact h1, t.kn hok (.dct k _) h2, h4, Reps.move (t.moveU hok) h3⟩
  · obtain ⟨od, o, h1, h2, h4, h3⟩ := s.vcs n a ((t.vc _).mpr (.inl e))
    refine ⟨od, o, h1, by rw [← t.same a (hd _ e)]; exact h2, h4, fun d hd => ?_⟩
    obtain ⟨v, u, q1, q2, q3⟩ := h3 d hd
    exact ⟨v, u, q1, q2, q3.move (t.moveU hok)⟩
  · rw [← t.hot] at hb
    obtain ⟨⟨vs, h1⟩, h2⟩ := s.hot b hb
    exact ⟨⟨vs, t.kn hok (.lst _) h1⟩, by rw [← t.m]; exact h2⟩
/-- a step outside is a step within -/
theorem NxE.toU {μ' : Mu} {H' : Hp} {st' : Sto} {μt' : Mu} {Ht' : Hp} {bs base : Nat} {h' : Heap} (t : TU ow μ H μt Ht) (t' : TU ow μ' H' μt' Ht') (hok : HOk P w Ht' h') (s : StoR (Z.at ow) bx μ st H) (hbs : bs ≤ base) (hv : μ'.vc = μ.vc) (hd : ∀ p ∈ μ.vc, ∀ q ∈ ow, q.2 ≠ p.2)
    (n : NxE (Z.at []) [] base μt st Ht μt' st' Ht') : NxE (Z.at ow) bx bs μ st H μ' st' H' := by
  have nv : ∀ (i : Nat) (od : Option D), st[i]? = some (Cell.var od) → st'[i]? = some (Cell.var od) := fun i od e => n.vars i od (by simp) e
  have hmm : ∀ (i : Nat) (oa : Option Addr), μ.m[i]? = some oa → μ'.m[i]? = some oa := fun i oa e => by rw [← t'.m]; rw [← t.m] at e; exact n.ext.at e
  obtain ⟨m, e1, e2⟩ := n.ext.pre
  have cell0 : ∀ p ∈ ow, ∀ o : HO, H p.2 ≠ some o := fun p hp o z => by rw [t.inn p hp] at z; cases z
  refine ⟨⟨⟨fun b u hb hu e => ?_, fun b e => ?_, ⟨m, by rw [← t'.m, ← t.m]; exact e1, fun b hb => ?_⟩, fun b hb => ?_, fun p hp => by rw [hv]; exact hp⟩, ⟨n.pres.len, fun b hb => n.pres.old b (Nat.le_trans hb hbs)⟩,
    StoR.toU t' hok n.sto (fun i hi => ?_) (by rw [hv]; exact hd) (by rw [hv]; exact s.vu.own), fun i od _ e => nv i od e, fun i a e => ?_, hv, by rw [← t'.hot, ← t.hot]; exact n.hots.1, fun b hb => ?_⟩, fun i hi => ?_⟩
  · have k := n.ext.keep b u ⟨by rw [t.m]; exact hb.1, by rw [t.hot]; exact hb.2⟩ hu (t.up e)
    rw [← t'.same b (t.ne e)]; exact k
  · by_cases hc : ∃ p ∈ ow, p.2 = b
    · obtain ⟨p, hp, rfl⟩ := hc
      exact t.inn p hp
    · have hc' : ∀ p ∈ ow, p.2 ≠ b := fun p hp z => hc ⟨p, hp, z⟩
      rw [← t.same b hc']
      exact n.ext.mono b (by rw [t'.same b hc']; exact e)
  · have k := e2 b hb
    by_cases hc : ∃ p ∈ ow, p.2 = b
    · obtain ⟨p, hp, rfl⟩ := hc
      exact t.inn p hp
    · rw [← t.same b fun p hp z => hc ⟨p, hp, z⟩]; exact k
  · rw [← t'.hot] at hb
    rcases n.ext.hot b hb with z | z
    · left; rw [← t.hot]; exact z
    · right
      by_cases hc : ∃ p ∈ ow, p.2 = b
      · obtain ⟨p, hp, rfl⟩ := hc
        exact t.inn p hp
      · rw [← t.same b fun p hp z => hc ⟨p, hp, z⟩]; exact z
  · obtain ⟨k1, od, k2⟩ := s.own i hi
    exact ⟨hmm i _ k1, od, nv i od k2⟩
  · have k := n.cells i a ((t.vc _).mpr (.inl e))
    rw [t'.same a (hd _ e), t.same a (hd _ e)] at k
    exact k
  · have k := n.hots.2 b (by rw [t.hot]; exact hb)
    obtain ⟨⟨vs, k1⟩, _⟩ := s.hot b hb
    rw [t'.same b (t.ne k1), t.same b (t.ne k1)] at k
    exact k
  · obtain ⟨_, od, k2⟩ := s.own i hi
    rw [nv i od k2, k2]
/-- a thing of the store is tracked -/
theorem StoR.mem_lst (s : StoR Z bx μ st H) {b : Addr} (hb : some b ∈ μ.m) : ∃ o, H b = some o := by
  obtain ⟨n, hn⟩ := List.mem_iff_getElem?.mp hb
  obtain ⟨_, o, _, h2, _⟩ := s.atC hn
  exact ⟨o, h2⟩
/-- a step within is a step outside -/
theorem NxE.toT {μ' : Mu} {H' : Hp} {st' : Sto} {μt' : Mu} {Ht' : Hp} {bs : Nat} (t : TU ow μ H μt Ht) (t' : TU ow μ' H' μt' Ht') (hok : HOk P w Ht h) (hc : ∀ p ∈ ow, Ht' p.2 = Ht p.2) (hv : μt'.vc = μt.vc) (hd : ∀ p ∈ μ.vc, ∀ q ∈ ow, q.2 ≠ p.2) (hbx : ∀ i ∈ bx, ∃ p ∈ ow, p.1 = i)
    (hob : ∀ p ∈ ow, p.1 ∈ bx) (one : ∀ p ∈ ow, ∀ q ∈ ow, p.1 = q.1 → p.2 = q.2) (two : ∀ p ∈ ow, ∀ q ∈ ow, p.2 = q.2 → p.1 = q.1) (s : StoR (Z.at []) [] μt st Ht) (n : NxE (Z.at ow) bx bs μ st H μ' st' H') : NxE (Z.at []) [] bs μt st Ht μt' st' Ht' := by
  have out : ∀ {b : Addr} {u : HO}, Ht b = some u → (∀ p ∈ ow, p.2 ≠ b) → H b = some u := fun e k => by rw [← t.same _ k]; exact e
  have nv : ∀ (i : Nat) (od : Option D), st[i]? = some (Cell.var od) → st'[i]? = some (Cell.var od) := fun i od e => by
    by_cases hi : i ∈ bx
    · rw [n.owns i hi]; exact e
    · exact n.vars i od hi e
  obtain ⟨m, e1, e2⟩ := n.ext.pre
  refine ⟨⟨⟨fun b u hb hu e => ?_, fun b e => ?_, ⟨m, by rw [t'.m, t.m]; exact e1, fun b hb => ?_⟩, fun b hb => .inl ?_, fun p hp => by rw [hv]; exact hp⟩, n.pres, StoR.toT t' n.sto (fun p hp => ?_) hob one two, fun i od _ e => nv i od e, fun i a e => ?_, hv, ?_, fun b hb => ?_⟩, fun i hi => absurd hi (by simp)⟩
  · by_cases hcc : ∃ p ∈ ow, p.2 = b
    · obtain ⟨p, hp, rfl⟩ := hcc
      rw [hc p hp]; exact e
    · have k := n.ext.keep b u ⟨by rw [← t.m]; exact hb.1, by rw [← t.hot]; exact hb.2⟩ hu (out e fun p hp z => hcc ⟨p, hp, z⟩)
      exact t'.up k
  · have hcc : ∀ p ∈ ow, p.2 ≠ b := fun p hp z => by
      obtain ⟨o, w', h1, _⟩ := t'.out p hp
      rw [z, e] at h1; cases h1
    rw [t.same b hcc]
    exact n.ext.mono b (by rw [← t'.same b hcc]; exact e)
  · have k : some b ∈ μ'.m := by rw [e1]; exact List.mem_append_right _ hb
    obtain ⟨vs, hvs⟩ := n.sto.mem_lst k
    rw [t.same b (t'.ne hvs)]
    exact e2 b hb
  · rw [t.hot]
    rw [t'.hot, n.hots.1] at hb
    exact hb
  · obtain ⟨od, o, h1, h2, h4, h3⟩ := s.vcs p.1 p.2 ((t.vc p).mpr (.inr hp))
    refine ⟨od, o, nv _ _ h1, by rw [hc p hp]; exact h2, h4, fun d hd' => ?_⟩
    obtain ⟨v, u, q1, q2, q3⟩ := h3 d hd'
    exact ⟨v, u, q1, q2, (q3.move (t.moveU hok)).ext n.ext⟩
  · rcases (t.vc _).mp e with z | z
    · rw [t'.same a (hd _ z), t.same a (hd _ z)]
      exact n.cells i a z
    · exact hc _ z
  · rw [t'.hot, t.hot]; exact n.hots.1
  · rw [t.hot] at hb
    have k := n.hots.2 b hb
    obtain ⟨⟨vs, k1⟩, _⟩ := n.sto.hot b (by rw [n.hots.1]; exact hb)
    have k2 : H b = some (.lst vs) := by rw [← k]; exact k1
    rw [t'.same b (t'.ne k1), t.same b (t.ne k2)]
    exact k
end
end Y
end
section
set_option Elab.async false
set_option linter.all false
set_option maxRecDepth 100000
set_option maxHeartbeats 4000000
set_option autoImplicit false
/-! Y24: a call out of a frame. -/
namespace Y
open PySem PySem.Spec PyProof.Rows L2 LamX NdefX
/-- what is wanted behind a call -/
def postY (Z : Lk) (μ : Mu) (st : Sto) (H : Hp) (e : D) (st' : Sto) : VK := fun v H' => ∃ μ', NxE (Z.at []) [] st.length μ st H μ' st' H' ∧ Rep (Z.at []) H' μ' v e
section
variable {Z : Lk} {ow : List (Nat × Addr)} {c : Cf} {CE : List (Str × Addr)} {X : Cx} {pins : List (Addr × Obj)} {σ : L2.St} {H : Hp} {s : Shared} {ρ : Env} {μ : Mu} {st : Sto}
def outH (ow : List (Nat × Addr)) (h : Heap) (H : Hp) : Hp := fun b => if ow.any (fun p => p.2 == b) then (h.get? b).map (CellO b) else H b
theorem outH_in {h : Heap} {p : Nat × Addr} {o : Obj} (hp : p ∈ ow) (ho : h.get? p.2 = some o) : outH ow h H p.2 = some (CellO p.2 o) := by
  unfold outH
  rw [if_pos (List.any_eq_true.mpr ⟨p, hp, by simp⟩), ho]; rfl
theorem outH_out {h : Heap} {b : Addr} (hb : ∀ p ∈ ow, p.2 ≠ b) : outH ow h H b = H b := by
  unfold outH
  rw [if_neg (by
    intro z
    obtain ⟨p, hp, e⟩ := List.any_eq_true.mp z
    exact hb p hp (by simpa using e))]
/-- the own cells, as they are seen at a call -/
structure OwnC (X : Cx) (ow : List (Nat × Addr)) (Z : Lk) (H : Hp) (s : Shared) (μ : Mu) (st : Sto) (bx : List Nat) : Prop where
  inn : ∀ p ∈ ow, H p.2 = none ∧ ∃ o w, s.heap.get? p.2 = some o ∧ o.data = .cell w
  bx : ∀ p ∈ ow, p.1 ∈ bx
  val : ∀ p ∈ ow, ∀ d, st[p.1]? = some (Cell.var (some d)) → ∃ v u, s.heap.IsCell p.2 (some u) ∧ RelV v u ∧ Rep (Z.at ow) H μ v d
  fr : ∀ p ∈ ow, p.2 ∉ frs X.stack
  ba : ∀ p ∈ ow, X.base.get? p.2 = none
  one : ∀ p ∈ ow, ∀ q ∈ ow, p.1 = q.1 → p.2 = q.2
  two : ∀ p ∈ ow, ∀ q ∈ ow, p.2 = q.2 → p.1 = q.1
theorem track (I : Inv X pins σ H s) (sto : StoR (Z.at ow) ρ.bx μ st H) (o : OwnC X ow Z H s μ st ρ.bx) :
    TU ow μ H ⟨μ.m, μ.hot, μ.vc ++ ow⟩ (outH ow s.heap H) ∧ StoR (Z.at []) [] ⟨μ.m, μ.hot, μ.vc ++ ow⟩ st (outH ow s.heap H) ∧ Env0 X.prog X.w X.K X.mg X.base X.A X.stack s (outH ow s.heap H) := by
  have t : TU ow μ H ⟨μ.m, μ.hot, μ.vc ++ ow⟩ (outH ow s.heap H) := by
    refine ⟨rfl, rfl, fun p => List.mem_append, fun b hb => outH_out hb, fun p hp => (o.inn p hp).1, fun p hp => ?_⟩
    obtain ⟨_, ob, w, h1, h2⟩ := o.inn p hp
    exact ⟨ob, w, outH_in hp h1, h2⟩
  have e0 := I.env0
  refine ⟨t, StoR.toT t sto (fun p hp => ?_) o.bx o.one o.two, ⟨e0.frames, e0.mod, fun b ob e => ⟨(e0.bs b ob e).1, ?_⟩, e0.bsz, e0.funs, fun b hb => ?_, fun b u e => ?_, e0.bare⟩⟩
  · obtain ⟨_, ob, w, h1, h2⟩ := o.inn p hp
    obtain ⟨_, od, h3⟩ := sto.own p.1 (o.bx p hp)
    refine ⟨od, ob, h3, outH_in hp h1, ⟨w, h2⟩, fun d hd => ?_⟩
    subst hd
    obtain ⟨v, u, ⟨ob', g1, g2⟩, q2, q3⟩ := o.val p hp d h3
    rw [h1] at g1; cases g1
    exact ⟨v, u, g2, q2, q3⟩
  · rw [outH_out fun p hp z => by
      have := o.ba p hp
      rw [z, e] at this; cases this]
    exact (e0.bs b ob e).2
  · rw [outH_out fun p hp z => o.fr p hp (by rw [z]; exact hb)]
    exact e0.frf b hb
  · by_cases hc : ∃ p ∈ ow, p.2 = b
    · obtain ⟨p, hp, rfl⟩ := hc
      obtain ⟨_, ob, w, h1, h2⟩ := o.inn p hp
      rw [outH_in hp h1] at e
      cases e
      exact ⟨h1, ⟨ob, h1⟩, fun h1' h2' k st => st _ k⟩
    · rw [outH_out fun p hp z => hc ⟨p, hp, z⟩] at e
      refine (e0.hok b u e).stay (fun _ _ _ k => k) (fun q k => t.up k) fun q xs k => t.up k
/-- behind the call -/
theorem untrack {Q : VK} {e : D} {st' : Sto} {u : Value} {s' : Shared} (I : Inv X pins σ H s) (fr : Fr (Z.at ow) c.N c.BX CE σ ρ μ st H) (o : OwnC X ow Z H s μ st ρ.bx)
    (h : L2.CE X.stack X.prog X.w (outH ow s.heap H) s (postY Z ⟨μ.m, μ.hot, μ.vc ++ ow⟩ st (outH ow s.heap H) e st') u s')
    (hq : ∀ v H' μ', NxE (Z.at ow) ρ.bx ρ.bs μ st H μ' st' H' → Rep (Z.at ow) H' μ' v e → Q v H') : EP X pins σ Q u s' := by
  obtain ⟨v, Ht', os, bare, un, hok, rv, μt', n, r⟩ := h
  obtain ⟨t, sT, e0⟩ := track I fr.sto o
  have hcell : ∀ p ∈ ow, ∃ ob w, s.heap.get? p.2 = some ob ∧ ob.data = .cell w ∧ Ht' p.2 = some (CellO p.2 ob) := fun p hp => by
    obtain ⟨_, ob, w, h1, h2⟩ := o.inn p hp
    refine ⟨ob, w, h1, h2, ?_⟩
    rw [n.cells p.1 p.2 (List.mem_append_right _ hp)]
    exact outH_in hp h1
  obtain ⟨Hu, hHu⟩ : ∃ Hu : Hp, Hu = fun b => if ow.any (fun p => p.2 == b) then none else Ht' b := ⟨_, rfl⟩
  have hin : ∀ p ∈ ow, Hu p.2 = none := fun p hp => by
    rw [hHu]
    exact if_pos (List.any_eq_true.mpr ⟨p, hp, by simp⟩)
  have hout : ∀ b, (∀ p ∈ ow, p.2 ≠ b) → Hu b = Ht' b := fun b hb => by
    rw [hHu]
    exact if_neg (by
      intro z
      obtain ⟨p, hp, e⟩ := List.any_eq_true.mp z
      exact hb p hp (by simpa using e))
  have t' : TU ow ⟨μt'.m, μt'.hot, μ.vc⟩ Hu μt' Ht' := by
    refine ⟨rfl, rfl, fun p => by rw [n.vce]; exact List.mem_append, fun b hb => (hout b hb).symm, hin, fun p hp => ?_⟩
    obtain ⟨ob, w, _, h2, h3⟩ := hcell p hp
    exact ⟨ob, w, h3, h2⟩
  have hd : ∀ p ∈ μ.vc, ∀ q ∈ ow, q.2 ≠ p.2 := fun p hp q hq' z => by
    obtain ⟨od, ob, _, h2, _⟩ := fr.sto.vcs p.1 p.2 hp
    rw [← z, (o.inn q hq').1] at h2; cases h2
  have nu : NxE (Z.at ow) ρ.bx ρ.bs μ st H ⟨μt'.m, μt'.hot, μ.vc⟩ st' Hu := NxE.toU t t' hok fr.sto fr.bs rfl hd n
  have q := hq v Hu _ nu (r.move (t'.moveU hok))
  have un' : Un (frs X.stack) [] H Hu s.heap s'.heap := by
    have hne : ∀ {b : Addr} {w : HO}, H b = some w → ∀ p ∈ ow, p.2 ≠ b := fun e => t.ne e
    refine ⟨fun b ob e k hb hx => ?_, fun b ob e k hb hx => ?_, fun b ob e k hx => ?_, fun b ob e hx => un.there b ob e hx, fun b xs e => ?_, fun b w u e => ?_, fun b ps e => ?_⟩
    · by_cases hc : ∃ p ∈ ow, p.2 = b
      · obtain ⟨p, hp, rfl⟩ := hc
        obtain ⟨ob', w, h1, _, h3⟩ := hcell p hp
        rw [h1] at e; cases e
        exact (hok _ _ h3).1
      · have hc' : ∀ p ∈ ow, p.2 ≠ b := fun p hp z => hc ⟨p, hp, z⟩
        exact un.keep b ob e (by rw [outH_out hc']; exact k) hb hx
    · by_cases hc : ∃ p ∈ ow, p.2 = b
      · obtain ⟨p, hp, rfl⟩ := hc
        exact absurd hb (o.fr p hp)
      · have hc' : ∀ p ∈ ow, p.2 ≠ b := fun p hp z => hc ⟨p, hp, z⟩
        exact un.slot b ob e (by rw [outH_out hc']; exact k) hb hx
    · by_cases hc : ∃ p ∈ ow, p.2 = b
      · obtain ⟨p, hp, rfl⟩ := hc
        exact hin p hp
      · have hc' : ∀ p ∈ ow, p.2 ≠ b := fun p hp z => hc ⟨p, hp, z⟩
        rw [hout b hc']
        exact un.free b ob e (by rw [outH_out hc']; exact k) hx
    · rw [hout b (hne e)]
      exact un.tups b xs (by rw [outH_out (hne e)]; exact e)
    · rw [hout b (hne e)]
      exact un.frzs b w u (by rw [outH_out (hne e)]; exact e)
    · rw [hout b (hne e)]
      exact un.tbls b ps (by rw [outH_out (hne e)]; exact e)
  have hok' : HOk X.prog X.w Hu s'.heap := fun b w e => by
    have hc' : ∀ p ∈ ow, p.2 ≠ b := fun p hp z => by
      have := hin p hp
      rw [z, e] at this; cases this
    rw [hout b hc'] at e
    have kn : ∀ {q : Addr} {x : HO}, (∀ ob, x ≠ CellO q ob) → Ht' q = some x → Hu q = some x := fun {q x} hx k => by
      rw [hout q fun p hp z => ?_]; exact k
      obtain ⟨ob, _, _, _, h3⟩ := hcell p hp
      rw [z, k] at h3
      exact hx ob (by rw [← z]; exact (Option.some.inj h3).trans (by rw [z]))
    exact (hok b w e).stay (fun _ _ _ k => k) (fun q k => kn (fun ob z => by unfold CellO at z; cases z) k) fun q xs k => kn (fun ob z => by unfold CellO at z; cases z) k
  obtain ⟨hh, g, dr, tk, os'⟩ := s'
  obtain rfl : os' = s.os := os
  exact ⟨v, Hu, I.call (h' := hh) (g' := g) (d' := dr) (t' := tk) (ch := []) un' hok' bare (fun b z => absurd z (by simp)), rv, q⟩
end
end Y
end
section
set_option Elab.async false
set_option linter.all false
set_option maxRecDepth 100000
set_option maxHeartbeats 4000000
set_option autoImplicit false
/-! Y25: what defs and closures promise. -/
namespace Y
open PySem PySem.Spec PyProof.Rows L2 LamX NdefX
/-- room for calls, and that no repr is under way -/
structure RoomY (k : Nat) (A : Around) : Prop where
  r : Room k A
  g : A.guards = some []
theorem RoomY.deeper {k : Nat} {A : Around} (h : RoomY (k + 1) A) (env : PySem.Env) : RoomY k (A.deeper env) := ⟨h.r.deeper env, h.g⟩
/-- a def called, as deep as n at most -/
def CallP (prog : Program) (w : World) (mg : Str → Option Value) (base : Heap) (Z : Lk) (g : CfG) (n : Nat) : Prop :=
  ∀ (f nn : Nat) (ks ps : List Str), (f, nn, ks) ∈ g.sigs → g.fps[f]? = some ps → ∀ (A : Around) (outer : List PySem.Env) (s : Shared) (H : Hp) (us ws : List Value) (vs zs : List V) (μ : Mu) (st : Sto) (xs ys args : List D) (e : D) (st' : Sto),
    RoomY n A → Env0 prog w Z.K mg base A outer s H → Vals vs us → Vals zs ws → StoR (Z.at []) [] μ st H → Reps (Z.at []) H μ vs xs → Reps (Z.at []) H μ zs ys → xs.length = nn → ys.length = ks.length → permD (permOf ps nn ks) (xs ++ ys) = some args → (calls g.P n).fn f args st = .ok e st' →
    codeAny (model prog w) A (.call (.ref (Z.F f)) ⟨us, ks.zip ws⟩) (CR C8.CX0 outer prog w H s (postY Z μ st H e st') C8.E0) s
/-- a closure called -/
def LamP (prog : Program) (w : World) (mg : Str → Option Value) (base : Heap) (Z : Lk) (g : CfG) (n : Nat) : Prop :=
  ∀ (l : Nat) (cs : List Nat) (ga : Addr) (A : Around) (outer : List PySem.Env) (s : Shared) (H : Hp) (us : List Value) (vs : List V) (μ : Mu) (st : Sto) (xs : List D) (e : D) (st' : Sto),
    RoomY n A → Env0 prog w Z.K mg base A outer s H → Vals vs us → StoR (Z.at []) [] μ st H → Reps (Z.at []) H μ vs xs → Rep (Z.at []) H μ (.ref ga) (.clo l cs) → (calls g.P n).clo l cs xs st = .ok e st' →
    codeAny (model prog w) A (.call (.ref ga) ⟨us, []⟩) (CR C8.CX0 outer prog w H s (postY Z μ st H e st') C8.E0) s
/-- what is known of the whole program where it runs -/
structure Glob (mg : Str → Option Value) (base : Heap) (Z : Lk) (g : CfG) : Prop where
  gd : ∀ x d, (x, d) ∈ g.gd → ∃ v u, mg x = some u ∧ RelV v u ∧ (∀ i, d = .int i → v = .int i) ∧ (∀ i, d = .str i → v = .str i)
  gf : ∀ x f, (x, f) ∈ g.gf → mg x = some (.ref (Z.F f)) ∧ f < Z.nf
  bl : ∀ x, x ∈ bltNames → mg x = none
  kp : ∀ x f, (x, f) ∈ g.gf → PySem.W.keepIn Z.K (.ref (Z.F f)) = true
  sig : ∀ (f nn : Nat) (ks ps : List Str), (f, nn, ks) ∈ g.sigs → g.fps[f]? = some ps → sigB ps nn ks = true
  lok : ∀ (n l : Nat) (lm : LmC) (lmd : Lm) (params : Arguments) (body : Expr) (sc scope : Scope) (q : Str), g.lmc[l]? = some lm → g.P.lms[l]? = some lmd → lamB lm lmd params sc scope = true → chkE n (Cf.inL g lm scope) lmd.body body = true → Z.lok l q params body scope ∧ Z.lfr l = lm.fr
  lok' : ∀ (l : Nat) (q : Str) (params : Arguments) (body : Expr) (scope : Scope), Z.lok l q params body scope → ∃ n lm lmd sc, g.lmc[l]? = some lm ∧ g.P.lms[l]? = some lmd ∧ lamB lm lmd params sc scope = true ∧ chkE n (Cf.inL g lm scope) lmd.body body = true ∧ Z.lfr l = lm.fr
section
variable {Z : Lk} {ow : List (Nat × Addr)} {c : Cf} {CE : List (Str × Addr)} {X : Cx} {pins : List (Addr × Obj)} {σ : L2.St} {H : Hp} {s : Shared} {ρ : Env} {μ : Mu} {st : Sto}
/-- a frame's own cells -/
structure OwF (X : Cx) (c : Cf) (CE : List (Str × Addr)) (ow : List (Nat × Addr)) : Prop where
  ce : CE = X.env.cells
  N : X.N = c.N
  vis : ∀ (i : Nat) (x : Str), i ∈ c.BX → c.N[i]? = some x → X.env.scope.names.lookup x = some .cell ∨ X.env.scope.names.lookup x = some .free
  one : ∀ p ∈ ow, ∀ q ∈ ow, p.1 = q.1 → p.2 = q.2
  two : ∀ p ∈ ow, ∀ q ∈ ow, p.2 = q.2 → p.1 = q.1
  fr : ∀ p ∈ ow, p.2 ∉ frs X.stack
  ba : ∀ p ∈ ow, X.base.get? p.2 = none
theorem own_of (I : Inv X pins σ H s) (fr : Fr (Z.at ow) c.N c.BX CE σ ρ μ st H) (o : OwF X c CE ow) : OwnC X ow Z H s μ st ρ.bx := by
  have key : ∀ p ∈ ow, ∃ (i : Nat) (x : Str), i ∈ c.BX ∧ c.N[i]? = some x ∧ X.env.cells.lookup x = some p.2 ∧ ∀ d, st[p.1]? = some (Cell.var (some d)) → ∃ v, σ[i]? = some (some v) ∧ Rep (Z.at ow) H μ v d := fun p hp => by
    obtain ⟨j, hj⟩ := List.mem_iff_getElem?.mp (fr.own p hp)
    obtain ⟨i, x, cc, h1, h2, h3, h4, h5⟩ := fr.box j p.1 hj
    have e := o.one p hp _ h4 rfl
    exact ⟨i, x, List.mem_of_getElem? h1, h2, by rw [← o.ce, e]; exact h3, h5⟩
  refine ⟨fun p hp => ?_, fr.own, fun p hp d hd => ?_, o.fr, o.ba, o.one, o.two⟩
  · obtain ⟨i, x, _, h2, h3, _⟩ := key p hp
    refine ⟨I.freeC x p.2 h3, ?_⟩
    obtain ⟨w, ob, e1, e2⟩ := I.cell x p.2 h3
    exact ⟨ob, w, e1, e2⟩
  · obtain ⟨i, x, h1, h2, h3, h4⟩ := key p hp
    obtain ⟨v, q1, q2⟩ := h4 d hd
    obtain ⟨m, _, hl⟩ := I.loc
    have hv := o.vis i x h1 h2
    obtain ⟨u, r, hk⟩ := hl i x v (by rw [o.N]; exact h2) q1 (hv.elim (fun z => .inr (.inl z)) (fun z => .inr (.inr z)))
    rcases hk with ⟨k, _⟩ | ⟨_, c', e', z⟩
    · have k : X.env.scope.names.lookup x = some .local := k
      rcases hv with z | z <;> rw [z] at k <;> cases k
    · rw [h3] at e'; cases e'
      exact ⟨v, u, z, r, q2⟩
theorem own_nil (fr : Fr (Z.at ow) c.N c.BX CE σ ρ μ st H) (h : c.BX = []) : ∀ p ∈ ow, False := fun p hp => by
  obtain ⟨j, hj⟩ := List.mem_iff_getElem?.mp (fr.own p hp)
  obtain ⟨i, _, _, h1, _⟩ := fr.box j p.1 hj
  rw [h] at h1; simp at h1
theorem own_any {X' : Cx} (I : Inv X' pins σ H s) (fr : Fr (Z.at ow) c.N c.BX CE σ ρ μ st H) (o : c.top = true → OwF X c CE ow) (h : c.BX = [] ∨ (c.top = true ∧ X' = X)) : OwnC X' ow Z H s μ st ρ.bx := by
  rcases h with h | ⟨h1, rfl⟩
  · have z := own_nil fr h
    exact ⟨fun p hp => (z p hp).elim, fr.own, fun p hp => (z p hp).elim, fun p hp => (z p hp).elim, fun p hp => (z p hp).elim, fun p hp => (z p hp).elim, fun p hp => (z p hp).elim⟩
  · exact own_of I fr (o h1)
/-- the calls of defs from a frame -/
theorem run_of {n : Nat} (hK : X.K = Z.K) (hC : CallP X.prog X.w X.mg X.base Z c.g n) (hr : RoomY n X.A) (o : c.top = true → OwF X c CE ow) : ∀ (X' : Cx), Sib X X' → (c.BX = [] ∨ (c.top = true ∧ X' = X)) → ∀ (f nn : Nat) (ks : List Str) (ps : List Str), (f, nn, ks) ∈ c.g.sigs → c.g.fps[f]? = some ps → ∀ (pins : List (Addr × Obj)) (σ : L2.St) (H : Hp) (s : Shared) (us ws : List Value) (vs zs : List V) (Q : VK) (ρ : Env) (μ : Mu) (st : Sto) (xs ys args : List D),
    Inv X' pins σ H s → Vals vs us → Vals zs ws → Fr (Z.at ow) c.N c.BX CE σ ρ μ st H → Reps (Z.at ow) H μ vs xs → Reps (Z.at ow) H μ zs ys → xs.length = nn → ys.length = ks.length → permD (permOf ps nn ks) (xs ++ ys) = some args →
    tR (relD (Z.at ow)) (Z.at ow) C8.E0 ρ.bx ρ.bs μ st H ((calls c.g.P n).fn f args st) Q → wpAny (model X'.prog X'.w) X'.A (PySem.call (.ref ((Z.at ow).F f)) us (ks.zip ws)) (EP X' pins σ Q) X'.xe s := by
  intro X' sb hb f nn ks ps hs hf pins σ H s us ws vs zs Q ρ μ st xs ys args I rv rz fr r1 r2 l1 l2 hp h
  have oc := own_any I fr o hb
  obtain ⟨t, sT, e0⟩ := track I fr.sto oc
  cases e : (calls c.g.P n).fn f args st with
  | ex _ _ => rw [e] at h; exact h.elim
  | no => rw [e] at h; exact h.elim
  | ok d st' =>
  rw [e] at h
  have hC' : CallP X'.prog X'.w X'.mg X'.base Z c.g n := by rw [sb.prog, sb.w, sb.mg, sb.base]; exact hC
  have hr' : RoomY n X'.A := by rw [sb.A]; exact hr
  have hK' : X'.K = Z.K := sb.K.trans hK
  rw [hK'] at e0
  have rc := hC' f nn ks ps hs hf X'.A X'.stack s _ us ws vs zs _ st xs ys args d st' hr' e0 rv rz sT (Reps.move t.moveT r1) (Reps.move t.moveT r2) l1 l2 hp e
  refine wpAny_call (codeAny_mono rc fun r s' hq => ?_)
  cases r with
  | error e => exact (show False from hq).elim
  | ok fl =>
    cases fl with
    | ret u => exact untrack I fr oc hq h
    | next => exact False.elim hq
    | brk => exact False.elim hq
    | cont => exact False.elim hq
theorem vrun_of {n : Nat} (hK : X.K = Z.K) (hC : LamP X.prog X.w X.mg X.base Z c.g n) (hr : RoomY n X.A) (o : c.top = true → OwF X c CE ow) : ∀ (X' : Cx), Sib X X' → (c.BX = [] ∨ (c.top = true ∧ X' = X)) → ∀ (pins : List (Addr × Obj)) (σ : L2.St) (H : Hp) (s : Shared) (us : List Value) (vs : List V) (Q : VK) (ρ : Env) (μ : Mu) (st : Sto) (xs : List D) (l : Nat) (cs : List Nat) (ga : Addr),
    Inv X' pins σ H s → Vals vs us → Fr (Z.at ow) c.N c.BX CE σ ρ μ st H → Reps (Z.at ow) H μ vs xs → Rep (Z.at ow) H μ (.ref ga) (.clo l cs) →
    tR (relD (Z.at ow)) (Z.at ow) C8.E0 ρ.bx ρ.bs μ st H ((calls c.g.P n).clo l cs xs st) Q → wpAny (model X'.prog X'.w) X'.A (PySem.call (.ref ga) us []) (EP X' pins σ Q) X'.xe s := by
  intro X' sb hb pins σ H s us vs Q ρ μ st xs l cs ga I rv fr r1 rg h
  have oc := own_any I fr o hb
  obtain ⟨t, sT, e0⟩ := track I fr.sto oc
  cases e : (calls c.g.P n).clo l cs xs st with
  | ex _ _ => rw [e] at h; exact h.elim
  | no => rw [e] at h; exact h.elim
  | ok d st' =>
  rw [e] at h
  have hC' : LamP X'.prog X'.w X'.mg X'.base Z c.g n := by rw [sb.prog, sb.w, sb.mg, sb.base]; exact hC
  have hr' : RoomY n X'.A := by rw [sb.A]; exact hr
  have hK' : X'.K = Z.K := sb.K.trans hK
  rw [hK'] at e0
  have rc := hC' l cs ga X'.A X'.stack s _ us vs _ st xs d st' hr' e0 rv sT (Reps.move t.moveT r1) (rg.move t.moveT) e
  refine wpAny_call (codeAny_mono rc fun r s' hq => ?_)
  cases r with
  | error e => exact (show False from hq).elim
  | ok fl =>
    cases fl with
    | ret u => exact untrack I fr oc hq h
    | next => exact False.elim hq
    | brk => exact False.elim hq
    | cont => exact False.elim hq
end
end Y
end
section
set_option Elab.async false
set_option linter.all false
set_option maxRecDepth 100000
set_option maxHeartbeats 4000000
set_option autoImplicit false
/-! Y26: a def's frame. -/
namespace Y
open PySem PySem.Spec PyProof.Rows L2 LamX NdefX
/-! ### arguments in the parameters' order -/
section
variable {Z : Lk} {H : Hp} {μ : Mu}
theorem vals_at : ∀ {vs : List V} {us : List Value} {i : Nat} {v : V} {u : Value}, Vals vs us → vs[i]? = some v → us[i]? = some u → RelV v u
  | _, _, _, _, _, .nil, h, _ => by simp at h
  | _, _, 0, _, _, .cons r _, h1, h2 => by simp at h1 h2; subst h1 h2; exact r
  | _, _, i + 1, _, _, .cons _ r, h1, h2 => vals_at (i := i) r (by simpa using h1) (by simpa using h2)
theorem perm_vals {l : List D} {vs : List V} {us : List Value} (r : Reps Z H μ vs l) (v : Vals vs us) : ∀ {p : List Nat} {args : List D}, p.mapM (fun i => l[i]?) = some args → ∃ (vs' : List V) (us' : List Value), Reps Z H μ vs' args ∧ Vals vs' us' ∧ us'.length = p.length ∧ ∀ (k i : Nat), p[k]? = some i → us'[k]? = us[i]?
  | [], args, h => by
    simp at h; subst h
    exact ⟨[], [], .nil, .nil, rfl, fun k i e => by simp at e⟩
  | i :: p, args, h => by
    simp only [List.mapM_cons] at h
    cases h1 : l[i]? with
    | none => rw [h1] at h; cases h
    | some d =>
      rw [h1] at h
      cases h2 : p.mapM (fun i => l[i]?) with
      | none => rw [h2] at h; cases h
      | some ds =>
        rw [h2] at h; cases h
        obtain ⟨vs', us', q1, q2, q3, q4⟩ := perm_vals r v h2
        obtain ⟨x, hx, rx⟩ := r.get h1
        obtain ⟨u, hu, ru⟩ := v.get hx
        refine ⟨x :: vs', u :: us', .cons rx q1, .cons ru q2, by simp [q3], fun k j e => ?_⟩
        cases k with
        | zero => simp at e; subst e; simp [hu]
        | succ k => simpa using q4 k j (by simpa using e)
theorem bind_perm {fd : FuncData} {ps : List Str} {params : Arguments} {nn : Nat} {ks : List Str} {us ws : List Value} {vs zs : List V} {xs ys args : List D} (hp : fd.params = params) (hd : fd.defaults = .none) (hs : simpleP ps params = true) (hg : sigB ps nn ks = true)
    (v1 : Vals vs us) (v2 : Vals zs ws) (r1 : Reps Z H μ vs xs) (r2 : Reps Z H μ zs ys) (l1 : xs.length = nn) (l2 : ys.length = ks.length) (h : permD (permOf ps nn ks) (xs ++ ys) = some args) :
    ∃ (vs' : List V) (us' : List Value), Reps Z H μ vs' args ∧ Vals vs' us' ∧ us'.length = ps.length ∧ bindArgs fd ⟨us, ks.zip ws⟩ = pure (ps.zip us') := by
  obtain ⟨args0, rfl, hpp⟩ : ∃ (as : List PySem.Arg), ps = as.map (·.arg) ∧ params = ⟨[], as, none, [], [], none, []⟩ := by
    unfold simpleP at hs
    split at hs
    · exact ⟨_, (of_decide_eq_true hs).symm, rfl⟩
    · cases hs
  have lu : us.length = nn := by rw [← v1.length, r1.length]; exact l1
  have lw : ws.length = ks.length := by rw [← v2.length, r2.length]; exact l2
  have hg' := hg
  simp only [sigB, Bool.and_eq_true, decide_eq_true_eq] at hg'
  have ln : nn + ks.length = args0.length := by have := hg'.1.1.2; rw [List.length_map] at this; exact this
  by_cases hk : ks = []
  · subst hk
    simp only [permOf, if_true, permD, Option.some.injEq] at h
    have : ys = [] := List.length_eq_zero_iff.mp (by simpa using l2)
    subst this
    cases r2
    cases v2
    rw [List.append_nil] at h
    subst h
    refine ⟨vs, us, r1, v1, by rw [lu, List.length_map]; simpa using ln, bind_sig (kwd := []) (dfl := []) (hp.trans hpp) hd (by rw [lu]; exact hg) rfl (by rw [lu]; simpa using ln) (fun i u _ e => e) fun i x u hi _ e => ?_⟩
    have := (List.getElem?_eq_some_iff.mp e).1
    omega
  · simp only [permOf, if_neg hk, permD] at h
    obtain ⟨vs', us', q1, q2, q3, q4⟩ := perm_vals (r1.append r2) (v1.append v2) h
    have hlen : us'.length = args0.length := by rw [q3]; simp
    have at' : ∀ (i : Nat), i < args0.length → us'[i]? = (us ++ ws)[if i < nn then i else nn + ks.idxOf ((args0.map (fun q : PySem.Arg => q.arg)).getD i ("" : Str))]? := fun i hi => q4 i _ (by
      rw [List.getElem?_map, List.getElem?_range (by rw [List.length_map]; exact hi)]; rfl)
    refine ⟨vs', us', q1, q2, by rw [hlen, List.length_map], bind_sig (kwd := []) (dfl := []) (hp.trans hpp) hd (by rw [lu]; exact hg) lw hlen (fun i u hi e => ?_) fun i x u hi ex e => ?_⟩
    · rw [at' i (by omega), if_pos (by omega), List.getElem?_append_left hi] at e
      exact e
    · have hia : i < args0.length := by have := (List.getElem?_eq_some_iff.mp ex).1; rwa [List.length_map] at this
      rw [at' i hia, if_neg (by omega)] at e
      have hx : (args0.map (fun q : PySem.Arg => q.arg)).getD i ("" : Str) = x := by rw [List.getD_eq_getElem?_getD, ex]; rfl
      rw [hx, List.getElem?_append_right (by omega), lu, Nat.add_sub_cancel_left] at e
      exact e
end
/-! ### the frame -/
/-- what must be so of a def's text beside its own form -/
def fnB (ps : List Str) (fd : Fd) (N : List Str) (BX : List Nat) (params : Arguments) (scope : Scope) : Bool :=
  simpleP ps params && decide (scope.kind = .function) && !scope.isCoroutine && !scope.isGenerator && decide N.Nodup && decide (N.take ps.length = ps) && ps.all (fun x => decide (scope.names.lookup x = some .local) || decide (scope.names.lookup x = some .cell)) &&
    scope.names.all (fun y => !decide (y.2 = .free)) && decide (fd.np = ps.length) && decide (fd.ns = N.length) && decide BX.Nodup && decide (fd.bxs = BX.map fun i => if i < ps.length then some i else none) &&
    BX.all fun i => match N[i]? with
      | some x => decide (scope.names.lookup x = some .cell)
      | none => false
theorem fnB_scope {ps : List Str} {fd : Fd} {N : List Str} {BX : List Nat} {params : Arguments} {scope : Scope} (h : fnB ps fd N BX params scope = true) : FnScope N ps scope ∧ simpleP ps params = true ∧ fd.np = ps.length ∧ fd.ns = N.length ∧ (fd.bxs = BX.map fun i => if i < ps.length then some i else none) ∧ BX.Nodup ∧
    ∀ i ∈ BX, ∃ x, N[i]? = some x ∧ scope.names.lookup x = some .cell := by
  simp only [fnB, Bool.and_eq_true, decide_eq_true_eq, Bool.not_eq_true', List.all_eq_true, Bool.or_eq_true, decide_eq_false_iff_not] at h
  obtain ⟨⟨⟨⟨⟨⟨⟨⟨⟨⟨⟨⟨h1, h2⟩, h3⟩, h4⟩, h5⟩, h6⟩, h7⟩, h8⟩, h9⟩, h10⟩, hnd⟩, h11⟩, h12⟩ := h
  refine ⟨⟨h2, h3, h4, h5, h6, h7, h8⟩, h1, h9, h10, h11, hnd, fun i hi => ?_⟩
  have := h12 i hi
  split at this
  · exact ⟨_, by assumption, of_decide_eq_true this⟩
  · cases this
def owOf (b0 : Nat) (N : List Str) (BX : List Nat) (CE : List (Str × Addr)) : List (Nat × Addr) := (List.range BX.length).map fun j => (b0 + j, (CE.lookup (N.getD (BX.getD j 0) "")).getD 0)
theorem ow_mem {b0 : Nat} {N : List Str} {BX : List Nat} {CE : List (Str × Addr)} {p : Nat × Addr} (h : p ∈ owOf b0 N BX CE) : ∃ j i, BX[j]? = some i ∧ p.1 = b0 + j ∧ p.2 = (CE.lookup (N.getD i "")).getD 0 := by
  obtain ⟨j, hj, rfl⟩ := List.mem_map.mp h
  rw [List.mem_range] at hj
  refine ⟨j, BX[j], List.getElem?_eq_getElem hj, rfl, ?_⟩
  simp only [List.getD_eq_getElem?_getD, List.getElem?_eq_getElem hj, Option.getD_some]
theorem ow_at {b0 : Nat} {N : List Str} {BX : List Nat} {CE : List (Str × Addr)} {j i : Nat} {x : Str} {cc : Addr} (h1 : BX[j]? = some i) (h2 : N[i]? = some x) (h3 : CE.lookup x = some cc) : (b0 + j, cc) ∈ owOf b0 N BX CE := by
  refine List.mem_map.mpr ⟨j, List.mem_range.mpr (List.getElem?_eq_some_iff.mp h1).1, ?_⟩
  simp only [List.getD_eq_getElem?_getD, h1, Option.getD_some, h2, h3]
section
variable {Z : Lk} {H : Hp} {μ : Mu} {st : Sto} {N ps : List Str} {BX : List Nat} {CE : List (Str × Addr)} {fd : Fd} {args : List D} {vs : List V}
def inMu (μ : Mu) (nb : Nat) : Mu := ⟨μ.m ++ List.replicate nb none, μ.hot, μ.vc⟩
def inSt (st : Sto) (fd : Fd) (args : List D) : Sto := st ++ fd.bxs.map fun b => .var (match b with
  | some i => args[i]?
  | none => none)
def inEnv (st : Sto) (fd : Fd) (args : List D) : Env := ⟨fgt (args.map some ++ List.replicate (fd.ns - fd.np) none) (fd.bxs.filterMap id), List.range' st.length fd.bxs.length, st.length⟩
theorem in_move {ow : List (Nat × Addr)} {nb : Nat} : Move Z [] H μ ow H (inMu μ nb) := by
  refine ⟨fun q u _ e n => ⟨⟨fun z => ?_, n.2⟩, e⟩, fun i a e => ?_, fun n c e => ⟨?_, .inl ?_⟩⟩
  · rcases List.mem_append.mp z with z | z
    · exact n.1 z
    · have := List.eq_of_mem_replicate z; cases this
  · show (μ.m ++ _)[i]? = _
    rw [List.getElem?_append_left (List.getElem?_eq_some_iff.mp e).1]; exact e
  · show n < (μ.m ++ _).length
    have := e.1
    rw [List.length_append]; omega
  · rcases e.2 with z | z
    · exact z
    · cases z
theorem in_sto {ow : List (Nat × Addr)} (s : StoR (Z.at []) [] μ st H) : StoR (Z.at ow) (List.range' st.length fd.bxs.length) (inMu μ fd.bxs.length) (inSt st fd args) H := by
  have lt : ∀ {i : Nat} {cl : Cell}, i < st.length → (inSt st fd args)[i]? = st[i]? := fun {i cl} hi => by
    unfold inSt; rw [List.getElem?_append_left hi]
  have ml : ∀ {i : Nat}, i < st.length → (inMu μ fd.bxs.length).m[i]? = μ.m[i]? := fun {i} hi => by
    show (μ.m ++ _)[i]? = _
    rw [List.getElem?_append_left (by rw [s.len]; exact hi)]
  have mr : ∀ {i : Nat} {oa : Option Addr}, st.length ≤ i → (inMu μ fd.bxs.length).m[i]? = some oa → oa = none := fun {i oa} hi e => by
    have e' : (μ.m ++ List.replicate fd.bxs.length none)[i]? = some oa := e
    rw [List.getElem?_append_right (by rw [s.len]; exact hi), List.getElem?_replicate] at e'
    split at e'
    · cases e'; rfl
    · cases e'
  have vr : ∀ {i : Nat} {cl : Cell}, st.length ≤ i → (inSt st fd args)[i]? = some cl → (∃ od, cl = .var od) ∧ i < st.length + fd.bxs.length := fun {i cl} hi e => by
    unfold inSt at e
    rw [List.getElem?_append_right hi, List.getElem?_map] at e
    obtain ⟨b, hb, rfl⟩ := Option.map_eq_some_iff.mp e
    have := (List.getElem?_eq_some_iff.mp hb).1
    exact ⟨⟨_, rfl⟩, by omega⟩
  refine ⟨?_, fun i j a h1 h2 => ?_, fun n xs e => ?_, fun n k xs e => ?_, fun n od e => ?_, fun n a e => ?_, fun n hn => ?_, ⟨s.vu.inj, s.vu.one, fun n a hn z => ?_⟩, s.tabs, fun b hb => ?_⟩
  · show (μ.m ++ _).length = (st ++ _).length
    rw [List.length_append, List.length_append, List.length_replicate, List.length_map, s.len]
  · have hi : i < st.length := by
      by_cases h : i < st.length
      · exact h
      · have := mr (by omega) h1; cases this
    have hj : j < st.length := by
      by_cases h : j < st.length
      · exact h
      · have := mr (by omega) h2; cases this
    rw [ml hi] at h1
    rw [ml hj] at h2
    exact s.nd i j a h1 h2
  · have hn : n < st.length := by
      by_cases h : n < st.length
      · exact h
      · obtain ⟨⟨od, h2⟩, _⟩ := vr (by omega) e; cases h2
    rw [lt (cl := .lst xs) hn] at e
    obtain ⟨a, vs, h1, h2, h3⟩ := s.cell n xs e
    exact ⟨a, vs, by rw [ml hn]; exact h1, h2, Reps.move in_move h3⟩
  · have hn : n < st.length := by
      by_cases h : n < st.length
      · exact h
      · obtain ⟨⟨od, h2⟩, _⟩ := vr (by omega) e; cases h2
    rw [lt (cl := .dct k xs) hn] at e
    obtain ⟨a, vs, h1, h2, h4, h3⟩ := s.dc n k xs e
    exact ⟨a, vs, by rw [ml hn]; exact h1, h2, h4, Reps.move in_move h3⟩
  · by_cases h : n < st.length
    · rw [lt (cl := .var od) h] at e
      rw [ml h]; exact s.var n od e
    · obtain ⟨_, h2⟩ := vr (by omega) e
      show (μ.m ++ List.replicate fd.bxs.length none)[n]? = _
      rw [List.getElem?_append_right (by rw [s.len]; omega), List.getElem?_replicate, if_pos (by rw [s.len]; omega)]
  · obtain ⟨od, o, h1, h2, h4, h3⟩ := s.vcs n a e
    have hn := (List.getElem?_eq_some_iff.mp h1).1
    refine ⟨od, o, by rw [lt (cl := .var od) hn]; exact h1, h2, h4, fun d hd => ?_⟩
    obtain ⟨v, u, q1, q2, q3⟩ := h3 d hd
    exact ⟨v, u, q1, q2, q3.move in_move⟩
  · rw [List.mem_range'_1] at hn
    refine ⟨?_, ?_⟩
    · show (μ.m ++ List.replicate fd.bxs.length none)[n]? = _
      rw [List.getElem?_append_right (by rw [s.len]; omega), List.getElem?_replicate, if_pos (by rw [s.len]; omega)]
    · have hb : n - st.length < fd.bxs.length := by omega
      refine ⟨match fd.bxs[n - st.length] with
        | some i => args[i]?
        | none => none, ?_⟩
      unfold inSt
      rw [List.getElem?_append_right hn.1, List.getElem?_map, List.getElem?_eq_getElem hb]; rfl
  · obtain ⟨od, o, h1, _⟩ := s.vcs n a z
    have h2 := (List.getElem?_eq_some_iff.mp h1).1
    rw [List.mem_range'_1] at hn
    omega
  · obtain ⟨h1, h2⟩ := s.hot b hb
    refine ⟨h1, fun z => ?_⟩
    rcases List.mem_append.mp z with z | z
    · exact h2 z
    · have := List.eq_of_mem_replicate z; cases this
end
end Y
end
section
set_option Elab.async false
set_option linter.all false
set_option maxRecDepth 100000
set_option maxHeartbeats 4000000
set_option autoImplicit false
/-! Y27: a def runs. -/
namespace Y
open PySem PySem.Spec PyProof.Rows L2 LamX NdefX
section
variable {Z : Lk} {H : Hp} {μ : Mu} {st : Sto} {N ps : List Str} {BX : List Nat} {CE : List (Str × Addr)} {fd : Fd} {args : List D} {vs : List V} {params : Arguments} {scope : Scope}
theorem in_fr (s : StoR (Z.at []) [] μ st H) (r : Reps (Z.at []) H μ vs args) (hb : fnB ps fd N BX params scope = true) (ha : args.length = fd.np) (hc : ∀ x, scope.names.lookup x = some .cell → ∃ c, CE.lookup x = some c) :
    Fr (Z.at (owOf st.length N BX CE)) N BX CE (L2.start N vs) (inEnv st fd args) (inMu μ fd.bxs.length) (inSt st fd args) H := by
  obtain ⟨S, k1, k2, k3, k4, knd, k5⟩ := fnB_scope hb
  have lb : fd.bxs.length = BX.length := by rw [k4, List.length_map]
  have lv : vs.length = args.length := r.length
  have hpl : ps.length ≤ N.length := by have := congrArg List.length S.pre; rw [List.length_take] at this; omega
  have r' : Reps (Z.at (owOf st.length N BX CE)) H (inMu μ fd.bxs.length) vs args := Reps.move in_move r
  have sl : ∀ {i : Nat} {d : D}, args[i]? = some d → ∃ v, (L2.start N vs)[i]? = some (some v) ∧ Rep (Z.at (owOf st.length N BX CE)) H (inMu μ fd.bxs.length) v d := fun {i d} e => by
    obtain ⟨v, q1, q2⟩ := r'.get e
    refine ⟨v, ?_, q2⟩
    unfold L2.start
    rw [List.getElem?_append_left (by rw [List.length_map]; exact (List.getElem?_eq_some_iff.mp q1).1), List.getElem?_map, q1]; rfl
  refine ⟨in_sto s, fun i d h => ?_, ?_, ?_, fun p hp => ?_, fun j n h => ?_⟩
  · obtain ⟨h1, _⟩ := fgt_some (show (fgt _ _)[i]? = _ from h)
    refine sl ?_
    by_cases hi : i < args.length
    · rw [List.getElem?_append_left (by rw [List.length_map]; exact hi), List.getElem?_map] at h1
      obtain ⟨d', e1, e2⟩ := Option.map_eq_some_iff.mp h1
      cases e2; exact e1
    · rw [List.getElem?_append_right (by rw [List.length_map]; omega), List.getElem?_replicate] at h1
      split at h1 <;> cases h1
  · show st.length ≤ (st ++ _).length
    rw [List.length_append]; omega
  · show (fgt _ _).length ≤ _
    rw [fgt_len]
    unfold L2.start
    rw [List.length_append, List.length_append, List.length_map, List.length_map, List.length_replicate, List.length_replicate]
    omega
  · obtain ⟨j, i, e1, e2, _⟩ := ow_mem hp
    show p.1 ∈ List.range' st.length fd.bxs.length
    rw [List.mem_range'_1, e2, lb]
    have := (List.getElem?_eq_some_iff.mp e1).1
    omega
  · have h' : (List.range' st.length fd.bxs.length)[j]? = some n := h
    obtain ⟨hj, e⟩ := List.getElem?_eq_some_iff.mp h'
    rw [List.length_range'] at hj
    rw [List.getElem_range'] at e
    have hj' : j < BX.length := by rw [← lb]; exact hj
    have e1 : BX[j]? = some BX[j] := List.getElem?_eq_getElem hj'
    obtain ⟨x, hx, hs⟩ := k5 BX[j] (List.getElem_mem hj')
    obtain ⟨cc, hcc⟩ := hc x hs
    have hn : n = st.length + j := by omega
    subst hn
    refine ⟨BX[j], x, cc, e1, hx, hcc, ow_at e1 hx hcc, fun d hd => ?_⟩
    have hd' : (st ++ fd.bxs.map fun b => Cell.var (match b with
      | some i => args[i]?
      | none => none))[st.length + j]? = some (Cell.var (some d)) := hd
    rw [List.getElem?_append_right (by omega), Nat.add_sub_cancel_left, List.getElem?_map] at hd'
    obtain ⟨b, hb1, hb2⟩ := Option.map_eq_some_iff.mp hd'
    rw [k4, List.getElem?_map, e1] at hb1
    simp only [Option.map_some, Option.some.injEq] at hb1
    by_cases hlt : BX[j] < ps.length
    · rw [if_pos hlt] at hb1
      subst hb1
      simp only [Cell.var.injEq] at hb2
      exact sl hb2
    · rw [if_neg hlt] at hb1
      subst hb1
      simp at hb2
/-- at the end -/
theorem left_of {ow : List (Nat × Addr)} {μ' : Mu} {st' : Sto} {H' : Hp} (s : StoR (Z.at []) [] μ st H) (ho : ∀ p ∈ ow, st.length ≤ p.1) (n : Nx (Z.at ow) (List.range' st.length fd.bxs.length) st.length (inMu μ fd.bxs.length) (inSt st fd args) H μ' st' H') : Left Z ow fd.bxs.length μ st H μ' st' H' := by
  have le : (inSt st fd args).length = st.length + fd.bxs.length := by unfold inSt; rw [List.length_append, List.length_map]
  have lt : ∀ {i : Nat} (cl : Cell), i < st.length → (inSt st fd args)[i]? = st[i]? := fun {i} cl hi => by
    unfold inSt; rw [List.getElem?_append_left hi]
  obtain ⟨m, e1, e2⟩ := n.ext.pre
  refine ⟨s, ho, by have := n.pres.len; omega, ⟨List.replicate fd.bxs.length none ++ m, by rw [e1]; show (μ.m ++ _) ++ m = _; rw [List.append_assoc], fun b hb => ?_⟩, fun b u hb hu e => ?_, n.ext.mono, n.vce, n.hots, fun b hb h => n.pres.old b hb fun i cl hi e => ?_, fun i od hi e => ?_, n.cells, ⟨_, n.sto⟩⟩
  · rcases List.mem_append.mp hb with z | z
    · have := List.eq_of_mem_replicate z; cases this
    · exact e2 b z
  · refine n.ext.keep b u ⟨fun z => ?_, hb.2⟩ hu e
    rcases List.mem_append.mp (show some b ∈ μ.m ++ _ from z) with z | z
    · exact hb.1 z
    · have := List.eq_of_mem_replicate z; cases this
  · rw [lt cl (by omega)] at e
    exact h i cl hi e
  · refine n.vars i od (fun z => ?_) (by rw [lt (.var od) hi]; exact e)
    rw [List.mem_range'_1] at z
    omega
end
section
variable {prog : Program} {w : World} {mg : Str → Option Value} {base : Heap} {Z : Lk} {g : CfG} {n : Nat}
variable {f : Nat} {ps : List Str} {fd : Fd} {name qual : Str} {params : Arguments} {body : List Stmt} {scope : Scope} {kV doc pm cdv ct oc : Value} {an od : Option Addr} {osl : Array (Option Value)} {N : List Str} {BX : List Nat} {lam : Bool} {m : Nat}
def cfD (g : CfG) (N : List Str) (scope : Scope) (BX : List Nat) (lam : Bool) : Cf := ⟨g, N, scope, BX, fun _ => true, true, lam⟩
theorem good_def {A : Around} {outer : List PySem.Env} {s : Shared} {H : Hp} {fa : Addr} (Gl : Glob mg base Z g) (hC : CallP prog w mg base Z g n) (hL : LamP prog w mg base Z g n) (hb : fnB ps fd N BX params scope = true)
    (hlam : lam = true → ∃ cc P, cdv = .ref cc ∧ TabB base mg cc P ∧ (P, qual ++ ".<locals>." ++ "<lambda>") ∈ Z.tabs ∧ ∀ p ∈ Z.tabs, p.1 = P → p.2 = qual ++ ".<locals>." ++ "<lambda>") (hr : RoomY n (A.deeper (envOfC qual scope s.heap.objs.size fa cdv))) (b0 : Nat)
    {pins : List (Addr × Obj)} {σ : L2.St} {H1 : Hp} {s1 : Shared} (I : Inv (cxOf C8.CX0 prog w Z.K mg base N qual scope fa cdv A outer s H C8.E0) pins σ H1 s1) :
    GoodS (Z.at (owOf b0 N BX (cellsFrom (s.heap.objs.size + 1) scope.names []))) (calls g.P n) (cfD g N scope BX lam) (cellsFrom (s.heap.objs.size + 1) scope.names []) (cxOf C8.CX0 prog w Z.K mg base N qual scope fa cdv A outer s H C8.E0) C8.E0 := by
  obtain ⟨S, k1, k2, k3, k4, knd, k5⟩ := fnB_scope hb
  have owf : OwF (cxOf C8.CX0 prog w Z.K mg base N qual scope fa cdv A outer s H C8.E0) (cfD g N scope BX lam) (cellsFrom (s.heap.objs.size + 1) scope.names []) (owOf b0 N BX (cellsFrom (s.heap.objs.size + 1) scope.names [])) := by
    have big : ∀ p ∈ owOf b0 N BX (cellsFrom (s.heap.objs.size + 1) scope.names []), ∃ x, (cxOf C8.CX0 prog w Z.K mg base N qual scope fa cdv A outer s H C8.E0).env.cells.lookup x = some p.2 ∧ ∃ j i, BX[j]? = some i ∧ p.1 = b0 + j ∧ N[i]? = some x := fun p hp => by
      obtain ⟨j, i, e1, e2, e3⟩ := ow_mem hp
      obtain ⟨x, hx, hs⟩ := k5 i (List.mem_of_getElem? e1)
      obtain ⟨cc, hcc⟩ := cell_has (n := s.heap.objs.size + 1) hs
      refine ⟨x, ?_, j, i, e1, e2, hx⟩
      have hx' : N.getD i "" = x := by rw [List.getD_eq_getElem?_getD, hx]; rfl
      rw [e3, hx', hcc]
      exact hcc
    refine ⟨rfl, rfl, fun i x hi hx => ?_, fun p hp q hq e => ?_, fun p hp q hq e => ?_, fun p hp => fun z => ?_, fun p hp => ?_⟩
    · obtain ⟨x', hx', hs⟩ := k5 i hi
      have hx'' : N[i]? = some x := hx
      rw [hx''] at hx'
      cases hx'
      exact .inl hs
    · obtain ⟨j, i, a1, a2, a3⟩ := ow_mem hp
      obtain ⟨j', i', b1, b2, b3⟩ := ow_mem hq
      have : j = j' := by omega
      subst this
      rw [a1] at b1; cases b1
      rw [a3, b3]
    · obtain ⟨x, hx, j, i, a1, a2, a3⟩ := big p hp
      obtain ⟨y, hy, j', i', b1, b2, b3⟩ := big q hq
      rw [e] at hx
      have hxy := I.ok.inj x y _ hx hy
      subst hxy
      have hi : i = i' := (List.getElem?_inj (List.getElem?_eq_some_iff.mp a3).1 S.nd).mp (a3.trans b3.symm)
      subst hi
      have hj : j = j' := (List.getElem?_inj (List.getElem?_eq_some_iff.mp a1).1 knd).mp (a1.trans b1.symm)
      rw [a2, b2, hj]
    · obtain ⟨x, hx, _⟩ := big p hp
      rcases List.mem_cons.mp (I.stkSub _ z) with e | e
      · exact I.cne x _ hx e
      · obtain ⟨_, o, ho, _⟩ := I.ok.funs.mem e
        have h1 := Heap.lt_size ho
        have h2 := I.ok.cab x _ rfl hx
        exact absurd (Nat.lt_of_lt_of_le h1 h2) (Nat.lt_irrefl _)
    · obtain ⟨x, hx, _⟩ := big p hp
      exact Heap.get?_none_of_le (Nat.le_trans I.ok.bsz (I.ok.cab x _ rfl hx))
  have po : PassesOwn (model prog w) (cxOf C8.CX0 prog w Z.K mg base N qual scope fa cdv A outer s H C8.E0).A (cxOf C8.CX0 prog w Z.K mg base N qual scope fa cdv A outer s H C8.E0).env (cxOf C8.CX0 prog w Z.K mg base N qual scope fa cdv A outer s H C8.E0).xe := passes_of (X := cxOf C8.CX0 prog w Z.K mg base N qual scope fa cdv A outer s H C8.E0) rfl
  have G : Good (Z.at (owOf b0 N BX (cellsFrom (s.heap.objs.size + 1) scope.names []))) (calls g.P n) (cfD g N scope BX lam) (cellsFrom (s.heap.objs.size + 1) scope.names []) (cxOf C8.CX0 prog w Z.K mg base N qual scope fa cdv A outer s H C8.E0) C8.E0 :=
    { K := rfl
      N := rfl
      sc := rfl
      nd := S.nd
      calm := rfl
      units := hr.r.units
      guards := hr.g
      tg := fun _ _ => rfl
      gd := Gl.gd
      gf := Gl.gf
      bl := Gl.bl
      kp := Gl.kp
      ce := fun _ => rfl
      lamT := fun hl => by
        obtain ⟨cc, P, h1, h2, h3, h4⟩ := hlam hl
        exact ⟨cc, P, h2, h1, h3, h4⟩
      lok := Gl.lok
      run := run_of (c := cfD g N scope BX lam) (X := cxOf C8.CX0 prog w Z.K mg base N qual scope fa cdv A outer s H C8.E0) rfl hC hr fun _ => owf
      vrun := vrun_of (c := cfD g N scope BX lam) (X := cxOf C8.CX0 prog w Z.K mg base N qual scope fa cdv A outer s H C8.E0) rfl hL hr fun _ => owf }
  exact ⟨G, S.kind, po⟩
theorem def_call (Gl : Glob mg base Z g) (hC : CallP prog w mg base Z g n) (hL : LamP prog w mg base Z g n) (lk : Z.K.lookup (Z.F f) = some ⟨oc, od, .func (PySem.W.fnOf name qual params body scope .none kV doc pm an cdv ct), osl⟩) (hcd : PySem.W.codeIn Z.K cdv qual = true) (hb : fnB ps fd N BX params scope = true)
    (hch : chkSs m (cfD g N scope BX lam) fd.body body = true) (hlam : lam = true → ∃ cc P, cdv = .ref cc ∧ TabB base mg cc P ∧ (P, qual ++ ".<locals>." ++ "<lambda>") ∈ Z.tabs ∧ ∀ p ∈ Z.tabs, p.1 = P → p.2 = qual ++ ".<locals>." ++ "<lambda>")
    {A : Around} {outer : List PySem.Env} {s : Shared} {H : Hp} {us : List Value} {vs : List V} {args : List D} {μ : Mu} {st : Sto} {e : D} {st' : Sto} {cargs : Args} (hr : RoomY (n + 1) A) (e0 : Env0 prog w Z.K mg base A outer s H)
    (hbt : BindsTo s (PySem.W.fnOf name qual params body scope .none kV doc pm an cdv ct) cargs (ps.zip us)) (rv : Vals vs us) (hu : us.length = ps.length) (sto : StoR (Z.at []) [] μ st H) (r : Reps (Z.at []) H μ vs args) (he : runFd (calls g.P n) fd args st = .ok e st') :
    codeAny (model prog w) A (.call (.ref (Z.F f)) cargs) (CR C8.CX0 outer prog w H s (postY Z μ st H e st') C8.E0) s := by
  obtain ⟨S, k1, k2, k3, k4, knd, k5⟩ := fnB_scope hb
  have hl : vs.length = ps.length := by rw [rv.length]; exact hu
  have ha : args.length = fd.np := by rw [k2, ← r.length]; exact hl
  refine LamX.run_ofS (N := N) (ps := ps) lk hcd S hr.r e0 hbt rv hl fun hr0 => ⟨YSs (Z.at (owOf st.length N BX (cellsFrom (s.heap.objs.size + 1) scope.names []))) (calls g.P n) (cfD g N scope BX lam) (cellsFrom (s.heap.objs.size + 1) scope.names []) fd.body, ?_, ?_⟩
  · exact ⟨fun pins s1 σ1 H1 D I h => (y_stmts (good_def Gl hC hL hb hlam (hr.deeper _) st.length I) m fd.body body hch).run pins s1 σ1 H1 D I h⟩
  · refine ⟨inEnv st fd args, inMu μ fd.bxs.length, inSt st fd args, in_fr sto r hb ha fun x hx => cell_has hx, ?_⟩
    have he' := he
    unfold runFd at he'
    rw [if_pos ha] at he'
    have ho : ∀ p ∈ owOf st.length N BX (cellsFrom (s.heap.objs.size + 1) scope.names []), st.length ≤ p.1 := fun p hp => by
      obtain ⟨j, i, _, e2, _⟩ := ow_mem hp
      omega
    have e1 : (match evSs (calls g.P n) fd.body (inEnv st fd args) (inSt st fd args) with
      | .nx _ st' => fin fd.keep st.length .non st'
      | .rt d st' => fin fd.keep st.length d st'
      | .ex x _ st' => .ex x (st'.take st.length)
      | .no => .no) = .ok e st' := he'
    cases es : evSs (calls g.P n) fd.body (inEnv st fd args) (inSt st fd args) with
    | nx ρ1 st1 =>
      rw [es] at e1
      intro σ1 H1 μ1 n1 f1
      exact leave (left_of sto ho n1) .non e1
    | rt d st1 =>
      rw [es] at e1
      intro v1 H1 μ1 n1 r1
      exact leave (left_of sto ho n1) r1 e1
    | ex _ _ _ => rw [es] at e1; cases e1
    | no => rw [es] at e1; cases e1
end
end Y
end
section
set_option Elab.async false
set_option linter.all false
set_option maxRecDepth 100000
set_option maxHeartbeats 4000000
set_option autoImplicit false
/-! Y28: a closure runs. -/
namespace Y
open PySem PySem.Spec PyProof.Rows L2 LamX NdefX
theorem list_of {α : Type} {P : Nat → α → Prop} : ∀ (n : Nat), (∀ k, k < n → ∃ w, P k w) → ∃ ws : List α, ws.length = n ∧ ∀ k w, ws[k]? = some w → P k w
  | 0, _ => ⟨[], rfl, fun k w h => by simp at h⟩
  | n + 1, h => by
    obtain ⟨ws, h1, h2⟩ := list_of n fun k hk => h k (by omega)
    obtain ⟨w, hw⟩ := h n (by omega)
    refine ⟨ws ++ [w], by simp [h1], fun k v e => ?_⟩
    by_cases hk : k < ws.length
    · rw [List.getElem?_append_left hk] at e
      exact h2 k v e
    · obtain ⟨e0, e1⟩ := snoc_at e (by omega)
      subst e1
      rw [e0, h1]; exact hw
section
variable {Z : Lk} {H H' : Hp} {μ μ' : Mu} {st st' : Sto}
theorem left0 (n : NxE (Z.at []) [] st.length μ st H μ' st' H') (s : StoR (Z.at []) [] μ st H) : Left Z [] 0 μ st H μ' st' H' :=
  ⟨s, fun p hp => absurd hp (by simp), n.pres.len, n.ext.pre, n.ext.keep, n.ext.mono, n.vce, n.hots, n.pres.old, fun i od _ e => n.vars i od (by simp) e, n.cells, ⟨_, n.sto⟩⟩
/-- the cells of a closure -/
def owL (cs : List Nat) (fr : List Str) (cl : List (Str × Addr)) : List (Nat × Addr) := (List.range fr.length).map fun k => (cs.getD k 0, (cl.lookup (fr.getD k "")).getD 0)
theorem owL_mem {cs : List Nat} {fr : List Str} {cl : List (Str × Addr)} (hl : cs.length = fr.length) (hc : ∀ (k : Nat) (y : Str) (n : Nat), fr[k]? = some y → cs[k]? = some n → ∃ c, cl.lookup y = some c ∧ (n, c) ∈ μ.vc) {p : Nat × Addr} (h : p ∈ owL cs fr cl) :
    ∃ (k : Nat) (y : Str), fr[k]? = some y ∧ cs[k]? = some p.1 ∧ cl.lookup y = some p.2 ∧ p ∈ μ.vc := by
  obtain ⟨k, hk, rfl⟩ := List.mem_map.mp h
  rw [List.mem_range] at hk
  have e1 : fr[k]? = some fr[k] := List.getElem?_eq_getElem hk
  have e2 : cs[k]? = some (cs[k]'(by omega)) := List.getElem?_eq_getElem (by omega)
  obtain ⟨c, h1, h2⟩ := hc k _ _ e1 e2
  have g1 : fr.getD k "" = fr[k] := by rw [List.getD_eq_getElem?_getD, e1]; rfl
  have g2 : cs.getD k 0 = cs[k]'(by omega) := by rw [List.getD_eq_getElem?_getD, e2]; rfl
  refine ⟨k, fr[k], e1, ?_, ?_, ?_⟩
  · rw [g2]; exact e2
  · rw [g1, h1]; rfl
  · rw [g1, g2, h1]; exact h2
theorem owL_at {cs : List Nat} {fr : List Str} {cl : List (Str × Addr)} {k n : Nat} {y : Str} {c : Addr} (e1 : fr[k]? = some y) (e2 : cs[k]? = some n) (h : cl.lookup y = some c) : (n, c) ∈ owL cs fr cl := by
  refine List.mem_map.mpr ⟨k, List.mem_range.mpr (List.getElem?_eq_some_iff.mp e1).1, ?_⟩
  rw [List.getD_eq_getElem?_getD, List.getD_eq_getElem?_getD, e1, e2]
  simp only [Option.getD_some, h]
def cutH (ow : List (Nat × Addr)) (H : Hp) : Hp := fun b => if ow.any (fun p => p.2 == b) then none else H b
theorem cutH_in {ow : List (Nat × Addr)} {p : Nat × Addr} (hp : p ∈ ow) : cutH ow H p.2 = none := if_pos (List.any_eq_true.mpr ⟨p, hp, by simp⟩)
theorem cutH_out {ow : List (Nat × Addr)} {b : Addr} (hb : ∀ p ∈ ow, p.2 ≠ b) : cutH ow H b = H b := if_neg (by
  intro z
  obtain ⟨p, hp, e⟩ := List.any_eq_true.mp z
  exact hb p hp (by simpa using e))
def inL (μ : Mu) (ow : List (Nat × Addr)) : Mu := ⟨μ.m, μ.hot, μ.vc.filter fun p => !ow.any fun q => q.2 == p.2⟩
theorem inL_mem {ow : List (Nat × Addr)} {p : Nat × Addr} : p ∈ (inL μ ow).vc ↔ p ∈ μ.vc ∧ ∀ q ∈ ow, q.2 ≠ p.2 := by
  show p ∈ μ.vc.filter _ ↔ _
  rw [List.mem_filter]
  refine and_congr_right fun _ => ?_
  rw [Bool.not_eq_true', List.any_eq_false]
  exact ⟨fun h q hq e => h q hq (by simpa using e), fun h q hq e => h q hq (by simpa using e)⟩
theorem tu_in {ow : List (Nat × Addr)} (s : StoR (Z.at []) [] μ st H) (ho : ∀ p ∈ ow, p ∈ μ.vc) : TU ow (inL μ ow) (cutH ow H) μ H := by
  refine ⟨rfl, rfl, fun p => ⟨fun h => ?_, fun h => ?_⟩, fun b hb => (cutH_out hb).symm, fun p hp => cutH_in hp, fun p hp => ?_⟩
  · by_cases hc : ∃ q ∈ ow, q.2 = p.2
    · obtain ⟨q, hq, e⟩ := hc
      have hq' := ho q hq
      have : q.1 = p.1 := s.vu.inj q.1 p.1 p.2 (by rw [← e]; exact hq') h
      right
      have : q = p := Prod.ext this e
      rw [← this]; exact hq
    · exact .inl (inL_mem.mpr ⟨h, fun q hq e => hc ⟨q, hq, e⟩⟩)
  · rcases h with h | h
    · exact (inL_mem.mp h).1
    · exact ho p h
  · obtain ⟨od, o, _, h2, ⟨w, h4⟩, _⟩ := s.vcs p.1 p.2 (ho p hp)
    exact ⟨o, w, h2, h4⟩
end
section
variable {prog : Program} {w : World} {mg : Str → Option Value} {base : Heap} {Z : Lk} {g : CfG} {n : Nat}
/-- the frame of a lambda -/
abbrev cxL (prog : Program) (w : World) (K : PySem.W.Frag) (mg : Str → Option Value) (base : Heap) (N : List Str) (F : NF) (f : Addr) (A : Around) (outer : List PySem.Env) (s : Shared) (H : Hp) : Cx := ncx C8.CX0 prog w K mg base N F f A outer s H C8.E0
theorem good_lam {lm : LmC} {F : NF} {ga : Addr} {A : Around} {outer : List PySem.Env} {s : Shared} {H Hi : Hp} {μ : Mu} {st : Sto} {cs : List Nat} (Gl : Glob mg base Z g) (hC : CallP prog w mg base Z g n) (hL : LamP prog w mg base Z g n) (S : NScope lm.N lm.ps lm.fr F.scope)
    (hr : RoomY n (A.deeper (envF F ga s.heap.objs.size))) (e0 : Env0 prog w Z.K mg base A outer s H) (sto : StoR (Z.at []) [] μ st H) {ow : List (Nat × Addr)} (ho : ∀ p ∈ ow, p ∈ μ.vc) :
    Good (Z.at ow) (calls g.P n) (Cf.inL g lm F.scope) F.cl (cxL prog w Z.K mg base lm.N F ga A outer s Hi) C8.E0 := by
  have owf : OwF (cxL prog w Z.K mg base lm.N F ga A outer s Hi) (Cf.inL g lm F.scope) F.cl ow := by
    refine ⟨rfl, rfl, fun i x hi hx => ?_, fun p hp q hq e => ?_, fun p hp q hq e => ?_, fun p hp z => ?_, fun p hp => ?_⟩
    · have hi' : i ∈ List.range' lm.ps.length lm.fr.length := hi
      rw [List.mem_range'_1] at hi'
      have hx' : lm.N[i]? = some x := hx
      have hq : (lm.ps ++ lm.fr)[i]? = some x := by
        rw [← S.pre, List.getElem?_take_of_lt (by omega)]; exact hx'
      rw [List.getElem?_append_right hi'.1] at hq
      exact .inr (S.frk x (List.mem_of_getElem? hq))
    · exact sto.vu.one p.1 p.2 q.2 (ho p hp) (by rw [e]; exact ho q hq)
    · exact sto.vu.inj p.1 q.1 p.2 (ho p hp) (by rw [e]; exact ho q hq)
    · obtain ⟨od, o, _, h2, _⟩ := sto.vcs p.1 p.2 (ho p hp)
      have hin := (e0.hok _ _ h2).1
      have z' : p.2 ∈ s.heap.objs.size :: frs outer := z
      rcases List.mem_cons.mp z' with e | e
      · have := Heap.lt_size hin
        rw [e] at this
        exact Nat.lt_irrefl _ this
      · have := e0.frf _ e
        rw [this] at h2; cases h2
    · obtain ⟨od, o, _, h2, _⟩ := sto.vcs p.1 p.2 (ho p hp)
      show base.get? p.2 = none
      cases e : base.get? p.2 with
      | none => rfl
      | some ob =>
        have := (e0.bs _ _ e).2
        rw [this] at h2; cases h2
  exact
    { K := rfl
      N := rfl
      sc := rfl
      nd := S.nd
      calm := rfl
      units := hr.r.units
      guards := hr.g
      tg := fun x h => nomatch (show false = true from h)
      gd := Gl.gd
      gf := Gl.gf
      bl := Gl.bl
      kp := Gl.kp
      ce := fun _ => rfl
      lamT := fun h => nomatch (show false = true from h)
      lok := Gl.lok
      run := run_of (c := Cf.inL g lm F.scope) (X := cxL prog w Z.K mg base lm.N F ga A outer s Hi) rfl hC hr fun _ => owf
      vrun := vrun_of (c := Cf.inL g lm F.scope) (X := cxL prog w Z.K mg base lm.N F ga A outer s Hi) rfl hL hr fun _ => owf }
theorem sig_all {ps : List Str} (h : ps.Nodup) : sigB ps ps.length [] = true := by
  simp [sigB, h]
theorem lam_call (Gl : Glob mg base Z g) (hC : CallP prog w mg base Z g n) (hL : LamP prog w mg base Z g n) : LamP prog w mg base Z g (n + 1) := by
  intro l cs ga A outer s H us vs μ st xs e st' hr e0 rv sto rs rg he
  cases rg with
  | clo h1 n1 n2 h2 h3 h4 h5 h6 h7 =>
  rename_i c' q params body scope cl
  obtain ⟨m, lm, lmd, sc, g1, g2, g3, g4, g5⟩ := Gl.lok' l q params body scope h1
  have g5' : (Z.at []).lfr l = lm.fr := g5
  rw [g5'] at h4 h5 h6
  have g3' := g3
  simp only [lamB, Bool.and_eq_true, decide_eq_true_eq] at g3'
  obtain ⟨⟨⟨⟨p1, p2⟩, p3⟩, p4⟩, p5⟩ := g3'
  have S := nscope_by p2
  have he' : runLm (calls g.P n) lmd cs xs st = .ok e st' := by
    have : (calls g.P (n + 1)).clo l cs xs st = (match g.P.lms[l]? with
      | some lm => runLm (calls g.P n) lm cs xs st
      | none => .no) := rfl
    rw [this, g2] at he
    exact he
  have ha : xs.length = lmd.np := by
    unfold runLm at he'
    by_cases hh : xs.length = lmd.np
    · exact hh
    · rw [if_neg hh] at he'; cases he'
  have hl : vs.length = lm.ps.length := by rw [rs.length, ha, p3]
  have h5' : ∀ (k : Nat) (y : Str) (n : Nat), lm.fr[k]? = some y → cs[k]? = some n → ∃ c, cl.lookup y = some c ∧ (n, c) ∈ μ.vc := fun k y n a b => by
    obtain ⟨c, e1, e2⟩ := h5 k y n a b
    refine ⟨c, e1, ?_⟩
    rcases e2.2 with z | z
    · exact z
    · cases z
  obtain ⟨ow, how⟩ : ∃ ow, ow = owL cs lm.fr cl := ⟨_, rfl⟩
  have om : ∀ p ∈ ow, ∃ (k : Nat) (y : Str), lm.fr[k]? = some y ∧ cs[k]? = some p.1 ∧ cl.lookup y = some p.2 ∧ p ∈ μ.vc := fun p hp => owL_mem h4 h5' (by rw [← how]; exact hp)
  have ho : ∀ p ∈ ow, p ∈ μ.vc := fun p hp => by
    obtain ⟨_, _, _, _, _, z⟩ := om p hp
    exact z
  have t := tu_in sto ho
  have hd : ∀ p ∈ (inL μ ow).vc, ∀ q ∈ ow, q.2 ≠ p.2 := fun p hp => (inL_mem.mp hp).2
  have hcell : ∀ p ∈ ow, ∃ od o, st[p.1]? = some (Cell.var od) ∧ H p.2 = some (CellO p.2 o) ∧ s.heap.get? p.2 = some o ∧ (∃ w, o.data = .cell w) ∧ ∀ d, od = some d → ∃ v u, o.data = .cell (some u) ∧ RelV v u ∧ Rep (Z.at []) H μ v d := fun p hp => by
    obtain ⟨od, o, k1, k2, k3, k4⟩ := sto.vcs p.1 p.2 (ho p hp)
    exact ⟨od, o, k1, k2, (e0.hok _ _ k2).1, k3, k4⟩
  have sin : StoR (Z.at ow) cs (inL μ ow) st (cutH ow H) := by
    refine StoR.toU t e0.hok sto (fun i hi => ?_) hd fun i a hi z => ?_
    · obtain ⟨k, hk⟩ := List.mem_iff_getElem?.mp hi
      have hlt : k < lm.fr.length := by rw [← h4]; exact (List.getElem?_eq_some_iff.mp hk).1
      obtain ⟨c, _, k2⟩ := h5' k _ i (List.getElem?_eq_getElem hlt) hk
      obtain ⟨od, o, k3, _⟩ := sto.vcs i c k2
      exact ⟨sto.var i od k3, od, k3⟩
    · obtain ⟨k, hk⟩ := List.mem_iff_getElem?.mp hi
      have hlt : k < lm.fr.length := by rw [← h4]; exact (List.getElem?_eq_some_iff.mp hk).1
      obtain ⟨c, k1, k2⟩ := h5' k _ i (List.getElem?_eq_getElem hlt) hk
      obtain ⟨z1, z2⟩ := inL_mem.mp z
      have hca : c = a := sto.vu.one i c a k2 z1
      subst hca
      exact z2 (i, c) (by rw [how]; exact owL_at (List.getElem?_eq_getElem hlt) hk k1) rfl
  -- what the cells hold
  obtain ⟨ws, wl, wp⟩ : ∃ ws : List (Option V), ws.length = lm.fr.length ∧ ∀ k ov, ws[k]? = some ov → (∀ (i : Nat) (d : D), cs[k]? = some i → st[i]? = some (Cell.var (some d)) → ∃ v, ov = some v ∧ Rep (Z.at ow) (cutH ow H) (inL μ ow) v d) ∧
      ∀ (y : Str) (v : V), lm.fr[k]? = some y → ov = some v → ∃ c u, cl.lookup y = some c ∧ RelV v u ∧ s.heap.IsCell c (some u) := by
    refine list_of (α := Option V) (P := fun k ov => (∀ (i : Nat) (d : D), cs[k]? = some i → st[i]? = some (Cell.var (some d)) → ∃ v, ov = some v ∧ Rep (Z.at ow) (cutH ow H) (inL μ ow) v d) ∧
      ∀ (y : Str) (v : V), lm.fr[k]? = some y → ov = some v → ∃ c u, cl.lookup y = some c ∧ RelV v u ∧ s.heap.IsCell c (some u)) lm.fr.length fun k hk => ?_
    have e1 : lm.fr[k]? = some lm.fr[k] := List.getElem?_eq_getElem hk
    have e2 : cs[k]? = some (cs[k]'(by omega)) := List.getElem?_eq_getElem (by omega)
    obtain ⟨c, k1, k2⟩ := h5' k _ _ e1 e2
    obtain ⟨od, o, k3, k4, k5, k6⟩ := sto.vcs _ c k2
    cases od with
    | none =>
      refine ⟨none, fun i d a b => ?_, fun y v _ a => by cases a⟩
      rw [e2] at a; cases a
      rw [k3] at b; cases b
    | some d0 =>
      obtain ⟨v, u, q1, q2, q3⟩ := k6 d0 rfl
      refine ⟨some v, fun i d a b => ?_, fun y v' a b => ?_⟩
      · rw [e2] at a; cases a
        rw [k3] at b; cases b
        exact ⟨v, rfl, q3.move (t.moveU e0.hok)⟩
      · rw [e1] at a; cases a
        cases b
        exact ⟨c, u, k1, q2, o, (e0.hok _ _ k4).1, q1⟩
  obtain ⟨F, hF⟩ : ∃ F : NF, F = ⟨"<lambda>", q, params, [], scope, cl, c'⟩ := ⟨_, rfl⟩
  have Fs : F.scope = scope := by rw [hF]
  have Fc : F.cl = cl := by rw [hF]
  have e0i : Env0 prog w Z.K mg base A outer s (cutH ow H) := by
    refine ⟨e0.frames, e0.mod, fun b ob k => ⟨(e0.bs b ob k).1, ?_⟩, e0.bsz, e0.funs, fun b hb => ?_, fun b u k => ?_, e0.bare⟩
    · by_cases hc : ∃ p ∈ ow, p.2 = b
      · obtain ⟨p, hp, rfl⟩ := hc; exact cutH_in hp
      · rw [cutH_out fun p hp z => hc ⟨p, hp, z⟩]; exact (e0.bs b ob k).2
    · by_cases hc : ∃ p ∈ ow, p.2 = b
      · obtain ⟨p, hp, rfl⟩ := hc; exact cutH_in hp
      · rw [cutH_out fun p hp z => hc ⟨p, hp, z⟩]; exact e0.frf b hb
    · have hk : H b = some u := t.up k
      have kn : ∀ {z : Addr} {y : HO}, (∀ ob, y ≠ CellO z ob) → H z = some y → cutH ow H z = some y := fun {z y} hy k => by
        rw [cutH_out fun p hp e => ?_]; exact k
        obtain ⟨_, o, _, k2, _⟩ := hcell p hp
        rw [e, k] at k2
        exact hy o (by rw [← e]; exact (Option.some.inj k2).trans (by rw [e]))
      exact (e0.hok b u hk).stay (fun _ _ _ k => k) (fun z k => kn (fun ob z => by unfold CellO at z; cases z) k) fun z ys k => kn (fun ob z => by unfold CellO at z; cases z) k
  have cin : ∀ y c, F.cl.lookup y = some c → ∃ p ∈ ow, p.2 = c := fun y c k => by
    rw [Fc] at k
    obtain ⟨j, hj⟩ := List.mem_iff_getElem?.mp (h6 y c k)
    have hlt : j < cs.length := by rw [h4]; exact (List.getElem?_eq_some_iff.mp hj).1
    exact ⟨(cs[j], c), by rw [how]; exact owL_at hj (List.getElem?_eq_getElem hlt) k, rfl⟩
  have CC : CellsAt F.cl lm.fr ws s.heap (cutH ow H) := by
    refine ⟨wl, fun y c k => ?_, fun x y c k1 k2 => h7 x y c (by rw [← Fc]; exact k1) (by rw [← Fc]; exact k2), fun j y hy => ?_⟩
    · obtain ⟨p, hp, rfl⟩ := cin y c k
      obtain ⟨_, o, _, _, k3, ⟨w', k4⟩, _⟩ := hcell p hp
      exact ⟨cutH_in hp, w', o, k3, k4⟩
    · have hlt : j < cs.length := by rw [h4]; exact (List.getElem?_eq_some_iff.mp hy).1
      obtain ⟨c, k1, _⟩ := h5' j y _ hy (List.getElem?_eq_getElem hlt)
      refine ⟨c, by rw [Fc]; exact k1, fun v hv => ?_⟩
      obtain ⟨c2, u, k3, k4, k5⟩ := (wp j _ hv).2 y v hy rfl
      rw [k1] at k3; cases k3
      exact ⟨u, k4, k5⟩
  obtain ⟨⟨pm, ctv, of1⟩, _, _⟩ := e0.hok ga _ h2
  obtain ⟨⟨oc, vsC, tk, hoc, hdc, hvc⟩, _, _⟩ := e0.hok c' _ h3
  have lim : s.heap.NoLimit := e0.mod.nolimit.keeps fun b o k => (e0.bs b o k).1
  have SF : NScope lm.N lm.ps lm.fr F.scope := by rw [Fs]; exact S
  have ndP : lm.ps.Nodup := by
    have z := S.nd.sublist (List.take_sublist (lm.ps.length + lm.fr.length) lm.N)
    rw [S.pre] at z
    exact (List.nodup_append.mp z).1
  have hul : us.length = lm.ps.length := by rw [← rv.length]; exact hl
  have hbind : bindArgs (PySem.W.kla_fn "<lambda>" q params body scope cl pm (.ref c') ctv) ⟨us, []⟩ = pure (lm.ps.zip us) := by
    obtain ⟨as, ea, epp⟩ : ∃ (as : List PySem.Arg), lm.ps = as.map (·.arg) ∧ params = ⟨[], as, none, [], [], none, []⟩ := by
      have p1' := p1
      unfold simpleP at p1'
      split at p1'
      · exact ⟨_, (of_decide_eq_true p1').symm, rfl⟩
      · cases p1'
    have hq := bind_sig (fd := PySem.W.kla_fn "<lambda>" q params body scope cl pm (.ref c') ctv) (args := as) (kwd := []) (dfl := []) (us := us) (ws := []) (as := us) (ks := []) epp rfl (by rw [← ea, hul]; exact sig_all ndP) rfl (by rw [hul, ea, List.length_map]) (fun i u _ k => k) fun i x u hi _ k => by
      have := (List.getElem?_eq_some_iff.mp k).1
      omega
    rw [ea]; exact hq
  refine PySem.W.kla_callFunE hr.r.depth of1 rfl S.co S.gen rfl ⟨c', oc, vsC, tk, rfl, hoc, hdc, hvc⟩ ?_
  rw [hbind]
  refine wpAny_pure (wpAny_newFunctionEnv S.nocell (fun ⟨n, _⟩ hy => S.par n (List.of_mem_zip hy).1) (fun h₁ hns hsb => ⟨lim.fresh _ hsb, ?_⟩) S.kind)
  have kp : ∀ b o, s.heap.get? b = some o → h₁.get? b = some o := fun b o k => hsb.extBut b o (Nat.ne_of_lt (Heap.lt_size k)) (Heap.get?_push_of_some _ k)
  have J : Inv (cxL prog w Z.K mg base lm.N F ga A outer s (cutH ow H)) [] (startF lm.N vs ws) (cutH ow H) { s with heap := h₁, toks := s.toks + (lm.ps.zip us).length } := inv_startN SF hr.r.hd e0i hl rv CC hns kp
  have hpe : PE (cxL prog w Z.K mg base lm.N F ga A outer s (cutH ow H)) body (YE (Z.at ow) (calls g.P n) (Cf.inL g lm F.scope) F.cl C8.E0 lmd.body) := pe_of (good_lam (H := H) (cs := cs) Gl hC hL SF (hr.deeper _) e0 sto ho) (by rw [Fs]; exact g4)
  -- what is evaluated
  unfold runLm at he'
  rw [if_pos ha] at he'
  obtain ⟨ρ, hρ⟩ : ∃ ρ : Env, ρ = ⟨xs.map some ++ List.replicate (lmd.ns - lmd.np) none, cs, st.length⟩ := ⟨_, rfl⟩
  rw [← hρ] at he'
  cases ev : evE (calls g.P n) ρ lmd.body st with
  | ex _ _ => rw [ev] at he'; cases he'
  | no => rw [ev] at he'; cases he'
  | ok d st1 =>
  rw [ev] at he'
  have he2 : fin false st.length d st1 = .ok e st' := he'
  have rbx : ρ.bx = cs := by rw [hρ]
  have rbs : ρ.bs = st.length := by rw [hρ]
  have lv : vs.length = xs.length := rs.length
  have pl : lm.ps.length + lm.fr.length ≤ lm.N.length := by
    have := congrArg List.length S.pre
    rw [List.length_take, List.length_append] at this
    omega
  have fr : Fr (Z.at ow) (Cf.inL g lm F.scope).N (Cf.inL g lm F.scope).BX F.cl (startF lm.N vs ws) ρ (inL μ ow) st (cutH ow H) := by
    refine ⟨by rw [rbx]; exact sin, fun i d h => ?_, by rw [rbs]; exact Nat.le_refl _, ?_, fun p hp => ?_, fun j m h => ?_⟩
    · rw [hρ] at h
      have h' : (xs.map some ++ List.replicate (lmd.ns - lmd.np) none)[i]? = some (some d) := h
      have hi : i < xs.length := by
        by_cases hi : i < xs.length
        · exact hi
        · rw [List.getElem?_append_right (by rw [List.length_map]; omega)] at h'
          have := List.eq_of_mem_replicate (List.mem_of_getElem? h')
          cases this
      rw [List.getElem?_append_left (by rw [List.length_map]; exact hi), List.getElem?_map] at h'
      have hx : xs[i]? = some d := by
        cases q : xs[i]? with
        | none => rw [q] at h'; cases h'
        | some d' => rw [q] at h'; exact congrArg some (Option.some.inj (Option.some.inj h'))
      obtain ⟨v, q1, q2⟩ := rs.get hx
      refine ⟨v, ?_, q2.move (t.moveU e0.hok)⟩
      unfold startF
      rw [List.getElem?_append_left (by rw [List.length_map]; exact (List.getElem?_eq_some_iff.mp q1).1), List.getElem?_map, q1]; rfl
    · rw [hρ]
      show (xs.map some ++ List.replicate (lmd.ns - lmd.np) none).length ≤ (startF lm.N vs ws).length
      unfold startF
      simp only [List.length_append, List.length_map, List.length_replicate]
      omega
    · obtain ⟨k, y, _, k2, _⟩ := om p hp
      rw [rbx]; exact List.mem_of_getElem? k2
    · rw [rbx] at h
      have hlt : j < lm.fr.length := by rw [← h4]; exact (List.getElem?_eq_some_iff.mp h).1
      have e1 : lm.fr[j]? = some lm.fr[j] := List.getElem?_eq_getElem hlt
      obtain ⟨c, k1, k2⟩ := h5' j _ m e1 h
      refine ⟨lm.ps.length + j, lm.fr[j], c, ?_, ?_, by rw [Fc]; exact k1, by rw [how]; exact owL_at e1 h k1, fun d hd => ?_⟩
      · show (List.range' lm.ps.length lm.fr.length)[j]? = _
        rw [List.getElem?_range' hlt]; simp
      · show lm.N[lm.ps.length + j]? = _
        have z : (lm.N.take (lm.ps.length + lm.fr.length))[lm.ps.length + j]? = some lm.fr[j] := by
          rw [S.pre, List.getElem?_append_right (by omega), Nat.add_sub_cancel_left]; exact e1
        rw [List.getElem?_take_of_lt (by omega)] at z
        exact z
      · have e3 : ws[j]? = some (ws[j]'(by omega)) := List.getElem?_eq_getElem (by omega)
        obtain ⟨v, q1, q2⟩ := (wp j _ e3).1 m d h hd
        refine ⟨v, ?_, q2⟩
        unfold startF
        rw [List.getElem?_append_right (by rw [List.length_map]; omega), List.length_map, hl, Nat.add_sub_cancel_left, List.getElem?_append_left (by omega), e3, q1]
  obtain ⟨Q, hQ⟩ : ∃ Q : VK, Q = fun v H1 => ∃ μ1, NxE (Z.at ow) cs st.length (inL μ ow) st (cutH ow H) μ1 st1 H1 ∧ Rep (Z.at ow) H1 μ1 v d := ⟨_, rfl⟩
  have run := hpe.run [] _ _ _ Q J ⟨ρ, inL μ ow, st, fr, by
    simp only []
    rw [ev, rbx, rbs, hQ]
    exact fun v H1 μ1 n1 r1 => ⟨μ1, n1, r1⟩⟩
  have goal : codeAny (model prog w) A (.expr body (envF F ga s.heap.objs.size)) (CR C8.CX0 outer prog w H s (postY Z μ st H e st') C8.E0) { s with heap := h₁, toks := s.toks + (lm.ps.zip us).length } := by
    refine PySem.W.kla_codeExpr (wpAny_mono run (fun u s' hq => ?_) fun e s' hq => hq)
    obtain ⟨v', H1, J', rv', q⟩ := hq
    rw [hQ] at q
    obtain ⟨μ1, n1, r1⟩ := q
    obtain ⟨Hf, hHf⟩ : ∃ Hf : Hp, Hf = fun b => if ow.any (fun p => p.2 == b) then H b else H1 b := ⟨_, rfl⟩
    have fin : ∀ p ∈ ow, Hf p.2 = H p.2 := fun p hp => by
      rw [hHf]
      exact if_pos (List.any_eq_true.mpr ⟨p, hp, by simp⟩)
    have fout : ∀ b, (∀ p ∈ ow, p.2 ≠ b) → Hf b = H1 b := fun b hb => by
      rw [hHf]
      exact if_neg (by
        intro z
        obtain ⟨p, hp, e⟩ := List.any_eq_true.mp z
        exact hb p hp (by simpa using e))
    have t' : TU ow μ1 H1 ⟨μ1.m, μ1.hot, μ.vc⟩ Hf := by
      refine ⟨rfl, rfl, fun p => by rw [n1.vce]; exact t.vc p, fout, fun p hp => ?_, fun p hp => ?_⟩
      · obtain ⟨k, y, _, _, k3, _⟩ := om p hp
        exact J'.freeC y p.2 (by show F.cl.lookup y = _; rw [Fc]; exact k3)
      · obtain ⟨od, o, _, k2, _, ⟨w', k4⟩, _⟩ := hcell p hp
        exact ⟨o, w', by rw [fin p hp]; exact k2, k4⟩
    have nT : NxE (Z.at []) [] st.length μ st H ⟨μ1.m, μ1.hot, μ.vc⟩ st1 Hf := by
      refine NxE.toT t t' e0.hok fin rfl hd (fun i hi => ?_) (fun p hp => ?_) (fun p hp q hq e => sto.vu.one p.1 p.2 q.2 (ho p hp) (by rw [e]; exact ho q hq)) (fun p hp q hq e => sto.vu.inj p.1 q.1 p.2 (ho p hp) (by rw [e]; exact ho q hq)) sto n1
      · obtain ⟨k, hk⟩ := List.mem_iff_getElem?.mp hi
        have hlt : k < lm.fr.length := by rw [← h4]; exact (List.getElem?_eq_some_iff.mp hk).1
        have e1 : lm.fr[k]? = some lm.fr[k] := List.getElem?_eq_getElem hlt
        obtain ⟨c, k1, _⟩ := h5' k _ i e1 hk
        exact ⟨(i, c), by rw [how]; exact owL_at e1 hk k1, rfl⟩
      · obtain ⟨k, y, _, k2, _⟩ := om p hp
        exact List.mem_of_getElem? k2
    have base := J'.base
    have un : Un (frs outer) [] H Hf s.heap s'.heap := by
      have cn : ∀ b, H b = none → cutH ow H b = none := fun b k => by
        by_cases hc : ∃ p ∈ ow, p.2 = b
        · obtain ⟨p, hp, rfl⟩ := hc; exact cutH_in hp
        · rw [cutH_out fun p hp z => hc ⟨p, hp, z⟩]; exact k
      have un0 : Un (frs outer) [] (cutH ow H) H1 s.heap s'.heap := base
      have up : ∀ b u, (∀ b' ob, u ≠ CellO b' ob) → H b = some u → cutH ow H b = some u ∧ Hf b = H1 b := fun b u hu k => by
        have hc : ∀ p ∈ ow, p.2 ≠ b := fun p hp z => by
          obtain ⟨_, o, _, k2, _⟩ := hcell p hp
          rw [z, k] at k2
          exact hu b o (Option.some.inj k2)
        exact ⟨by rw [cutH_out hc]; exact k, fout b hc⟩
      refine ⟨fun b ob e k hb hx => un0.keep b ob e (cn b k) hb hx, fun b ob e k hb hx => un0.slot b ob e (cn b k) hb hx, fun b ob e k hx => ?_, fun b ob e hx => un0.there b ob e hx, fun b xs e => ?_, fun b w u e => ?_, fun b ps e => ?_⟩
      · by_cases hc : ∃ p ∈ ow, p.2 = b
        · obtain ⟨p, hp, rfl⟩ := hc
          rw [fin p hp]; exact k
        · rw [fout b fun p hp z => hc ⟨p, hp, z⟩]
          exact un0.free b ob e (cn b k) hx
      · obtain ⟨g1, g2⟩ := up b _ (fun b' ob z => by unfold CellO at z; cases z) e
        rw [g2]; exact un0.tups b xs g1
      · obtain ⟨g1, g2⟩ := up b _ (fun b' ob z => by unfold CellO at z; cases z) e
        rw [g2]; exact un0.frzs b w u g1
      · obtain ⟨g1, g2⟩ := up b _ (fun b' ob z => by unfold CellO at z; cases z) e
        rw [g2]; exact un0.tbls b ps g1
    have hok' : HOk prog w Hf s'.heap := fun b u e => by
      by_cases hc : ∃ p ∈ ow, p.2 = b
      · obtain ⟨p, hp, rfl⟩ := hc
        obtain ⟨_, o, _, k2, k3, _⟩ := hcell p hp
        rw [fin p hp, k2] at e
        cases e
        have nf : p.2 ∉ frs outer := fun z => by
          have := e0.frf _ z
          rw [k2] at this; cases this
        have kk : s'.heap.get? p.2 = some o := base.keep p.2 o k3 (cutH_in hp) nf (fun z => nomatch (show p.2 ∈ ([] : List Addr) from z))
        exact ⟨kk, ⟨o, kk⟩, fun h1' h2' k st => st _ k⟩
      · rw [fout b fun p hp z => hc ⟨p, hp, z⟩] at e
        exact (J'.hok b u e).stay (fun _ _ _ k => k) (fun q k => t'.up k) fun q xs k => t'.up k
    exact ⟨v', Hf, J'.os, J'.bare, un, hok', rv', leave (left0 nT sto) (r1.move t'.moveT) he2⟩
  subst hF
  exact goal
end
end Y
end
section
set_option Elab.async false
set_option linter.all false
set_option maxRecDepth 100000
set_option maxHeartbeats 4000000
set_option autoImplicit false
/-! Y29: every def and every closure, at every depth. -/
namespace Y
open PySem PySem.Spec PyProof.Rows L2 LamX NdefX
/-- a def of the program, where it lies, and that its text is the one that was read -/
structure FnAt (mg : Str → Option Value) (base : Heap) (Z : Lk) (g : CfG) (f : Nat) (ps : List Str) (fd : Fd) (name qual : Str) (params : Arguments) (body : List Stmt) (scope : Scope) (N : List Str) (BX : List Nat) (lam : Bool) (m : Nat) : Prop where
  rec_ : ∃ kV doc pm cdv ct oc an od osl, Z.K.lookup (Z.F f) = some ⟨oc, od, .func (PySem.W.fnOf name qual params body scope .none kV doc pm an cdv ct), osl⟩ ∧ PySem.W.codeIn Z.K cdv qual = true ∧
    (lam = true → ∃ cc P, cdv = .ref cc ∧ TabB base mg cc P ∧ (P, qual ++ ".<locals>." ++ "<lambda>") ∈ Z.tabs ∧ ∀ p ∈ Z.tabs, p.1 = P → p.2 = qual ++ ".<locals>." ++ "<lambda>")
  at_ : g.P.fds[f]? = some fd
  fn : fnB ps fd N BX params scope = true
  chk : chkSs m (cfD g N scope BX lam) fd.body body = true
section
variable {prog : Program} {w : World} {mg : Str → Option Value} {base : Heap} {Z : Lk} {g : CfG}
theorem call_all (Gl : Glob mg base Z g) (hF : ∀ (f : Nat) (ps : List Str), g.fps[f]? = some ps → ∃ fd name qual params body scope N BX lam m, FnAt mg base Z g f ps fd name qual params body scope N BX lam m) : ∀ n, CallP prog w mg base Z g n ∧ LamP prog w mg base Z g n
  | 0 => And.intro (fun f nn ks ps hs hf A outer s H us ws vs zs μ st xs ys args e st' hr e0 rv rz sto r1 r2 l1 l2 hp he => by cases he) (fun l cs ga A outer s H us vs μ st xs e st' hr e0 rv sto rs rg he => by cases he)
  | n + 1 => by
    obtain ⟨hC, hL⟩ := call_all Gl hF n
    refine ⟨fun f nn ks ps hs hf A outer s H us ws vs zs μ st xs ys args e st' hr e0 rv rz sto r1 r2 l1 l2 hp he => ?_, lam_call Gl hC hL⟩
    obtain ⟨fd, name, qual, params, body, scope, N, BX, lam, m, F⟩ := hF f ps hf
    obtain ⟨kV, doc, pm, cdv, ct, oc, an, od, osl, lk, hcd, hlam⟩ := F.rec_
    have he' : runFd (calls g.P n) fd args st = .ok e st' := by
      have z : (calls g.P (n + 1)).fn f args st = (match g.P.fds[f]? with
        | some fd => runFd (calls g.P n) fd args st
        | none => .no) := rfl
      rw [z, F.at_] at he
      exact he
    obtain ⟨S, k1, _⟩ := fnB_scope F.fn
    obtain ⟨vs', us', q1, q2, q3, q4⟩ := bind_perm (fd := PySem.W.fnOf name qual params body scope .none kV doc pm an cdv ct) (params := params) rfl rfl k1 (Gl.sig f nn ks ps hs hf) rv rz r1 r2 l1 l2 hp
    exact def_call Gl hC hL lk hcd F.fn F.chk hlam hr e0 (BindsTo.of_eq q4) q2 q3 sto q1 he'
end
end Y
end
section
set_option Elab.async false
set_option linter.all false
set_option maxRecDepth 100000
set_option maxHeartbeats 4000000
set_option autoImplicit false
/-! Y30: the law's def. -/
namespace Y
open PySem PySem.Spec PyProof.Rows L2 LamX NdefX
/-- the link that a head gives -/
def mkLk (K : PySem.W.Frag) (g : CfG) (ad : List Addr) (tabs : List (Addr × Str)) : Lk :=
  ⟨K, ad.length, fun i => ad.getD i 0, fun l q params body scope => ∃ n lm lmd sc, g.lmc[l]? = some lm ∧ g.P.lms[l]? = some lmd ∧ lamB lm lmd params sc scope = true ∧ chkE n (Cf.inL g lm scope) lmd.body body = true, fun l => match g.lmc[l]? with
    | some lm => lm.fr
    | none => [], tabs, []⟩
section
variable {K : PySem.W.Frag} {mg : Str → Option Value} {base : Heap} {g : CfG} {ad : List Addr} {tabs : List (Addr × Str)}
theorem glob_of (gd : ∀ x d, (x, d) ∈ g.gd → ∃ v u, mg x = some u ∧ RelV v u ∧ (∀ i, d = .int i → v = .int i) ∧ (∀ i, d = .str i → v = .str i)) (gf : ∀ x f, (x, f) ∈ g.gf → ∃ a, ad[f]? = some a ∧ mg x = some (.ref a) ∧ PySem.W.keepIn K (.ref a) = true)
    (bl : ∀ x, x ∈ bltNames → mg x = none) (sig : ∀ (f nn : Nat) (ks ps : List Str), (f, nn, ks) ∈ g.sigs → g.fps[f]? = some ps → sigB ps nn ks = true) : Glob mg base (mkLk K g ad tabs) g := by
  have at' : ∀ {f : Nat} {a : Addr}, ad[f]? = some a → (mkLk K g ad tabs).F f = a := fun {f a} h => by
    show ad.getD f 0 = a
    rw [List.getD_eq_getElem?_getD, h]; rfl
  refine ⟨gd, fun x f h => ?_, bl, fun x f h => ?_, sig, fun n l lm lmd params body sc scope q h1 h2 h3 h4 => ⟨⟨n, lm, lmd, sc, h1, h2, h3, h4⟩, ?_⟩, fun l q params body scope ⟨n, lm, lmd, sc, h1, h2, h3, h4⟩ => ⟨n, lm, lmd, sc, h1, h2, h3, h4, ?_⟩⟩
  · obtain ⟨a, h1, h2, _⟩ := gf x f h
    rw [at' h1]
    exact ⟨h2, (List.getElem?_eq_some_iff.mp h1).1⟩
  · obtain ⟨a, h1, _, h3⟩ := gf x f h
    rw [at' h1]; exact h3
  · show (match g.lmc[l]? with
      | some lm => lm.fr
      | none => []) = lm.fr
    rw [h1]
  · show (match g.lmc[l]? with
      | some lm => lm.fr
      | none => []) = lm.fr
    rw [h1]
end
section
variable {prog : Program} {w : World} {mg : Str → Option Value} {base : Heap} {Z : Lk} {g : CfG}
theorem ints_rep {H : Hp} {μ : Mu} : ∀ ns : List Int, Reps Z H μ (ns.map V.int) (ns.map D.int)
  | [] => .nil
  | n :: ns => .cons (.int n) (ints_rep ns)
theorem ls_of {K : PySem.W.Frag} {H : Hp} {a : Addr} {xs : List V} (h : SqL K H a xs) : LsAt K H ⟨[], [], []⟩ a xs := h.imp (fun h => ⟨⟨by simp, by simp⟩, h⟩) id
theorem sto0 {H : Hp} (t : Tabs Z.tabs H) : StoR (Z.at []) [] ⟨[], [], []⟩ [] H :=
  ⟨rfl, fun i j a h _ => by simp at h, fun n xs h => by simp at h, fun n k xs h => by simp at h, fun n od h => by simp at h, fun n a h => by simp at h, fun n h => by simp at h, ⟨fun m n a h _ => by simp at h, fun n a b h _ => by simp at h, fun n a h _ => by simp at h⟩, t, fun b h => by simp at h⟩
theorem law_run {n k f : Nat} {fd : Fd} {x name qual : Str} {params : Arguments} {body : List Stmt} {scope : Scope} {kV doc pm cdv ct oc : Value} {an od : Option Addr} {osl : Array (Option Value)} {N : List Str} {BX : List Nat} {lam : Bool} {m : Nat} (Gl : Glob mg base Z g)
    (hF : ∀ (f : Nat) (ps : List Str), g.fps[f]? = some ps → ∃ fd name qual params body scope N BX lam m, FnAt mg base Z g f ps fd name qual params body scope N BX lam m)
    (lk : Z.K.lookup (Z.F f) = some ⟨oc, od, .func (PySem.W.fnOf name qual params body scope .none kV doc pm an cdv ct), osl⟩) (hcd : PySem.W.codeIn Z.K cdv qual = true) (hb : fnB [x] fd N BX params scope = true) (hch : chkSs m (cfD g N scope BX lam) fd.body body = true)
    (hlam : lam = true → ∃ cc P, cdv = .ref cc ∧ TabB base mg cc P ∧ (P, qual ++ ".<locals>." ++ "<lambda>") ∈ Z.tabs ∧ ∀ p ∈ Z.tabs, p.1 = P → p.2 = qual ++ ".<locals>." ++ "<lambda>")
    {A : Around} {outer : List PySem.Env} {s : Shared} {H : Hp} {args : Args} {a : Addr} {ns : List Int} {st' : Sto} (hr : RoomY (k + 1) A) (e0 : Env0 prog w Z.K mg base A outer s H)
    (hbt : BindsTo s (PySem.W.fnOf name qual params body scope .none kV doc pm an cdv ct) args [(x, .ref a)]) (ht : Tabs Z.tabs H) (hs : SqL Z.K H a (ns.map V.int)) (hp : runFd (calls g.P k) fd [.lst (ns.map D.int)] [] = .ok (.bl true) st') :
    codeAny (model prog w) A (.call (.ref (Z.F f)) args) (CR C8.CX0 outer prog w H s (fun v _ => v = .bl true) C8.E0) s := by
  obtain ⟨hC, hL⟩ := call_all (prog := prog) (w := w) Gl hF k
  have r : Reps (Z.at []) H ⟨[], [], []⟩ [.ref a] [.lst (ns.map D.int)] := .cons (.lst (ls_of hs) (ints_rep ns)) .nil
  refine codeAny_mono (def_call Gl hC hL lk hcd hb hch hlam hr e0 (us := [.ref a]) (vs := [V.ref a]) hbt (.cons (show RelV (V.ref a) (Value.ref a) from rfl) .nil) rfl (sto0 ht) r hp) fun rr s' hq => ?_
  cases rr with
  | error e => exact (show False from hq).elim
  | ok fl =>
    cases fl with
    | ret u =>
      obtain ⟨v, H', os, bare, un, hok, rv', μ', n1, r1⟩ := hq
      refine ⟨v, H', os, bare, un, hok, rv', ?_⟩
      cases r1
      rfl
    | next => exact False.elim hq
    | brk => exact False.elim hq
    | cont => exact False.elim hq
end
end Y
end
section
set_option Elab.async false
set_option linter.all false
set_option maxRecDepth 100000
set_option maxHeartbeats 4000000
set_option autoImplicit false
/-! Y31: from the head's heap to the law's call (the guards are known there). -/
namespace Y
open PySem PySem.Spec PyProof.Rows L2 LamX NdefX
section
variable {P : Program} {w : World} {K : PySem.W.Frag} {mg mb : Str → Option Value} {fa a : Addr} {cs : List (Addr × Addr)} {S : Shared} {vs : List Value} {ns : List Int}
/-- an empty table of code objects -/
def tabO : Obj := { cls := .none, data := .fields #[] }
/-- what is tracked when the law is called: the tables, and the script where it is no object of the module -/
def H0 (K : PySem.W.Frag) (cs : List (Addr × Addr)) (a : Addr) (o : Obj) (xs : List V) : Hp := fun b =>
  if b ∈ cs.map (·.2) then some (.tbl #[]) else if b = a ∧ K.lookup a = none then some (.frz o (.lst xs)) else none
theorem H0_cases {o : Obj} {xs : List V} {b : Addr} {u : HO} (h : H0 K cs a o xs b = some u) : (b ∈ cs.map (·.2) ∧ u = .tbl #[]) ∨ (b ∉ cs.map (·.2) ∧ b = a ∧ K.lookup a = none ∧ u = .frz o (.lst xs)) := by
  unfold H0 at h
  split at h
  · rename_i hm
    cases h
    exact .inl ⟨hm, rfl⟩
  · rename_i hm
    split at h
    · rename_i hc
      cases h
      exact .inr ⟨hm, hc.1, hc.2, rfl⟩
    · cases h
theorem law_end (inK : K.In S.heap) (nsG : S.heap.Ns mainGlobals mg) (nsB : S.heap.Ns builtinsNs mb) (mbB : ∀ x : Str, x ≠ "__name__" → mb x = bootBuiltins x) (noL : S.heap.NoLimit) (g0 : S.gens = #[]) (tabs : ∀ p ∈ cs, S.heap.get? p.2 = some tabO) (tabK : ∀ p ∈ cs, K.lookup p.2 = none)
    (heads : ∀ p ∈ cs, PySem.W.CodeHd S.heap p.1 p.2) (bmod : ∃ (bm : Addr) (ob : Obj), mg "__builtins__" = some (.ref bm) ∧ bm ≠ builtinsNs ∧ S.heap.get? bm = some ob ∧ ob.cls = .type "module" ∧ ob.dict = some builtinsNs ∧ ob.data = .plain)
    (script : S.heap.get? a = some { cls := .type "list", data := .seq vs.toArray }) (hints : IntsAre vs ns) (short : ns.length ≤ sizeLine)
    (F : ∀ (base : Heap) (H : Hp), K.In base → base.Ns mainGlobals mg → (∀ p ∈ cs, TabB base mg p.1 p.2) → Env0 P w K mg base callerA [] S H → (∀ p ∈ cs, H p.2 = some (.tbl #[])) → SqL K H a (ns.map V.int) →
      codeAny (model P w) callerA (.call (.ref fa) ⟨[.ref a], []⟩) (CR C8.CX0 [] P w H S (fun v _ => v = .bl true) C8.E0) S) :
    codeAny (model P w) callerA (.call (.ref fa) ⟨[.ref a], []⟩) (fun r s' => r = .ok (.ret (.bool true)) ∧ OldK S.heap s'.heap ∧ s'.os = S.os ∧ AllBare s'.gens) S := by
  have valsI := vals_ints hints
  obtain ⟨oS, hoS⟩ : ∃ o : Obj, o = { cls := .type "list", data := .seq vs.toArray } := ⟨_, rfl⟩
  have script' : S.heap.get? a = some oS := by rw [hoS]; exact script
  have at_tab : ∀ {b : Addr}, b ∈ cs.map (·.2) → S.heap.get? b = some tabO := fun {b} hb => by
    obtain ⟨p, hp, rfl⟩ := List.mem_map.mp hb
    exact tabs p hp
  have tabC : ∀ {p : Addr × Addr}, p ∈ cs → p.2 ∈ cs.map (·.2) := fun {p} hp => List.mem_map.mpr ⟨p, hp, rfl⟩
  have aNo : a ∉ cs.map (·.2) := fun z => by
    have e := (at_tab z).symm.trans script
    have := congrArg Obj.data (Option.some.inj e)
    unfold tabO at this
    cases this
  obtain ⟨H, hH⟩ : ∃ H : Hp, H = H0 K cs a oS (ns.map V.int) := ⟨_, rfl⟩
  have cas : ∀ {b : Addr} {u : HO}, H b = some u → (b ∈ cs.map (·.2) ∧ u = .tbl #[]) ∨ (b ∉ cs.map (·.2) ∧ b = a ∧ K.lookup a = none ∧ u = .frz oS (.lst (ns.map V.int))) := fun {b u} h => H0_cases (by rw [← hH]; exact h)
  have Htab : ∀ p ∈ cs, H p.2 = some (.tbl #[]) := fun p hp => by
    rw [hH]; exact if_pos (tabC hp)
  have Hseq : SqL K H a (ns.map V.int) := by
    cases hk : K.lookup a with
    | none =>
      refine .inl (.inr ⟨oS, ?_⟩)
      rw [hH]
      show (if a ∈ cs.map (·.2) then _ else if a = a ∧ K.lookup a = none then _ else _) = _
      rw [if_neg aNo, if_pos ⟨rfl, hk⟩]
    | some o =>
      have e := inK a o hk
      rw [script] at e
      cases e
      exact .inr ⟨_, vs.toArray, _, hk, rfl, rfl, rfl, by rw [List.size_toArray, hints.length]; exact short, by simpa using valsI⟩
  have Hok : HOk P w H S.heap := fun b u h => by
    rcases cas h with ⟨hb, rfl⟩ | ⟨_, rfl, hk, rfl⟩
    · exact at_tab hb
    · exact ⟨script', by rw [List.length_map]; exact short, vs, _, valsI, by rw [← hoS]; exact script'⟩
  -- what is not tracked: all but plain sequences and the tables
  have free_of : ∀ {b : Addr} {o : Obj}, S.heap.get? b = some o → o.data ≠ .seq vs.toArray 0 → o.data ≠ .fields #[] → H b = none := fun {b o} e n1 n2 => by
    cases hb : H b with
    | none => rfl
    | some u =>
      rcases cas hb with ⟨hm, _⟩ | ⟨_, rfl, _, _⟩
      · rw [at_tab hm] at e; cases e
        exact absurd rfl n2
      · rw [script] at e; cases e
        exact absurd rfl n1
  have get' : ∀ {b : Addr} {o : Obj}, S.heap.get? b = some o → H b = none → (hidT S.heap H).get? b = some o := fun e n => hidT_get e n
  have nsOf : ∀ {b : Addr} {m : Str → Option Value}, S.heap.Ns b m → (hidT S.heap H).Ns b m := fun {b m} ⟨o, es, ep, e, d, r⟩ =>
    ⟨o, es, ep, get' e (free_of e (by rw [d]; simp) (by rw [d]; simp)), d, r⟩
  have baseK : K.In (hidT S.heap H) := fun b o e => get' (inK b o e) (by
    cases hb : H b with
    | none => rfl
    | some u =>
      rcases cas hb with ⟨hm, _⟩ | ⟨_, rfl, hk, _⟩
      · obtain ⟨p, hp, rfl⟩ := List.mem_map.mp hm
        rw [tabK p hp] at e; cases e
      · rw [hk] at e; cases e)
  have modB : L2.Mod K mg (hidT S.heap H) := ⟨baseK, nsOf nsG, ⟨mb, nsOf nsB, mbB⟩, by
    obtain ⟨mc, q1, q2⟩ := noL
    exact ⟨mc, nsOf q1, q2⟩⟩
  have tabB : ∀ p ∈ cs, TabB (hidT S.heap H) mg p.1 p.2 := fun p hp => by
    refine ⟨?_, ?_, fun z => ?_⟩
    · obtain ⟨o, us, file, tf, flags, tg, inF, text, tt, e1, r1, r2, r3, rest⟩ := heads p hp
      refine ⟨o, us, file, tf, flags, tg, inF, text, tt, get' e1 (free_of e1 (by rw [r2]; simp) fun z => ?_), r1, r2, r3, rest⟩
      rw [r2] at z
      injection z with z
      rw [z] at r3
      simp at r3
    · obtain ⟨bm, ob, b1, b2, b3, b4, b5, b6⟩ := bmod
      refine ⟨bm, ob, b1, b2, fun z => ?_, fun z => ?_, get' b3 (free_of b3 (by rw [b6]; simp) (by rw [b6]; simp)), b4, b5, b6⟩
      · obtain ⟨o, es, ep, e, d, _⟩ := nsG
        rw [← z, b3] at e; cases e
        rw [b6] at d; cases d
      · rw [z, tabs p hp] at b3; cases b3
        unfold tabO at b6; cases b6
    · obtain ⟨o, es, ep, e, d, _⟩ := nsG
      rw [z, tabs p hp] at e; cases e
      unfold tabO at d; cases d
  have e0 : Env0 P w K mg (hidT S.heap H) callerA [] S H :=
    { frames := rfl
      mod := modB
      bs := fun b o e => of_hidT e
      bsz := by rw [hidT_size]; exact Nat.le_refl _
      funs := trivial
      frf := fun b hb => nomatch (show b ∈ ([] : List Addr) from hb)
      hok := Hok
      bare := .of_eq g0 }
  refine codeAny_mono (F _ H baseK (nsOf nsG) tabB e0 Htab Hseq) fun r s' h => ?_
  cases r with
  | error e => exact (show False from h).elim
  | ok fl =>
    cases fl with
    | next => exact False.elim h
    | brk => exact False.elim h
    | cont => exact False.elim h
    | ret u =>
      obtain ⟨v, H', os, bare, un, hok', rv, rfl⟩ := h
      obtain rfl : u = Value.bool true := rv
      have stays : ∀ b o, b ∉ cs.map (·.2) → S.heap.get? b = some o → s'.heap.get? b = some o := fun b o nb e => by
        cases hb : H b with
        | none => exact un.keep b o e hb (fun z => nomatch (show b ∈ ([] : List Addr) from z)) (fun z => nomatch z)
        | some u =>
          rcases cas hb with ⟨hm, _⟩ | ⟨_, rfl, _, rfl⟩
          · exact absurd hm nb
          · have z := (hok' _ _ (un.frzs _ _ _ hb)).1
            rw [script'] at e; cases e
            exact z
      have tabs' : ∀ b, b ∈ cs.map (·.2) → ∃ more : Array Value, s'.heap.get? b = some { cls := .none, data := .fields more } := fun b hm => by
        obtain ⟨p, hp, rfl⟩ := List.mem_map.mp hm
        obtain ⟨more, z⟩ := un.tbls p.2 #[] (Htab p hp)
        exact ⟨_, hok' p.2 _ z⟩
      refine ⟨rfl, ⟨fun b o e => ?_, fun b o e => ?_⟩, os, bare⟩
      · by_cases hm : b ∈ cs.map (·.2)
        · obtain ⟨more, z⟩ := tabs' b hm
          obtain ⟨p, hp, rfl⟩ := List.mem_map.mp hm
          have e' := e
          rw [tabs p hp] at e'; cases e'
          exact .inr (.inl ⟨((heads p hp).tab (tabs p hp)).isCodeTable, rfl, #[], more, rfl, by rw [Array.empty_append]; exact z⟩)
        · exact .inl (stays b o hm e)
      · by_cases hm : b ∈ cs.map (·.2)
        · obtain ⟨more, z⟩ := tabs' b hm
          exact ⟨_, z⟩
        · exact ⟨o, stays b o hm e⟩
end
end Y
end
section
set_option Elab.async false
set_option linter.all false
set_option maxRecDepth 100000
set_option maxHeartbeats 4000000
set_option autoImplicit false
/-! Y32: the walk that a head asks. -/
namespace Y
open PySem PySem.Spec PyProof.Rows L2 LamX NdefX
/-- what is to be known at the head's heap -/
def AtHead (P : Program) (w : World) (n : Nat) (mg : Str → Option Value) (fa : Addr) (h : Heap) : Prop :=
  ∃ (K : PySem.W.Frag) (cs : List (Addr × Addr)), K.In h ∧ (∀ p ∈ cs, h.get? p.2 = some tabO) ∧ (∀ p ∈ cs, K.lookup p.2 = none) ∧ (∀ p ∈ cs, PySem.W.CodeHd h p.1 p.2) ∧
    ∀ (S : Shared) (base : Heap) (H : Hp) (a : Addr) (ns : List Int), ns.length ≤ n → (∀ z ∈ ns, Builtin.Int.intBits z ≤ 1048576) → K.In base → base.Ns mainGlobals mg → (∀ p ∈ cs, TabB base mg p.1 p.2) → Env0 P w K mg base callerA [] S H → (∀ p ∈ cs, H p.2 = some (.tbl #[])) → SqL K H a (ns.map V.int) →
      codeAny (model P w) callerA (.call (.ref fa) ⟨[.ref a], []⟩) (CR C8.CX0 [] P w H S (fun v _ => v = .bl true) C8.E0) S
theorem law_walk {l : PySem.W.OpenLaw} {n : Nat} {q : Program} {loose : List Str} {XP : (Str → Option Value) → Heap → Prop} {YP : World → Heap → Prop} {d : DefRec} (most : l.most = some n) (fits : n ≤ sizeLine) (noD : d.params.defaults = [])
    (F : ∀ (w : World) (mg : Str → Option Value) (fa : Addr) (h : Heap), YP w h → h.Ns mainGlobals mg → mg d.name = some (.ref fa) → AtHead l.prog w n mg fa h) :
    PySem.W.WalkO q loose XP YP l.row.toRowW d [] (fun f vs => PySem.call f vs) := by
  refine Att.attach_callB most noD fun w s0 s1 mg mb fa o pm cd doc a vs ns G Y ho hd hcd hmg hobj hints hlen hbits hg => ?_
  obtain ⟨K, cs, inK, t1, t2, t3, run⟩ := F w mg fa _ Y G.T.g hmg
  exact law_end inK G.T.g G.T.b G.T.builtins G.T.nolimit hg t1 t2 t3 G.T.bmain hobj hints (Nat.le_trans hlen fits) fun base H b1 b2 b3 b4 b5 b6 => run s1 base H a ns hlen hbits b1 b2 b3 b4 b5 b6
end Y
end
section
set_option Elab.async false
set_option linter.all false
set_option maxRecDepth 100000
set_option maxHeartbeats 4000000
set_option autoImplicit false
/-! Y33: from the head's facts to Glob and FnAt. -/
namespace Y
open PySem PySem.Spec PyProof.Rows L2 LamX NdefX
/-- a def of the top: the statement's place, what it was read as -/
structure DD where
  pos : Nat
  name : Str
  ps : List Str
  N : List Str
  BX : List Nat
  lam : Bool
def DD.r (prog : Program) (d : DD) : DefRec := HandSHeadRun.topDef prog d.pos
def DD.d (prog : Program) (d : DD) : He.DefD := ⟨(d.name, none), d.name, d.name, (d.r prog).params, (d.r prog).body, (d.r prog).scope, [], []⟩
def DD.ok (prog : Program) (g : CfG) (f : Nat) (d : DD) : Bool := decide (g.fps[f]? = some d.ps) && (match g.P.fds[f]? with
  | some fd => fnB d.ps fd d.N d.BX (d.r prog).params (d.r prog).scope && chkSs 400 (cfD g d.N (d.r prog).scope d.BX d.lam) fd.body (d.r prog).body
  | none => false)
def lamName (x : Str) : Str := x ++ ".<locals>." ++ "<lambda>"
section
variable {prog : Program} {w : World} {K : PySem.W.Frag} {mg : Str → Option Value} {h base : Heap} {g : CfG} {ds : List DD}
def tfOf (ds : List DD) : List He.Defn := (ds.filter (·.lam)).map fun d => (d.name, none)
def tabsOf (K : PySem.W.Frag) (ds : List DD) : List (Addr × Str) := (ds.filter (·.lam)).map fun d => ((He.cT K (d.name, none)).2, lamName d.name)
def adOf (K : PySem.W.Frag) (ds : List DD) : List Addr := ds.map fun d => He.ga K d.name
/-- the tables lie apart -/
def exOf (ds : List DD) (K : PySem.W.Frag) : Bool := decide ((tabsOf K ds).map (·.1)).Nodup
theorem fn_at (f : Nat) (d : DD) (hd : ds[f]? = some d) (ok : d.ok prog g f = true) (nd : exOf ds K = true) (F : ∃ fd, FunD K d.name d.name (d.r prog).params (d.r prog).body (d.r prog).scope [] [] (He.ga K d.name) fd) (tb : ∀ p ∈ (tfOf ds).map (He.cT K), TabB base mg p.1 p.2) :
    ∃ fd name qual params body scope N BX lam m, FnAt mg base (mkLk K g (adOf K ds) (tabsOf K ds)) g f d.ps fd name qual params body scope N BX lam m := by
  unfold DD.ok at ok
  simp only [Bool.and_eq_true] at ok
  obtain ⟨ok1, ok2⟩ := ok
  cases hfd : g.P.fds[f]? with
  | none => rw [hfd] at ok2; cases ok2
  | some fd =>
  rw [hfd] at ok2
  simp only [Bool.and_eq_true] at ok2
  refine ⟨fd, d.name, d.name, (d.r prog).params, (d.r prog).body, (d.r prog).scope, d.N, d.BX, d.lam, 400, ⟨?_, hfd, ok2.1, ok2.2⟩⟩
  obtain ⟨fdat, F⟩ := F
  obtain ⟨oc, od, dV, kV, doc, pm, an, cdv, ct, osl, rfl, lk, hcd, hD, hK⟩ := F.ex
  have ad : (mkLk K g (adOf K ds) (tabsOf K ds)).F f = He.ga K d.name := by
    show (adOf K ds).getD f 0 = _
    unfold adOf
    rw [List.getD_eq_getElem?_getD, List.getElem?_map, hd]; rfl
  have dv : dV = .none := by
    rcases hD with ⟨_, e⟩ | ⟨e, _⟩
    · exact e
    · exact absurd rfl e
  subst dv
  refine ⟨kV, doc, pm, cdv, ct, oc, an, od, osl, by rw [ad]; exact lk, hcd, fun hl => ?_⟩
  obtain ⟨cc, rfl⟩ : ∃ cc, cdv = .ref cc := by
    unfold PySem.W.codeIn at hcd
    split at hcd
    · exact ⟨_, rfl⟩
    · cases hcd
  have ec : He.codeOf K (d.name, none) = cc := He.codeOf_eq (p := (d.name, none)) lk rfl
  have hmem : d ∈ ds.filter (·.lam) := List.mem_filter.mpr ⟨List.mem_of_getElem? hd, hl⟩
  refine ⟨cc, (He.cT K (d.name, none)).2, rfl, ?_, List.mem_map.mpr ⟨d, hmem, rfl⟩, fun p hp e => ?_⟩
  · have z := tb (He.cT K (d.name, none)) (List.mem_map.mpr ⟨(d.name, none), List.mem_map.mpr ⟨d, hmem, rfl⟩, rfl⟩)
    have e1 : (He.cT K (d.name, none)).1 = cc := ec
    rw [e1] at z
    exact z
  · have ndp : ((tabsOf K ds).map (·.1)).Nodup := of_decide_eq_true nd
    have h2 : ((He.cT K (d.name, none)).2, lamName d.name) ∈ tabsOf K ds := List.mem_map.mpr ⟨d, hmem, rfl⟩
    obtain ⟨i, hi⟩ := List.mem_iff_getElem?.mp (show p ∈ tabsOf K ds from hp)
    obtain ⟨j, hj⟩ := List.mem_iff_getElem?.mp h2
    have gi : ((tabsOf K ds).map (·.1))[i]? = some p.1 := by rw [List.getElem?_map, hi]; rfl
    have gj : ((tabsOf K ds).map (·.1))[j]? = some p.1 := by rw [List.getElem?_map, hj, e]; rfl
    have ij : i = j := (List.getElem?_inj (List.getElem?_eq_some_iff.mp gi).1 ndp).mp (gi.trans gj.symm)
    rw [ij, hj] at hi
    exact (congrArg Prod.snd (Option.some.inj hi)).symm
/-- the facts that a head is asked for -/
def faOf (g : CfG) (ds : List DD) : List He.Fa := (ds.map fun d => He.Fa.glo d.name) ++ ((bltNames.map fun x => He.Fa.free x) ++ g.gd.filterMap fun p => match p.2 with
  | .int i => some (He.Fa.int p.1 i)
  | _ => none)
def gOk (g : CfG) (ds : List DD) : Bool := (g.gf.all fun p => match ds[p.2]? with
    | some d => d.name == p.1
    | none => false) && (g.gd.all fun p => match p.2 with
    | .int _ => true
    | _ => false) && (g.sigs.all fun s => match g.fps[s.1]? with
    | some ps => sigB ps s.2.1 s.2.2
    | none => true)
theorem glob_head (X : K.In h) (G : h.Ns mainGlobals mg) (X' : K.In base) (G' : base.Ns mainGlobals mg) (c : ∀ f ∈ faOf g ds, f.ok K = true) (kp : ∀ d ∈ ds, PySem.W.keepIn K (.ref (He.ga K d.name)) = true) (ok : gOk g ds = true) : Glob mg base (mkLk K g (adOf K ds) (tabsOf K ds)) g := by
  unfold gOk at ok
  simp only [Bool.and_eq_true, List.all_eq_true] at ok
  obtain ⟨⟨ok1, ok2⟩, ok3⟩ := ok
  refine glob_of (fun x d hm => ?_) (fun x f hm => ?_) (fun x hx => ?_) (fun f nn ks ps hs hf => ?_)
  · have z := ok2 _ hm
    cases d with
    | int i =>
      obtain ⟨t, e⟩ := He.int_ok X G (c (.int x i) (by
        unfold faOf
        exact List.mem_append_right _ (List.mem_append_right _ (List.mem_filterMap.mpr ⟨(x, .int i), hm, rfl⟩))))
      exact ⟨.int i, .int i t, e, ⟨_, rfl⟩, fun j e => (by cases e; rfl), fun j e => by cases e⟩
    | _ => cases z
  · have z := ok1 _ hm
    simp only at z
    cases hd : ds[f]? with
    | none => rw [hd] at z; cases z
    | some d =>
      rw [hd] at z
      have e : d.name = x := by simpa using z
      subst e
      have hmem := List.mem_of_getElem? hd
      refine ⟨He.ga K d.name, by unfold adOf; rw [List.getElem?_map, hd]; rfl, He.glo_ok X G (c _ (List.mem_append_left _ (List.mem_map.mpr ⟨d, hmem, rfl⟩))), kp d hmem⟩
  · exact He.free_ok X G (c _ (List.mem_append_right _ (List.mem_append_left _ (List.mem_map.mpr ⟨x, hx, rfl⟩))))
  · have z := ok3 _ hs
    simp only at z
    rw [hf] at z
    exact z
theorem at_head {n k fl : Nat} {dl : DD} {fd : Fd} {x : Str} {fa : Addr} (X : K.In h) (G : h.Ns mainGlobals mg) (c : He.SaysX (faOf g ds) (ds.map (DD.d prog)) [] (tfOf ds) (exOf ds) w h K) (ok : gOk g ds = true) (okD : ∀ (f : Nat) (d : DD), ds[f]? = some d → d.ok prog g f = true)
    (okL : ∀ (f : Nat) (ps : List Str), g.fps[f]? = some ps → ∃ d, ds[f]? = some d) (hl : ds[fl]? = some dl) (hx : dl.ps = [x]) (hfd : g.P.fds[fl]? = some fd) (hm : mg dl.name = some (.ref fa)) (room : Room (k + 1) callerA)
    (plain : ∀ ns : List Int, ns.length ≤ n → (∀ z ∈ ns, Builtin.Int.intBits z ≤ 1048576) → ∃ st', runFd (calls g.P k) fd [.lst (ns.map D.int)] [] = .ok (.bl true) st') : AtHead prog w n mg fa h := by
  have sD : He.SaysD (faOf g ds) (ds.map (DD.d prog)) K := congrArg (fun z : He.AlT => z.1) c.t
  have defs : ∀ d ∈ ds, ∃ fd, FunD K d.name d.name (d.r prog).params (d.r prog).body (d.r prog).scope [] [] (He.ga K d.name) fd := fun d hd => sD.defs (d := d.d prog) (List.mem_map.mpr ⟨d, hd, rfl⟩)
  have kp : ∀ d ∈ ds, PySem.W.keepIn K (.ref (He.ga K d.name)) = true := fun d hd => (defs d hd).elim fun _ F => F.kp
  refine ⟨K, (tfOf ds).map (He.cT K), X, fun p hp => ?_, fun p hp => ?_, fun p hp => ?_, fun S base H a ns h1 h2 b1 b2 b3 b4 b5 b6 => ?_⟩
  · obtain ⟨q, hq, rfl⟩ := List.mem_map.mp hp
    exact c.empty q hq
  · obtain ⟨q, hq, rfl⟩ := List.mem_map.mp hp
    exact c.out q hq
  · obtain ⟨q, hq, rfl⟩ := List.mem_map.mp hp
    exact PySem.W.codeHd_of_K X (c.hd q hq)
  have Gl : Glob mg base (mkLk K g (adOf K ds) (tabsOf K ds)) g := glob_head X G b1 b2 (fun f hf => sD.facts hf) kp ok
  have hF : ∀ (f : Nat) (ps : List Str), g.fps[f]? = some ps → ∃ fd name qual params body scope N BX lam m, FnAt mg base (mkLk K g (adOf K ds) (tabsOf K ds)) g f ps fd name qual params body scope N BX lam m := fun f ps hf => by
    obtain ⟨d, hd⟩ := okL f ps hf
    have e : d.ps = ps := by
      have z := okD f d hd
      unfold DD.ok at z
      simp only [Bool.and_eq_true, decide_eq_true_eq] at z
      rw [hf] at z
      exact (Option.some.inj z.1).symm
    rw [← e]
    exact fn_at f d hd (okD f d hd) c.more (defs d (List.mem_of_getElem? hd)) b3
  have hpsl : g.fps[fl]? = some [x] := by
    have z := okD fl dl hl
    unfold DD.ok at z
    simp only [Bool.and_eq_true, decide_eq_true_eq] at z
    rw [z.1, hx]
  obtain ⟨fd', name, qual, params, body, scope, N, BX, lam, m, FA⟩ := hF fl [x] hpsl
  obtain ⟨kV, doc, pm, cdv, ct, oc, an, od, osl, lk, hcd, hlam⟩ := FA.rec_
  have efd : fd' = fd := by
    have z := FA.at_
    rw [hfd] at z
    exact (Option.some.inj z).symm
  subst efd
  obtain ⟨st', hp⟩ := plain ns h1 h2
  have eF : (mkLk K g (adOf K ds) (tabsOf K ds)).F fl = fa := by
    show (adOf K ds).getD fl 0 = _
    unfold adOf
    rw [List.getD_eq_getElem?_getD, List.getElem?_map, hl]
    have z := He.glo_ok X G (x := dl.name) (sD.facts (f := .glo dl.name) (List.mem_append_left _ (List.mem_map.mpr ⟨dl, List.mem_of_getElem? hl, rfl⟩)))
    rw [hm] at z
    have z' : Value.ref fa = Value.ref (He.ga K dl.name) := Option.some.inj z
    injection z' with z'
    rw [z']; rfl
  have hbt : BindsTo S (PySem.W.fnOf name qual params body scope .none kV doc pm an cdv ct) ⟨[.ref a], []⟩ [(x, .ref a)] := by
    obtain ⟨_, k1, _⟩ := fnB_scope FA.fn
    obtain ⟨as, ea, epp⟩ : ∃ (as : List PySem.Arg), [x] = as.map (·.arg) ∧ params = ⟨[], as, none, [], [], none, []⟩ := by
      unfold simpleP at k1
      split at k1
      · exact ⟨_, (of_decide_eq_true k1).symm, rfl⟩
      · cases k1
    have hq := bind_sig (fd := PySem.W.fnOf name qual params body scope .none kV doc pm an cdv ct) (args := as) (kwd := []) (dfl := []) (us := [.ref a]) (ws := []) (as := [.ref a]) (ks := []) epp rfl (by rw [← ea]; exact sig_all (by simp)) rfl (by have := congrArg List.length ea; rw [List.length_map] at this; exact this) (fun i u _ k => k) fun i x u hi _ k => by
      have := (List.getElem?_eq_some_iff.mp k).1
      omega
    rw [← ea] at hq
    exact BindsTo.of_eq hq
  have go := law_run (n := n) (A := callerA) (outer := []) (s := S) (H := H) (args := ⟨[.ref a], []⟩) (a := a) (ns := ns) (w := w) Gl hF lk hcd FA.fn FA.chk hlam ⟨room, rfl⟩ b4 hbt (fun p hp => ?_) b6 hp
  · rw [eF] at go
    exact go
  · obtain ⟨d, hd, rfl⟩ := List.mem_map.mp (show p ∈ tabsOf K ds from hp)
    exact TabS.nil (b5 (He.cT K (d.name, none)) (List.mem_map.mpr ⟨(d.name, none), List.mem_map.mpr ⟨d, hd, rfl⟩, rfl⟩))
end
end Y
end
section
set_option maxRecDepth 100000
set_option Elab.async false
set_option linter.all false
/-! Z1: plain steps: values told as typed data, what a run leaves. Own work. -/
namespace Y
open PySem

/-! ### data -/
/-- a tuple of ints -/
def W (w : List Int) : D := .tup (w.map .int)
/-- a list of ints -/
def LI (w : List Int) : D := .lst (w.map .int)
/-- a tuple of such tuples, a list of them -/
def TW (w : List (List Int)) : D := .tup (w.map W)
def LW (w : List (List Int)) : D := .lst (w.map W)
structure Lw where
  fr : List Int
  to : Int
  ah : List Int
  be : List Int
deriving DecidableEq
def L (c : Lw) : D := .tup [W c.fr, .int c.to, W c.ah, W c.be]
def B (b : List Lw) : D := .tup (b.map L)
def LB (b : List Lw) : D := .lst (b.map L)

theorem nrs_all : ∀ xs : List D, D.nrs xs = xs.all D.nr
  | [] => rfl
  | x :: xs => by simp only [D.nrs, List.all_cons, nrs_all xs]
@[simp] theorem nr_int (i : Int) : D.nr (.int i) = true := id rfl
@[simp] theorem nr_bl (i : Bool) : D.nr (.bl i) = true := id rfl
@[simp] theorem nr_non : D.nr .non = true := id rfl
@[simp] theorem nr_str (x : Str) : D.nr (.str x) = true := id rfl
@[simp] theorem nr_tup (xs : List D) : D.nr (.tup xs) = xs.all D.nr := by simp [D.nr, nrs_all]
@[simp] theorem nr_lst (xs : List D) : D.nr (.lst xs) = xs.all D.nr := by simp [D.nr, nrs_all]
@[simp] theorem nrs_eq (xs : List D) : D.nrs xs = xs.all D.nr := nrs_all xs
theorem all_map' {α β : Type} (f : α → β) (p : β → Bool) (xs : List α) (h : ∀ a, p (f a) = true) : (xs.map f).all p = true := by
  simp [List.all_map, h]
@[simp] theorem nr_W (w : List Int) : D.nr (W w) = true := by simp [W]
@[simp] theorem nr_LI (w : List Int) : D.nr (LI w) = true := by simp [LI]
@[simp] theorem nr_TW (w : List (List Int)) : D.nr (TW w) = true := by simp [TW]
@[simp] theorem nr_LW (w : List (List Int)) : D.nr (LW w) = true := by simp [LW]
@[simp] theorem nr_L (c : Lw) : D.nr (L c) = true := by simp [L]
@[simp] theorem nr_B (b : List Lw) : D.nr (B b) = true := by simp [B]
@[simp] theorem nr_LB (b : List Lw) : D.nr (LB b) = true := by simp [LB]
/-- plain to a depth -/
@[simp] theorem plN_int (n : Nat) (i : Int) : D.plN n (.int i) = true := by cases n <;> rfl
@[simp] theorem plN_bl (n : Nat) (i : Bool) : D.plN n (.bl i) = true := by cases n <;> rfl
@[simp] theorem plN_non (n : Nat) : D.plN n .non = true := by cases n <;> rfl
@[simp] theorem plN_str (n : Nat) (x : Str) : D.plN n (.str x) = true := by cases n <;> rfl
@[simp] theorem plN_tup (n : Nat) (xs : List D) : D.plN (n + 1) (.tup xs) = xs.all (D.plN n) := id rfl
@[simp] theorem plN_lst (n : Nat) (xs : List D) : D.plN (n + 1) (.lst xs) = xs.all (D.plN n) := id rfl
@[simp] theorem plN_W (n : Nat) (w : List Int) : D.plN (n + 1) (W w) = true := by simp [W]
@[simp] theorem plN_LI (n : Nat) (w : List Int) : D.plN (n + 1) (LI w) = true := by simp [LI]
@[simp] theorem plN_TW (n : Nat) (w : List (List Int)) : D.plN (n + 2) (TW w) = true := by simp [TW]
@[simp] theorem plN_LW (n : Nat) (w : List (List Int)) : D.plN (n + 2) (LW w) = true := by simp [LW]
@[simp] theorem plN_L (n : Nat) (c : Lw) : D.plN (n + 2) (L c) = true := by simp [L]
@[simp] theorem plN_B (n : Nat) (b : List Lw) : D.plN (n + 3) (B b) = true := by simp [B]
@[simp] theorem plN_LB (n : Nat) (b : List Lw) : D.plN (n + 3) (LB b) = true := by simp [LB]
@[simp] theorem pl_eq (d : D) : d.pl = D.plN 40 d := id rfl

/-! equality -/
@[simp] theorem eq_int (a b : Int) : D.eq (.int a) (.int b) = decide (a = b) := by simp only [D.eq]; rw [Bool.eq_iff_iff]; simp
@[simp] theorem eq_bl (a b : Bool) : D.eq (.bl a) (.bl b) = decide (a = b) := by simp only [D.eq]; rw [Bool.eq_iff_iff]; simp
@[simp] theorem eq_str (a b : Str) : D.eq (.str a) (.str b) = decide (a = b) := by simp only [D.eq]; rw [Bool.eq_iff_iff]; simp
@[simp] theorem eq_tup (a b : List D) : D.eq (.tup a) (.tup b) = D.eqs a b := by simp [D.eq]
@[simp] theorem eq_lst (a b : List D) : D.eq (.lst a) (.lst b) = D.eqs a b := by simp [D.eq]
@[simp] theorem eqs_nil : D.eqs [] [] = true := by simp [D.eqs]
@[simp] theorem eqs_cons (x y : D) (xs ys : List D) : D.eqs (x :: xs) (y :: ys) = (D.eq x y && D.eqs xs ys) := by simp [D.eqs]
@[simp] theorem eqs_cn (x : D) (xs : List D) : D.eqs (x :: xs) [] = false := by simp [D.eqs]
@[simp] theorem eqs_nc (x : D) (xs : List D) : D.eqs [] (x :: xs) = false := by simp [D.eqs]
theorem eqs_map {α : Type} [DecidableEq α] (f : α → D) (h : ∀ a b, D.eq (f a) (f b) = decide (a = b)) : ∀ xs ys : List α, D.eqs (xs.map f) (ys.map f) = decide (xs = ys)
  | [], [] => by simp
  | [], _ :: _ => by simp
  | _ :: _, [] => by simp
  | x :: xs, y :: ys => by
    simp only [List.map_cons, eqs_cons, h, eqs_map f h xs ys, List.cons.injEq]
    by_cases h1 : x = y <;> by_cases h2 : xs = ys <;> simp [h1, h2]
@[simp] theorem eq_W (a b : List Int) : D.eq (W a) (W b) = decide (a = b) := by simp only [W, eq_tup]; exact eqs_map _ eq_int a b
@[simp] theorem eq_LI (a b : List Int) : D.eq (LI a) (LI b) = decide (a = b) := by simp only [LI, eq_lst]; exact eqs_map _ eq_int a b
@[simp] theorem eq_TW (a b : List (List Int)) : D.eq (TW a) (TW b) = decide (a = b) := by simp only [TW, eq_tup]; exact eqs_map _ eq_W a b
@[simp] theorem eq_LW (a b : List (List Int)) : D.eq (LW a) (LW b) = decide (a = b) := by simp only [LW, eq_lst]; exact eqs_map _ eq_W a b
@[simp] theorem eq_L (a b : Lw) : D.eq (L a) (L b) = decide (a = b) := by
  cases a with | mk a1 a2 a3 a4 => cases b with | mk b1 b2 b3 b4 =>
  simp only [L, eq_tup, eqs_cons, eq_W, eq_int, eqs_nil, Lw.mk.injEq, Bool.and_true]
  by_cases h1 : a1 = b1 <;> by_cases h2 : a2 = b2 <;> by_cases h3 : a3 = b3 <;> by_cases h4 : a4 = b4 <;> simp [h1, h2, h3, h4]
@[simp] theorem eq_B (a b : List Lw) : D.eq (B a) (B b) = decide (a = b) := by simp only [B, eq_tup]; exact eqs_map _ eq_L a b
@[simp] theorem eq_LB (a b : List Lw) : D.eq (LB a) (LB b) = decide (a = b) := by simp only [LB, eq_lst]; exact eqs_map _ eq_L a b
@[simp] theorem eq_W_nil (w : List Int) : D.eq (W w) (.tup []) = decide (w = []) := by cases w <;> simp [W]
@[simp] theorem eq_B_nil (w : List Lw) : D.eq (B w) (.tup []) = decide (w = []) := by cases w <;> simp [B]
@[simp] theorem eq_TW_nil (w : List (List Int)) : D.eq (TW w) (.tup []) = decide (w = []) := by cases w <;> simp [TW]
@[simp] theorem eq_LI_nil (w : List Int) : D.eq (LI w) (.lst []) = decide (w = []) := by cases w <;> simp [LI]
@[simp] theorem eq_LW_nil (w : List (List Int)) : D.eq (LW w) (.lst []) = decide (w = []) := by cases w <;> simp [LW]
theorem inD_map {α : Type} [DecidableEq α] (f : α → D) (h : ∀ a b, D.eq (f a) (f b) = decide (a = b)) (x : α) (xs : List α) : inD (f x) (xs.map f) = decide (x ∈ xs) := by
  unfold inD
  rw [List.any_map]
  induction xs with
  | nil => simp
  | cons y ys ih =>
    simp only [List.any_cons, Function.comp_apply, h, ih, List.mem_cons]
    by_cases h1 : y = x
    · subst h1; simp
    · have h2 : ¬ x = y := fun e => h1 e.symm
      simp [h1, h2]

/-! folding what is built -/

/-! operations over them -/
@[simp] theorem deref_int (st : Sto) (i : Int) : deref st (.int i) = .int i := id rfl
@[simp] theorem deref_bl (st : Sto) (i : Bool) : deref st (.bl i) = .bl i := id rfl
@[simp] theorem deref_non (st : Sto) : deref st .non = .non := id rfl
@[simp] theorem deref_str (st : Sto) (x : Str) : deref st (.str x) = .str x := id rfl
@[simp] theorem deref_tup (st : Sto) (x : List D) : deref st (.tup x) = .tup x := id rfl
@[simp] theorem deref_lst (st : Sto) (x : List D) : deref st (.lst x) = .lst x := id rfl
@[simp] theorem deref_W (st : Sto) (x : List Int) : deref st (W x) = W x := id rfl
@[simp] theorem deref_LI (st : Sto) (x : List Int) : deref st (LI x) = LI x := id rfl
@[simp] theorem deref_TW (st : Sto) (x : List (List Int)) : deref st (TW x) = TW x := id rfl
@[simp] theorem deref_LW (st : Sto) (x : List (List Int)) : deref st (LW x) = LW x := id rfl
@[simp] theorem deref_L (st : Sto) (x : Lw) : deref st (L x) = L x := id rfl
@[simp] theorem deref_B (st : Sto) (x : List Lw) : deref st (B x) = B x := id rfl
@[simp] theorem deref_LB (st : Sto) (x : List Lw) : deref st (LB x) = LB x := id rfl
theorem deref_ref {st : Sto} {n : Nat} {xs : List D} (h : st[n]? = some (.lst xs)) : deref st (.ref n) = .lst xs := by simp [deref, h]
@[simp] theorem srcD_tup (st : Sto) (x : List D) : srcD st (.tup x) = some (.fix x) := id rfl
@[simp] theorem srcD_lst (st : Sto) (x : List D) : srcD st (.lst x) = some (.fix x) := id rfl
@[simp] theorem srcD_W (st : Sto) (x : List Int) : srcD st (W x) = some (.fix (x.map .int)) := id rfl
@[simp] theorem srcD_LI (st : Sto) (x : List Int) : srcD st (LI x) = some (.fix (x.map .int)) := id rfl
@[simp] theorem srcD_TW (st : Sto) (x : List (List Int)) : srcD st (TW x) = some (.fix (x.map W)) := id rfl
@[simp] theorem srcD_LW (st : Sto) (x : List (List Int)) : srcD st (LW x) = some (.fix (x.map W)) := id rfl
@[simp] theorem srcD_B (st : Sto) (x : List Lw) : srcD st (B x) = some (.fix (x.map L)) := id rfl
@[simp] theorem srcD_LB (st : Sto) (x : List Lw) : srcD st (LB x) = some (.fix (x.map L)) := id rfl
theorem srcD_ref {st : Sto} {n : Nat} {xs : List D} (h : st[n]? = some (.lst xs)) : srcD st (.ref n) = some (.cell n xs.length) := by simp [srcD, h]
@[simp] theorem litems_tup (x : List D) : litems (.tup x) = some x := id rfl
@[simp] theorem litems_lst (x : List D) : litems (.lst x) = some x := id rfl
@[simp] theorem litems_W (x : List Int) : litems (W x) = some (x.map .int) := id rfl
@[simp] theorem litems_LI (x : List Int) : litems (LI x) = some (x.map .int) := id rfl
@[simp] theorem litems_TW (x : List (List Int)) : litems (TW x) = some (x.map W) := id rfl
@[simp] theorem litems_LW (x : List (List Int)) : litems (LW x) = some (x.map W) := id rfl
@[simp] theorem litems_B (x : List Lw) : litems (B x) = some (x.map L) := id rfl
@[simp] theorem litems_LB (x : List Lw) : litems (LB x) = some (x.map L) := id rfl
@[simp] theorem truD_bl (b : Bool) : truD (.bl b) = some b := id rfl
@[simp] theorem truD_non : truD .non = some false := id rfl
@[simp] theorem truD_int (i : Int) : truD (.int i) = some (i != 0) := id rfl
@[simp] theorem truD_W (w : List Int) : truD (W w) = some (!w.isEmpty) := by cases w <;> rfl
@[simp] theorem truD_LI (w : List Int) : truD (LI w) = some (!w.isEmpty) := by cases w <;> rfl
@[simp] theorem add_int (a b : Int) : binD .add (.int a) (.int b) = some (.int (a + b)) := id rfl
@[simp] theorem sub_int (a b : Int) : binD .sub (.int a) (.int b) = some (.int (a - b)) := id rfl
theorem mul_int_l {a b : Int} (h : i64 a = true) : binD .mul (.int a) (.int b) = some (.int (a * b)) := by simp [binD, h]
theorem mul_int_r {a b : Int} (h : i64 b = true) : binD .mul (.int a) (.int b) = some (.int (a * b)) := by simp [binD, h]
theorem mod_int {a b : Int} (h : 0 < b) : binD .mod (.int a) (.int b) = some (.int (a % b)) := by simp [binD, h]
theorem fdiv_int {a b : Int} (h : 0 < b) (h2 : b < 1073741824) : binD .fdiv (.int a) (.int b) = some (.int (a / b)) := by simp [binD, h, h2]
theorem i64_of {a : Int} (h : -18446744073709551616 < a) (h2 : a < 18446744073709551616) : i64 a = true := by
  unfold i64
  simp only [Bool.and_eq_true, decide_eq_true_eq]
  omega
theorem i62_of {a : Int} (h : -4611686018427387904 ≤ a) (h2 : a < 4611686018427387904) : i62 a = true := by
  unfold i62
  simp only [Bool.and_eq_true, decide_eq_true_eq]
  omega
theorem line_of {n : Nat} (h : n ≤ 16777216) : line n = true := by
  unfold line
  exact decide_eq_true h
@[simp] theorem lt_int (a b : Int) : cmpD .lt (.int a) (.int b) = some (decide (a < b)) := id rfl
@[simp] theorem le_int (a b : Int) : cmpD .le (.int a) (.int b) = some (decide (a ≤ b)) := id rfl
@[simp] theorem gt_int (a b : Int) : cmpD .gt (.int a) (.int b) = some (decide (b < a)) := id rfl
@[simp] theorem ge_int (a b : Int) : cmpD .ge (.int a) (.int b) = some (decide (b ≤ a)) := id rfl
@[simp] theorem is_non (a : D) : cmpD .is a .non = some (isNone a) := by cases a <;> rfl
@[simp] theorem isnot_non (a : D) : cmpD .isnot a .non = some (!isNone a) := by cases a <;> rfl
@[simp] theorem isNone_non : isNone .non = true := id rfl
@[simp] theorem isNone_int (i : Int) : isNone (.int i) = false := id rfl
@[simp] theorem isNone_tup (i : List D) : isNone (.tup i) = false := id rfl
@[simp] theorem isNone_W (i : List Int) : isNone (W i) = false := id rfl
@[simp] theorem isNone_L (i : Lw) : isNone (L i) = false := id rfl
@[simp] theorem eqC (a b : D) (ha : a.pl = true) (hb : b.pl = true) : cmpD .eq a b = some (D.eq a b) := by
  have h : (a.pl && b.pl) = true := by rw [ha, hb]; rfl
  simp only [cmpD, h, if_true]
@[simp] theorem neC (a b : D) (ha : a.pl = true) (hb : b.pl = true) : cmpD .ne a b = some (!D.eq a b) := by
  have h : (a.pl && b.pl) = true := by rw [ha, hb]; rfl
  simp only [cmpD, h, if_true]
theorem in_of {a b : D} {xs : List D} (hl : litems b = some xs) (ha : a.pl = true) (hb : xs.all (D.plN 39) = true) : cmpD .inn a b = some (inD a xs) := by
  have h : (a.pl && xs.all (D.plN 39)) = true := by rw [ha, hb]; rfl
  cases b with
  | tup ys => cases hl; simp only [cmpD, litems, h, if_true]
  | lst ys => cases hl; simp only [cmpD, litems, h, if_true]
  | _ => cases hl
theorem notin_of {a b : D} {xs : List D} (hl : litems b = some xs) (ha : a.pl = true) (hb : xs.all (D.plN 39) = true) : cmpD .notin a b = some (!inD a xs) := by
  have h : (a.pl && xs.all (D.plN 39)) = true := by rw [ha, hb]; rfl
  cases b with
  | tup ys => cases hl; simp only [cmpD, litems, h, if_true]
  | lst ys => cases hl; simp only [cmpD, litems, h, if_true]
  | _ => cases hl
@[simp] theorem in_W (a : Int) (w : List Int) : cmpD .inn (.int a) (W w) = some (decide (a ∈ w)) := by
  rw [in_of (litems_W w) rfl (by simp), inD_map _ eq_int]
@[simp] theorem in_LI (a : Int) (w : List Int) : cmpD .inn (.int a) (LI w) = some (decide (a ∈ w)) := by
  rw [in_of (litems_LI w) rfl (by simp), inD_map _ eq_int]
@[simp] theorem notin_W (a : Int) (w : List Int) : cmpD .notin (.int a) (W w) = some (!decide (a ∈ w)) := by
  rw [notin_of (litems_W w) rfl (by simp), inD_map _ eq_int]
@[simp] theorem notin_LI (a : Int) (w : List Int) : cmpD .notin (.int a) (LI w) = some (!decide (a ∈ w)) := by
  rw [notin_of (litems_LI w) rfl (by simp), inD_map _ eq_int]
@[simp] theorem in_TW (a : List Int) (w : List (List Int)) : cmpD .inn (W a) (TW w) = some (decide (a ∈ w)) := by
  rw [in_of (litems_TW w) (by simp) (by simp), inD_map _ eq_W]; congr
@[simp] theorem in_LW (a : List Int) (w : List (List Int)) : cmpD .inn (W a) (LW w) = some (decide (a ∈ w)) := by
  rw [in_of (litems_LW w) (by simp) (by simp), inD_map _ eq_W]; congr
@[simp] theorem notin_TW (a : List Int) (w : List (List Int)) : cmpD .notin (W a) (TW w) = some (!decide (a ∈ w)) := by
  rw [notin_of (litems_TW w) (by simp) (by simp), inD_map _ eq_W]; congr
@[simp] theorem notin_LW (a : List Int) (w : List (List Int)) : cmpD .notin (W a) (LW w) = some (!decide (a ∈ w)) := by
  rw [notin_of (litems_LW w) (by simp) (by simp), inD_map _ eq_W]; congr
theorem add_W {a b : List Int} (h : a.length + b.length ≤ 16777216) : binD .add (W a) (W b) = some (W (a ++ b)) := by simp [binD, W, line_of h]
theorem add_LI {a b : List Int} (h : a.length + b.length ≤ 16777216) : binD .add (LI a) (LI b) = some (LI (a ++ b)) := by simp [binD, LI, line_of h]
theorem add_TW {a b : List (List Int)} (h : a.length + b.length ≤ 16777216) : binD .add (TW a) (TW b) = some (TW (a ++ b)) := by simp [binD, TW, line_of h]
theorem add_LW {a b : List (List Int)} (h : a.length + b.length ≤ 16777216) : binD .add (LW a) (LW b) = some (LW (a ++ b)) := by simp [binD, LW, line_of h]
theorem add_B {a b : List Lw} (h : a.length + b.length ≤ 16777216) : binD .add (B a) (B b) = some (B (a ++ b)) := by simp [binD, B, line_of h]
theorem add_W1 {a : List Int} {x : Int} (h : a.length + 1 ≤ 16777216) : binD .add (W a) (.tup [.int x]) = some (W (a ++ [x])) := add_W (b := [x]) h
/-! items -/
def ixI (n : Nat) (i : Int) : Nat := if 0 ≤ i then i.toNat else (i + n).toNat
theorem atD_of {xs : List D} {i : Int} (h : -(xs.length : Int) ≤ i) (h2 : i < xs.length) : atD xs i = xs[ixI xs.length i]? := by
  unfold atD L2.atI L2.ixN ixI
  by_cases h3 : 0 ≤ i
  · simp [h3, h2]
  · simp [h3, h]
def gI (w : List Int) (i : Int) : Int := w.getD (ixI w.length i) 0
@[simp] theorem idx_W {w : List Int} {i : Int} (h : -(w.length : Int) ≤ i) (h2 : i < w.length) : idxD (W w) (.int i) = some (.int (gI w i)) := by
  have e : ixI w.length i < w.length := by unfold ixI; split <;> omega
  show atD (w.map .int) i = _
  rw [atD_of (by simpa using h) (by simpa using h2)]
  simp [gI, e]
@[simp] theorem idx_LI {w : List Int} {i : Int} (h : -(w.length : Int) ≤ i) (h2 : i < w.length) : idxD (LI w) (.int i) = some (.int (gI w i)) := idx_W (w := w) h h2
def gi (w : List Int) (p : Nat) : Int := w.getD p 0
def gw (w : List (List Int)) (p : Nat) : List Int := w.getD p []
def gl (w : List Lw) (p : Nat) : Lw := w.getD p ⟨[], 0, [], []⟩
theorem idx_Wn {w : List Int} {p : Nat} (h : p < w.length) : idxD (W w) (.int (p : Int)) = some (.int (gi w p)) := by
  rw [idx_W (by omega) (by omega)]; simp [gI, ixI, gi]
theorem idx_LIn {w : List Int} {p : Nat} (h : p < w.length) : idxD (LI w) (.int (p : Int)) = some (.int (gi w p)) := idx_Wn h
theorem idx_xn {xs : List D} {p : Nat} (h : p < xs.length) : idxD (.tup xs) (.int (p : Int)) = some (xs.getD p .non) := by
  show atD _ _ = _
  rw [atD_of (by omega) (by omega)]; simp [ixI, h]
theorem idx_LWn {w : List (List Int)} {p : Nat} (h : p < w.length) : idxD (LW w) (.int (p : Int)) = some (W (gw w p)) := by
  show atD (w.map W) _ = _
  rw [atD_of (by simp; try omega) (by simp; try omega)]; simp [ixI, h, gw]
theorem idx_TWn {w : List (List Int)} {p : Nat} (h : p < w.length) : idxD (TW w) (.int (p : Int)) = some (W (gw w p)) := idx_LWn h
theorem idx_Bn {w : List Lw} {p : Nat} (h : p < w.length) : idxD (B w) (.int (p : Int)) = some (L (gl w p)) := by
  show atD (w.map L) _ = _
  rw [atD_of (by simp; try omega) (by simp; try omega)]; simp [ixI, h, gl]
@[simp] theorem idx_L0 (c : Lw) : idxD (L c) (.int 0) = some (W c.fr) := id rfl
@[simp] theorem idx_L1 (c : Lw) : idxD (L c) (.int 1) = some (.int c.to) := id rfl
@[simp] theorem idx_L2 (c : Lw) : idxD (L c) (.int 2) = some (W c.ah) := id rfl
@[simp] theorem idx_L3 (c : Lw) : idxD (L c) (.int 3) = some (W c.be) := id rfl
@[simp] theorem idx_t0 (a : D) (r : List D) : idxD (.tup (a :: r)) (.int 0) = some a := by
  show atD _ _ = _
  simp [idxD, atD, L2.atI, L2.ixN]; try (rw [if_pos (by omega)]; rfl)
@[simp] theorem idx_t1 (a b : D) (r : List D) : idxD (.tup (a :: b :: r)) (.int 1) = some b := by
  show atD _ _ = _
  simp [idxD, atD, L2.atI, L2.ixN]; try (rw [if_pos (by omega)]; rfl)
@[simp] theorem idx_t2 (a b c : D) (r : List D) : idxD (.tup (a :: b :: c :: r)) (.int 2) = some c := by
  show atD _ _ = _
  simp [idxD, atD, L2.atI, L2.ixN]; try (rw [if_pos (by omega)]; rfl)
@[simp] theorem idx_t3 (a b c d : D) (r : List D) : idxD (.tup (a :: b :: c :: d :: r)) (.int 3) = some d := by
  show atD _ _ = _
  simp [idxD, atD, L2.atI, L2.ixN]; try (rw [if_pos (by omega)]; rfl)
@[simp] theorem idx_l0 (a : D) (r : List D) : idxD (.lst (a :: r)) (.int 0) = some a := idx_t0 a r
@[simp] theorem idx_l1 (a b : D) (r : List D) : idxD (.lst (a :: b :: r)) (.int 1) = some b := idx_t1 a b r
@[simp] theorem idx_l2 (a b c : D) (r : List D) : idxD (.lst (a :: b :: c :: r)) (.int 2) = some c := idx_t2 a b c r
@[simp] theorem idx_l3 (a b c d : D) (r : List D) : idxD (.lst (a :: b :: c :: d :: r)) (.int 3) = some d := idx_t3 a b c d r
/-! built-ins -/
@[simp] theorem len_W (w : List Int) : biD .len [W w] = some (.int w.length) := by simp [biD, bLen, W]
@[simp] theorem len_LI (w : List Int) : biD .len [LI w] = some (.int w.length) := by simp [biD, bLen, LI]
@[simp] theorem len_TW (w : List (List Int)) : biD .len [TW w] = some (.int w.length) := by simp [biD, bLen, TW]
@[simp] theorem len_LW (w : List (List Int)) : biD .len [LW w] = some (.int w.length) := by simp [biD, bLen, LW]
@[simp] theorem len_L (w : Lw) : biD .len [L w] = some (.int 4) := by simp [biD, bLen, L]
@[simp] theorem len_B (w : List Lw) : biD .len [B w] = some (.int w.length) := by simp [biD, bLen, B]
@[simp] theorem len_LB (w : List Lw) : biD .len [LB w] = some (.int w.length) := by simp [biD, bLen, LB]
@[simp] theorem len_tup (w : List D) : biD .len [.tup w] = some (.int w.length) := by simp [biD, bLen]
@[simp] theorem len_lst (w : List D) : biD .len [.lst w] = some (.int w.length) := by simp [biD, bLen]
@[simp] theorem tuple_lst (w : List D) : biD .tuple [.lst w] = some (.tup w) := id rfl
@[simp] theorem tuple_LI (w : List Int) : biD .tuple [LI w] = some (W w) := id rfl
@[simp] theorem tuple_LW (w : List (List Int)) : biD .tuple [LW w] = some (TW w) := id rfl
@[simp] theorem tuple_LB (w : List Lw) : biD .tuple [LB w] = some (B w) := id rfl
@[simp] theorem int_int (i : Int) : biD .int [.int i] = some (.int i) := id rfl
@[simp] theorem abs_int (i : Int) : biD .abs [.int i] = some (.int (if i < 0 then -i else i)) := id rfl
@[simp] theorem max2_int (a b : Int) : biD .max2 [.int a, .int b] = some (.int (if b > a then b else a)) := id rfl
@[simp] theorem min2_int (a b : Int) : biD .min2 [.int a, .int b] = some (.int (if b < a then b else a)) := id rfl
theorem divmod_int {a b : Int} (h : 0 < b) (h2 : b < 1073741824) : biD .divmod [.int a, .int b] = some (.tup [.int (a / b), .int (a % b)]) := by simp [biD, bDivmod, h, h2]
theorem allBls_map {α : Type} (f : α → Bool) : ∀ xs : List α, allBls (xs.map fun x => .bl (f x)) = some (xs.map f)
  | [] => rfl
  | x :: xs => by simp [allBls, allBls_map f xs]
@[simp] theorem all_map_bl {α : Type} (f : α → Bool) (xs : List α) : biD .all [.lst (xs.map fun x => .bl (f x))] = some (.bl (xs.all f)) := by
  simp [biD, bAll, allBls_map, List.all_map]
@[simp] theorem any_map_bl {α : Type} (f : α → Bool) (xs : List α) : biD .any [.lst (xs.map fun x => .bl (f x))] = some (.bl (xs.any f)) := by
  simp [biD, bAny, allBls_map, List.any_map]
/-! kinds -/
@[simp] theorem isa_int_int (i : Int) : isaD (.int i) .int = some true := id rfl
@[simp] theorem isa_int_bool (i : Int) : isaD (.int i) .bool = some false := id rfl
@[simp] theorem isa_tup {x : List D} (h : D.plN 40 (.tup x) = true) : isaD (.tup x) .tuple = some true := by simp only [isaD, D.pl, h, if_true]
@[simp] theorem isa_W (x : List Int) : isaD (W x) .tuple = some true := isa_tup (by simp)
@[simp] theorem isa_TW (x : List (List Int)) : isaD (TW x) .tuple = some true := isa_tup (by simp)
@[simp] theorem isa_L (x : Lw) : isaD (L x) .tuple = some true := isa_tup (by simp)
@[simp] theorem isa_B (x : List Lw) : isaD (B x) .tuple = some true := isa_tup (by simp)
/-! slices -/
theorem cutL_from {α : Type} (xs : List α) (i : Int) (h : 0 ≤ i) : cutL xs (some i) none = xs.drop i.toNat := by
  unfold cutL HT.sIx
  simp only [if_neg (Int.not_lt.mpr h)]
  by_cases h2 : i.toNat ≤ xs.length
  · rw [Nat.min_eq_left h2]; exact List.take_of_length_le (by simp)
  · rw [Nat.min_eq_right (by omega)]; simp; omega
theorem cutL_to {α : Type} (xs : List α) (i : Int) (h : 0 ≤ i) : cutL xs none (some i) = xs.take i.toNat := by
  unfold cutL HT.sIx
  simp only [if_neg (Int.not_lt.mpr h), List.drop_zero, Nat.sub_zero]
  by_cases h2 : i.toNat ≤ xs.length
  · rw [Nat.min_eq_left h2]
  · rw [Nat.min_eq_right (by omega), List.take_of_length_le (Nat.le_refl _), List.take_of_length_le (by omega)]
theorem cutL_mid {α : Type} (xs : List α) (i j : Int) (h : 0 ≤ i) (h2 : 0 ≤ j) : cutL xs (some i) (some j) = (xs.drop i.toNat).take (j.toNat - i.toNat) := by
  unfold cutL HT.sIx
  simp only [if_neg (Int.not_lt.mpr h), if_neg (Int.not_lt.mpr h2)]
  by_cases h3 : i.toNat ≤ xs.length
  · rw [Nat.min_eq_left h3]
    by_cases h4 : j.toNat ≤ xs.length
    · rw [Nat.min_eq_left h4]
    · rw [Nat.min_eq_right (by omega), List.take_of_length_le (by simp), List.take_of_length_le (by simp; omega)]
  · have e2 : xs.drop i.toNat = [] := by simp; omega
    have e1 : xs.drop (min i.toNat xs.length) = [] := by simp; omega
    simp [e1, e2]
theorem cutL_map {α β : Type} (f : α → β) (xs : List α) (lo hi : Option Int) : cutL (xs.map f) lo hi = (cutL xs lo hi).map f := by
  unfold cutL; simp [List.map_take, List.map_drop]
@[simp] theorem sl_W (w : List Int) (lo hi : Option Int) : slD (W w) lo hi = some (W (cutL w lo hi)) := by simp [slD, W, cutL_map]
@[simp] theorem sl_LI (w : List Int) (lo hi : Option Int) : slD (LI w) lo hi = some (LI (cutL w lo hi)) := by simp [slD, LI, cutL_map]
@[simp] theorem sl_TW (w : List (List Int)) (lo hi : Option Int) : slD (TW w) lo hi = some (TW (cutL w lo hi)) := by simp [slD, TW, cutL_map]
@[simp] theorem sl_LW (w : List (List Int)) (lo hi : Option Int) : slD (LW w) lo hi = some (LW (cutL w lo hi)) := by simp [slD, LW, cutL_map]
@[simp] theorem sl_B (w : List Lw) (lo hi : Option Int) : slD (B w) lo hi = some (B (cutL w lo hi)) := by simp [slD, B, cutL_map]

theorem enumT_eq : ∀ (n : Nat) (xs : List D), enumT n xs = (xs.zipIdx n).map fun p => .tup [.int p.2, p.1]
  | _, [] => id rfl
  | n, x :: xs => by simp only [enumT, List.zipIdx_cons, List.map_cons, enumT_eq (n + 1) xs]
theorem zipT_eq : ∀ (xs ys : List D), zipT xs ys = (xs.zip ys).map fun p => .tup [p.1, p.2]
  | [], _ => by simp [zipT]
  | _ :: _, [] => by simp [zipT]
  | x :: xs, y :: ys => by simp only [zipT, List.zip_cons_cons, List.map_cons, zipT_eq xs ys]
/-! ### what a run leaves -/
/-- a mark that keeps what follows from being looked into -/
structure Tag {β : Type} (Q : β) : Type where
def Res.wp {α : Type} (r : Res α) (Q : α → Sto → Prop) (t : Tag Q := ⟨⟩) : Prop := ∃ a st, r = .ok a st ∧ Q a st
def Fl.wp (r : Fl) (N : Env → Sto → Prop) (R : D → Sto → Prop) (t : Tag (N, R) := ⟨⟩) : Prop := (∃ ρ st, r = .nx ρ st ∧ N ρ st) ∨ (∃ d st, r = .rt d st ∧ R d st)
@[simp] theorem Res.wp_ok {α : Type} (a : α) (st : Sto) (Q : α → Sto → Prop) : (Res.ok a st).wp Q = Q a st :=
  propext ⟨fun ⟨_, _, e, h⟩ => by cases e; exact h, fun h => ⟨a, st, rfl, h⟩⟩
@[simp] theorem Res.wp_ex {α : Type} (x : Exn) (st : Sto) (Q : α → Sto → Prop) : (Res.ex x st : Res α).wp Q = False :=
  propext ⟨fun ⟨_, _, e, _⟩ => (by cases e), False.elim⟩
@[simp] theorem Res.wp_no {α : Type} (Q : α → Sto → Prop) : (Res.no : Res α).wp Q = False :=
  propext ⟨fun ⟨_, _, e, _⟩ => (by cases e), False.elim⟩
@[simp] theorem Fl.wp_nx (ρ : Env) (st : Sto) (N : Env → Sto → Prop) (R : D → Sto → Prop) : (Fl.nx ρ st).wp N R = N ρ st :=
  propext ⟨fun h => h.elim (fun ⟨_, _, e, h⟩ => by cases e; exact h) (fun ⟨_, _, e, h⟩ => by cases e), fun h => .inl ⟨ρ, st, rfl, h⟩⟩
@[simp] theorem Fl.wp_rt (d : D) (st : Sto) (N : Env → Sto → Prop) (R : D → Sto → Prop) : (Fl.rt d st).wp N R = R d st :=
  propext ⟨fun h => h.elim (fun ⟨_, _, e, h⟩ => by cases e) (fun ⟨_, _, e, h⟩ => by cases e; exact h), fun h => .inr ⟨d, st, rfl, h⟩⟩
@[simp] theorem Fl.wp_ex (x : Exn) (ρ : Env) (st : Sto) (N : Env → Sto → Prop) (R : D → Sto → Prop) : (Fl.ex x ρ st).wp N R = False :=
  propext ⟨fun h => h.elim (fun ⟨_, _, e, _⟩ => (by cases e)) (fun ⟨_, _, e, _⟩ => (by cases e)), False.elim⟩
@[simp] theorem Fl.wp_no (N : Env → Sto → Prop) (R : D → Sto → Prop) : Fl.no.wp N R = False :=
  propext ⟨fun h => h.elim (fun ⟨_, _, e, _⟩ => (by cases e)) (fun ⟨_, _, e, _⟩ => (by cases e)), False.elim⟩
@[simp] theorem Res.wp_bind {α β : Type} (r : Res α) (k : α → Sto → Res β) (Q : β → Sto → Prop) : (r.bind k).wp Q = r.wp fun a st => (k a st).wp Q := by cases r <;> simp
@[simp] theorem Fl.wp_fl {α : Type} (r : Res α) (ρ : Env) (k : α → Sto → Fl) (N : Env → Sto → Prop) (R : D → Sto → Prop) : (r.fl ρ k).wp N R = r.wp fun a st => (k a st).wp N R := by cases r <;> simp
@[simp] theorem Fl.wp_then (r : Fl) (k : Env → Sto → Fl) (N : Env → Sto → Prop) (R : D → Sto → Prop) : (r.then k).wp N R = r.wp (fun ρ st => (k ρ st).wp N R) R := by cases r <;> simp [Fl.then]
/-! a choice, a binding: seen through only once they are decided -/
def Res.cond {α : Type} (b : Bool) (x y : Res α) (t : Tag (x, y) := ⟨⟩) : Res α := if b = true then x else y
def Fl.cond (b : Bool) (x y : Fl) (t : Tag (x, y) := ⟨⟩) : Fl := if b = true then x else y
@[simp] theorem Res.cond_t {α : Type} (x y : Res α) : Res.cond true x y = x := id rfl
@[simp] theorem Res.cond_f {α : Type} (x y : Res α) : Res.cond false x y = y := id rfl
@[simp] theorem Fl.cond_t (x y : Fl) : Fl.cond true x y = x := id rfl
@[simp] theorem Fl.cond_f (x y : Fl) : Fl.cond false x y = y := id rfl
theorem Res.wp_cond {α : Type} (b : Bool) (x y : Res α) (Q : α → Sto → Prop) : (Res.cond b x y).wp Q ↔ (b = true → x.wp Q) ∧ (b = false → y.wp Q) := by cases b <;> simp
theorem Fl.wp_cond (b : Bool) (x y : Fl) (N : Env → Sto → Prop) (R : D → Sto → Prop) : (Fl.cond b x y).wp N R ↔ (b = true → x.wp N R) ∧ (b = false → y.wp N R) := by cases b <;> simp
def bndR {α : Type} (o : Option Env) (k : Env → Res α) (t : Tag k := ⟨⟩) : Res α := match o with
  | some ρ => k ρ
  | none => .no
def bndF (o : Option Env) (k : Env → Fl) (t : Tag k := ⟨⟩) : Fl := match o with
  | some ρ => k ρ
  | none => .no
@[simp] theorem bndR_some {α : Type} (ρ : Env) (k : Env → Res α) : bndR (some ρ) k = k ρ := id rfl
@[simp] theorem bndF_some (ρ : Env) (k : Env → Fl) : bndF (some ρ) k = k ρ := id rfl
/-! values asked for -/
def getI : D → Option Int
  | .int i => some i
  | _ => none
@[simp] theorem getI_int (i : Int) : getI (.int i) = some i := id rfl
def lkV (st : Sto) (n : Nat) : Option D := match st[n]? with
  | some (.var (some d)) => some d
  | _ => none
def mkLs (m : Bool) (xs : List D) (st : Sto) : Res D := Res.cond (line xs.length) (Res.cond m (.ok (.ref st.length) (st ++ [.lst xs])) (.ok (.lst xs) st)) .no
def seqs : D → Option (List D)
  | .tup xs => some xs
  | .lst xs => some xs
  | _ => none
def tupd : D → Option (List D)
  | .tup xs => some xs
  | _ => none
def zipD : D → D → Option (List D)
  | .tup xs, .tup ys => some (zipT xs ys)
  | .lst xs, .lst ys => some (zipT xs ys)
  | _, _ => none
@[simp] theorem seqs_tup (x : List D) : seqs (.tup x) = some x := id rfl
@[simp] theorem seqs_lst (x : List D) : seqs (.lst x) = some x := id rfl
@[simp] theorem seqs_W (x : List Int) : seqs (W x) = some (x.map .int) := id rfl
@[simp] theorem seqs_LI (x : List Int) : seqs (LI x) = some (x.map .int) := id rfl
@[simp] theorem seqs_TW (x : List (List Int)) : seqs (TW x) = some (x.map W) := id rfl
@[simp] theorem seqs_LW (x : List (List Int)) : seqs (LW x) = some (x.map W) := id rfl
@[simp] theorem seqs_B (x : List Lw) : seqs (B x) = some (x.map L) := id rfl
@[simp] theorem tupd_tup (x : List D) : tupd (.tup x) = some x := id rfl
@[simp] theorem tupd_W (x : List Int) : tupd (W x) = some (x.map .int) := id rfl
@[simp] theorem tupd_TW (x : List (List Int)) : tupd (TW x) = some (x.map W) := id rfl
@[simp] theorem tupd_L (c : Lw) : tupd (L c) = some [W c.fr, .int c.to, W c.ah, W c.be] := id rfl
@[simp] theorem zipD_tup (x y : List D) : zipD (.tup x) (.tup y) = some (zipT x y) := id rfl
@[simp] theorem zipD_lst (x y : List D) : zipD (.lst x) (.lst y) = some (zipT x y) := id rfl
@[simp] theorem zipD_W (x y : List Int) : zipD (W x) (W y) = some ((x.zip y).map fun p => .tup [.int p.1, .int p.2]) := by
  simp only [W, zipD_tup, zipT_eq, List.zip_map, List.map_map, Function.comp_def, Prod.map]
/-- a closure called -/
def cloR (C : Cs) (g : D) (xs : List D) (st : Sto) : Res D := match g with
  | .clo l cs => C.clo l cs xs st
  | _ => .no
@[simp] theorem cloR_clo (C : Cs) (l : Nat) (cs : List Nat) (xs : List D) (st : Sto) : cloR C (.clo l cs) xs st = C.clo l cs xs st := id rfl
/-! ### walks -/
def loopM {α β : Type} (f : α → Sto → Res (List β)) : List α → Sto → Res (List β)
  | [], st => .ok [] st
  | x :: xs, st => (f x st).bind fun a st => (loopM f xs st).bind fun b st => .ok (a ++ b) st
def forM {α : Type} (f : α → Env → Sto → Fl) : List α → Env → Sto → Fl
  | [], ρ, st => .nx ρ st
  | x :: xs, ρ, st => (f x ρ st).then fun ρ st => forM f xs ρ st
@[simp] theorem loopM_nil {α β : Type} (f : α → Sto → Res (List β)) (st : Sto) : loopM f [] st = .ok [] st := id rfl
@[simp] theorem loopM_cons {α β : Type} (f : α → Sto → Res (List β)) (x : α) (xs : List α) (st : Sto) : loopM f (x :: xs) st = (f x st).bind fun a st => (loopM f xs st).bind fun b st => .ok (a ++ b) st := id rfl
@[simp] theorem forM_nil {α : Type} (f : α → Env → Sto → Fl) (ρ : Env) (st : Sto) : forM f [] ρ st = .nx ρ st := id rfl
@[simp] theorem forM_cons {α : Type} (f : α → Env → Sto → Fl) (x : α) (xs : List α) (ρ : Env) (st : Sto) : forM f (x :: xs) ρ st = (f x ρ st).then fun ρ st => forM f xs ρ st := id rfl
@[simp] theorem walkL_fix (f : D → Sto → Res (List D)) (xs : List D) (st : Sto) : walkL f (.fix xs) st = loopM f xs st := by
  show loopL f xs st = loopM f xs st
  induction xs generalizing st with
  | nil => rfl
  | cons x xs ih => simp only [loopL, loopM, ih]
@[simp] theorem loopM_map {α : Type} (f : D → Sto → Res (List D)) (g : α → D) (xs : List α) (st : Sto) : loopM f (xs.map g) st = loopM (fun x => f (g x)) xs st := by
  induction xs generalizing st with
  | nil => rfl
  | cons x xs ih => simp only [List.map_cons, loopM, ih]
@[simp] theorem forS_fix (f : D → Env → Sto → Fl) (xs : List D) (ρ : Env) (st : Sto) : forS f (.fix xs) ρ st = forM f xs ρ st := by
  show forL f xs ρ st = forM f xs ρ st
  induction xs generalizing ρ st with
  | nil => rfl
  | cons x xs ih => simp only [forL, forM, ih]
@[simp] theorem forM_map {α : Type} (f : D → Env → Sto → Fl) (g : α → D) (xs : List α) (ρ : Env) (st : Sto) : forM f (xs.map g) ρ st = forM (fun x => f (g x)) xs ρ st := by
  induction xs generalizing ρ st with
  | nil => rfl
  | cons x xs ih => simp only [List.map_cons, forM, ih]
/-! ### each form of expression, of statement: where the frame's names are known -/
section
variable {C : Cs} {sl : List (Option D)} {bx : List Nat} {bs : Nat} {st : Sto}
def jn : Option (Option D) → Option D
  | some o => o
  | none => none
@[simp] theorem jn_some (o : Option D) : jn (some o) = o := id rfl
@[simp] theorem ss_nil : evSs C .nil ⟨sl, bx, bs⟩ st = .nx ⟨sl, bx, bs⟩ st := by simp only [evSs]
@[simp] theorem ss_cons (s : S) (r : Ss) : evSs C (.cons s r) ⟨sl, bx, bs⟩ st = (evS C s ⟨sl, bx, bs⟩ st).then fun ρ st => evSs C r ρ st := by simp only [evSs]
@[simp] theorem s_asg (t : T) (e : E) : evS C (.asg t e) ⟨sl, bx, bs⟩ st = (evE C ⟨sl, bx, bs⟩ e st).fl ⟨sl, bx, bs⟩ fun d st => (asT C t d ⟨sl, bx, bs⟩ st).fl ⟨sl, bx, bs⟩ fun ρ st => .nx ρ st := by simp only [evS]
@[simp] theorem s_ex (e : E) : evS C (.ex e) ⟨sl, bx, bs⟩ st = (evE C ⟨sl, bx, bs⟩ e st).fl ⟨sl, bx, bs⟩ fun _ st => .nx ⟨sl, bx, bs⟩ st := by simp only [evS]
@[simp] theorem s_ret (e : E) : evS C (.ret e) ⟨sl, bx, bs⟩ st = (evE C ⟨sl, bx, bs⟩ e st).fl ⟨sl, bx, bs⟩ fun d st => .rt d st := by simp only [evS]
@[simp] theorem s_retN : evS C .retN ⟨sl, bx, bs⟩ st = .rt .non st := by simp only [evS]
@[simp] theorem s_pass : evS C .pass ⟨sl, bx, bs⟩ st = .nx ⟨sl, bx, bs⟩ st := by simp only [evS]
@[simp] theorem s_iff (c : E) (a b : Ss) : evS C (.iff c a b) ⟨sl, bx, bs⟩ st = (tru (evE C ⟨sl, bx, bs⟩ c st)).fl ⟨sl, bx, bs⟩ fun k st => Fl.cond k (evSs C a ⟨sl, bx, bs⟩ st) (evSs C b ⟨sl, bx, bs⟩ st) := by simp only [evS]; rfl
def forB (C : Cs) (p : Pt) (b : Ss) (d : D) (ρ : Env) (st : Sto) : Fl := bndF (bindP ρ p d) fun ρ => evSs C b ρ st
@[simp] theorem s_for (p : Pt) (it : It) (b : Ss) : evS C (.for_ p it b) ⟨sl, bx, bs⟩ st = (evI C ⟨sl, bx, bs⟩ it st).fl ⟨sl, bx, bs⟩ fun src st => forS (forB C p b) src ⟨sl, bx, bs⟩ st := by
  simp only [evS]; congr 1
@[simp] theorem forB_eq (p : Pt) (b : Ss) (d : D) : forB C p b d ⟨sl, bx, bs⟩ st = bndF (bindP ⟨sl, bx, bs⟩ p d) fun ρ => evSs C b ρ st := id rfl
@[simp] theorem s_whl (c : E) (b : Ss) : evS C (.whl c b) ⟨sl, bx, bs⟩ st = whlN (fun ρ st => tru (evE C ρ c st)) (evSs C b) C.fuel ⟨sl, bx, bs⟩ st := by simp only [evS]
@[simp] theorem bP_name (i : Nat) (d : D) : bindP ⟨sl, bx, bs⟩ (.name i) d = some ⟨sl.set i (some d), bx, bs⟩ := by simp only [bindP]
@[simp] theorem bP_tup (is : List Nat) (d : D) : bindP ⟨sl, bx, bs⟩ (.tup is) d = ((tupd d).bind fun xs => bindN sl is xs).map fun sl => ⟨sl, bx, bs⟩ := by
  cases d <;> simp [bindP, tupd]
@[simp] theorem bN_nil : bindN sl [] [] = some sl := by simp only [bindN]
@[simp] theorem bN_cons (i : Nat) (is : List Nat) (x : D) (xs : List D) : bindN sl (i :: is) (x :: xs) = bindN (sl.set i (some x)) is xs := by simp only [bindN]
@[simp] theorem t_name (i : Nat) (d : D) : asT C (.name i) d ⟨sl, bx, bs⟩ st = .ok ⟨sl.set i (some d), bx, bs⟩ st := by simp only [asT]
def stV (st : Sto) (n : Nat) (d : D) : Option Sto := match st[n]? with
  | some (.var _) => some (st.set n (.var (some d)))
  | _ => none
def okS {α : Type} (a : α) (o : Option Sto) : Res α := match o with
  | some st => .ok a st
  | none => .no
@[simp] theorem okS_some {α : Type} (a : α) (st : Sto) : okS a (some st) = .ok a st := id rfl
@[simp] theorem t_box (j : Nat) (d : D) : asT C (.box j) d ⟨sl, bx, bs⟩ st = okS ⟨sl, bx, bs⟩ (bx[j]?.bind fun n => stV st n d) := by
  simp only [asT]
  cases bx[j]? with
  | none => rfl
  | some n =>
    simp only [Option.bind_some, stV]
    cases st[n]? with
    | none => rfl
    | some c => cases c <;> rfl
@[simp] theorem t_sub (a i : E) (d : D) : asT C (.sub a i) d ⟨sl, bx, bs⟩ st = (evE C ⟨sl, bx, bs⟩ a st).bind fun x st => (evE C ⟨sl, bx, bs⟩ i st).bind fun y st => (setI bs x y d st).bind fun _ st => .ok ⟨sl, bx, bs⟩ st := by simp only [asT]
def asL (C : Cs) (ts : Ts) (o : Option (List D)) (ρ : Env) (st : Sto) : Res Env := match o with
  | some xs => asTs C ts xs ρ st
  | none => .no
@[simp] theorem t_tup (ts : Ts) (d : D) : asT C (.tup ts) d ⟨sl, bx, bs⟩ st = asL C ts (tupd d) ⟨sl, bx, bs⟩ st := by cases d <;> simp [asT, asL, tupd]
@[simp] theorem asL_nil : asL C .nil (some []) ⟨sl, bx, bs⟩ st = .ok ⟨sl, bx, bs⟩ st := by simp only [asL, asTs]
@[simp] theorem asL_cons (t : T) (r : Ts) (x : D) (xs : List D) : asL C (.cons t r) (some (x :: xs)) ⟨sl, bx, bs⟩ st = (asT C t x ⟨sl, bx, bs⟩ st).bind fun ρ st => asL C r (some xs) ρ st := by simp only [asL, asTs]
@[simp] theorem e_lit (d : D) : evE C ⟨sl, bx, bs⟩ (.lit d) st = .ok d st := by simp only [evE]
@[simp] theorem e_var (i : Nat) : evE C ⟨sl, bx, bs⟩ (.var i) st = .of (jn sl[i]?) st := by
  simp only [evE]
  cases sl[i]? with
  | none => rfl
  | some o => cases o <;> rfl
@[simp] theorem e_box (j : Nat) : evE C ⟨sl, bx, bs⟩ (.box j) st = .of (bx[j]?.bind fun n => lkV st n) st := by
  simp only [evE]
  cases bx[j]? with
  | none => rfl
  | some n =>
    simp only [Option.bind_some, lkV]
    cases st[n]? with
    | none => rfl
    | some c =>
      cases c with
      | lst _ => rfl
      | dct _ _ => rfl
      | var o => cases o <;> rfl
@[simp] theorem e_gl (x : Str) (d : D) : evE C ⟨sl, bx, bs⟩ (.gl x d) st = .ok d st := by simp only [evE]
@[simp] theorem e_tup (es : Es) : evE C ⟨sl, bx, bs⟩ (.tup es) st = (evEs C ⟨sl, bx, bs⟩ es st).bind fun xs st => Res.cond (line xs.length) (.ok (.tup xs) st) .no := by simp only [evE]; rfl
@[simp] theorem e_lst (m : Bool) (es : Es) : evE C ⟨sl, bx, bs⟩ (.lst m es) st = (evEs C ⟨sl, bx, bs⟩ es st).bind fun xs st => mkLs m xs st := by simp only [evE]; rfl
@[simp] theorem e_bin (o : BOp) (a b : E) : evE C ⟨sl, bx, bs⟩ (.bin o a b) st = (evE C ⟨sl, bx, bs⟩ a st).bind fun x st => (evE C ⟨sl, bx, bs⟩ b st).bind fun y st => .of (binD o (deref st x) (deref st y)) st := by simp only [evE]
@[simp] theorem e_neg (a : E) : evE C ⟨sl, bx, bs⟩ (.neg a) st = (evE C ⟨sl, bx, bs⟩ a st).bind fun x st => .of ((getI x).map fun i => .int (-i)) st := by
  simp only [evE]; congr 1; funext x s; cases x <;> rfl
@[simp] theorem e_cmp (o : COp) (a b : E) : evE C ⟨sl, bx, bs⟩ (.cmp o a b) st = (evE C ⟨sl, bx, bs⟩ a st).bind fun x st => (evE C ⟨sl, bx, bs⟩ b st).bind fun y st => .of ((cmpD o (deref st x) (deref st y)).map .bl) st := by simp only [evE]
@[simp] theorem e_cmp2 (o p : COp) (a b c : E) : evE C ⟨sl, bx, bs⟩ (.cmp2 o p a b c) st = (evE C ⟨sl, bx, bs⟩ a st).bind fun x st => (evE C ⟨sl, bx, bs⟩ b st).bind fun y st => (Res.of (cmpD o (deref st x) (deref st y)) st).bind fun k st =>
    Res.cond k ((evE C ⟨sl, bx, bs⟩ c st).bind fun z st => .of ((cmpD p (deref st y) (deref st z)).map .bl) st) (.ok (.bl false) st) := by simp only [evE]; rfl
@[simp] theorem e_not (a : E) : evE C ⟨sl, bx, bs⟩ (.not a) st = (tru (evE C ⟨sl, bx, bs⟩ a st)).bind fun k st => .ok (.bl (!k)) st := by simp only [evE]
@[simp] theorem e_and (a b : E) : evE C ⟨sl, bx, bs⟩ (.and a b) st = (evE C ⟨sl, bx, bs⟩ a st).bind fun x st => (Res.of (truD (deref st x)) st).bind fun k st => Res.cond k (evE C ⟨sl, bx, bs⟩ b st) (.ok x st) := by simp only [evE]; rfl
@[simp] theorem e_or (a b : E) : evE C ⟨sl, bx, bs⟩ (.or a b) st = (evE C ⟨sl, bx, bs⟩ a st).bind fun x st => (Res.of (truD (deref st x)) st).bind fun k st => Res.cond k (.ok x st) (evE C ⟨sl, bx, bs⟩ b st) := by simp only [evE]; rfl
@[simp] theorem e_ite (c a b : E) : evE C ⟨sl, bx, bs⟩ (.ite c a b) st = (tru (evE C ⟨sl, bx, bs⟩ c st)).bind fun k st => Res.cond k (evE C ⟨sl, bx, bs⟩ a st) (evE C ⟨sl, bx, bs⟩ b st) := by simp only [evE]; rfl
@[simp] theorem e_idx (a i : E) : evE C ⟨sl, bx, bs⟩ (.idx a i) st = (evE C ⟨sl, bx, bs⟩ a st).bind fun x st => (evE C ⟨sl, bx, bs⟩ i st).bind fun y st => .of (idxD (deref st x) y) st := by simp only [evE]
@[simp] theorem e_sl (a : E) (lo hi : Oe) : evE C ⟨sl, bx, bs⟩ (.sl a lo hi) st = (evE C ⟨sl, bx, bs⟩ a st).bind fun x st => (evO C ⟨sl, bx, bs⟩ lo st).bind fun l st => (evO C ⟨sl, bx, bs⟩ hi st).bind fun h st => .of (slD (deref st x) l h) st := by simp only [evE]
@[simp] theorem e_rev (a : E) : evE C ⟨sl, bx, bs⟩ (.rev a) st = (evE C ⟨sl, bx, bs⟩ a st).bind fun x st => .of (revD (deref st x)) st := by simp only [evE]
@[simp] theorem e_call (f : Nat) (es ks : Es) (perm : Option (List Nat)) : evE C ⟨sl, bx, bs⟩ (.call f es ks perm) st = (evEs C ⟨sl, bx, bs⟩ es st).bind fun xs st => (evEs C ⟨sl, bx, bs⟩ ks st).bind fun zs st => (Res.of (permD perm (xs ++ zs)) st).bind fun ys st => C.fn f ys st := by simp only [evE]
@[simp] theorem e_vcall (f : E) (es : Es) : evE C ⟨sl, bx, bs⟩ (.vcall f es) st = (evE C ⟨sl, bx, bs⟩ f st).bind fun g st => (evEs C ⟨sl, bx, bs⟩ es st).bind fun xs st => cloR C g xs st := by
  simp only [evE]; first | done | rfl
@[simp] theorem e_bi (b : Bi) (es : Es) : evE C ⟨sl, bx, bs⟩ (.bi b es) st = (evEs C ⟨sl, bx, bs⟩ es st).bind fun xs st => .of (biD b (xs.map (deref st))) st := by simp only [evE]
def lstO (o : Option D) (st : Sto) : Res D := match o with
  | some (.lst ys) => mkLs true ys st
  | _ => .no
@[simp] theorem lstO_some (ys : List D) : lstO (some (.lst ys)) st = mkLs true ys st := id rfl
@[simp] theorem lstO_LI (ys : List Int) : lstO (some (LI ys)) st = mkLs true (ys.map .int) st := id rfl
@[simp] theorem e_lstm (es : Es) : evE C ⟨sl, bx, bs⟩ (.lstm es) st = (evEs C ⟨sl, bx, bs⟩ es st).bind fun xs st => lstO (bList (xs.map (deref st))) st := by
  simp only [evE]; congr 1
@[simp] theorem e_isa (a : E) (t : Ty) : evE C ⟨sl, bx, bs⟩ (.isa a t) st = (evE C ⟨sl, bx, bs⟩ a st).bind fun x st => .of ((isaD (deref st x) t).map .bl) st := by simp only [evE]
@[simp] theorem e_app (r a : E) : evE C ⟨sl, bx, bs⟩ (.app r a) st = (evE C ⟨sl, bx, bs⟩ r st).bind fun x st => Res.cond (isL st x) ((evE C ⟨sl, bx, bs⟩ a st).bind fun y st => appD bs x y st) .no := by simp only [evE]; rfl
@[simp] theorem e_ext (r a : E) : evE C ⟨sl, bx, bs⟩ (.ext r a) st = (evE C ⟨sl, bx, bs⟩ r st).bind fun x st => Res.cond (isL st x) ((evE C ⟨sl, bx, bs⟩ a st).bind fun y st => extD bs x y st) .no := by simp only [evE]; rfl
@[simp] theorem e_lam (l : Nat) (js : List Nat) : evE C ⟨sl, bx, bs⟩ (.lam l js) st = .of ((js.mapM fun j => bx[j]?).map fun cs => .clo l cs) st := by simp only [evE]
def compB (C : Cs) (own : List Nat) (p : Pt) (c : Es) (r : Gs) (ρ : Env) (d : D) (st : Sto) : Res (List D) := bndR (bindP (ρ.fgt own) p d) fun ρ' => (evC C ρ' c st).bind fun k st => Res.cond k (evG C ρ' r st) (.ok [] st)
@[simp] theorem compB_eq (own : List Nat) (p : Pt) (c : Es) (r : Gs) (d : D) : compB C own p c r ⟨sl, bx, bs⟩ d st = bndR (bindP ⟨fgt sl own, bx, bs⟩ p d) fun ρ' => (evC C ρ' c st).bind fun k st => Res.cond k (evG C ρ' r st) (.ok [] st) := id rfl
@[simp] theorem fgt_nil : fgt sl [] = sl := by simp only [fgt]
@[simp] theorem fgt_cons (i : Nat) (is : List Nat) : fgt sl (i :: is) = fgt (sl.set i none) is := by simp only [fgt]
@[simp] theorem e_comp (m : Bool) (own : List Nat) (it : It) (p : Pt) (c : Es) (r : Gs) : evE C ⟨sl, bx, bs⟩ (.comp m own it p c r) st = (evI C ⟨sl, bx, bs⟩ it st).bind fun src st => (walkL (compB C own p c r ⟨sl, bx, bs⟩) src st).bind fun xs st => mkLs m xs st := by
  simp only [evE, Res.bind_bind]; rfl
@[simp] theorem o_none : evO C ⟨sl, bx, bs⟩ .none st = .ok none st := by simp only [evO]
@[simp] theorem o_some (e : E) : evO C ⟨sl, bx, bs⟩ (.some e) st = (evE C ⟨sl, bx, bs⟩ e st).bind fun x st => .of ((getI x).map some) st := by
  simp only [evO]; congr 1; funext x s; cases x <;> rfl
@[simp] theorem es_nil : evEs C ⟨sl, bx, bs⟩ .nil st = .ok [] st := by simp only [evEs]
@[simp] theorem es_cons (e : E) (r : Es) : evEs C ⟨sl, bx, bs⟩ (.cons e r) st = (evE C ⟨sl, bx, bs⟩ e st).bind fun x st => (evEs C ⟨sl, bx, bs⟩ r st).bind fun xs st => .ok (x :: xs) st := by simp only [evEs]
@[simp] theorem es_star (e : E) (r : Es) : evEs C ⟨sl, bx, bs⟩ (.star e r) st = (evE C ⟨sl, bx, bs⟩ e st).bind fun x st => (Res.of (litems (deref st x)) st).bind fun ys st => (evEs C ⟨sl, bx, bs⟩ r st).bind fun xs st => .ok (ys ++ xs) st := by
  simp only [evEs]; congr 1; funext x s; cases litems (deref s x) <;> rfl
@[simp] theorem i_val (e : E) : evI C ⟨sl, bx, bs⟩ (.val e) st = (evE C ⟨sl, bx, bs⟩ e st).bind fun x st => .of (srcD st x) st := by simp only [evI]
@[simp] theorem i_rng (e : E) : evI C ⟨sl, bx, bs⟩ (.rng e) st = (evE C ⟨sl, bx, bs⟩ e st).bind fun x st => (Res.of (getI x) st).bind fun n st => Res.cond (i62 n) (.ok (.fix ((List.range n.toNat).map fun (k : Nat) => D.int k)) st) .no := by
  simp only [evI]; congr 1; funext x s; cases x <;> rfl
@[simp] theorem i_rng2 (a b : E) : evI C ⟨sl, bx, bs⟩ (.rng2 a b) st = (evE C ⟨sl, bx, bs⟩ a st).bind fun x st => (evE C ⟨sl, bx, bs⟩ b st).bind fun y st => (Res.of (getI x) st).bind fun m st => (Res.of (getI y) st).bind fun n st => Res.cond (i62 m && i62 n) (.ok (.fix ((List.range (n - m).toNat).map fun (k : Nat) => D.int (m + k))) st) .no := by
  simp only [evI]; congr 1; funext x s; congr 1; funext y s; cases x <;> first | rfl | (cases y <;> rfl)
@[simp] theorem i_enum (e : E) : evI C ⟨sl, bx, bs⟩ (.enum e) st = (evE C ⟨sl, bx, bs⟩ e st).bind fun x st => .of ((seqs x).map fun xs => .fix (enumT 0 xs)) st := by
  simp only [evI]; congr 1; funext x s; cases x <;> rfl
@[simp] theorem i_zip (a b : E) : evI C ⟨sl, bx, bs⟩ (.zip a b) st = (evE C ⟨sl, bx, bs⟩ a st).bind fun x st => (evE C ⟨sl, bx, bs⟩ b st).bind fun y st => .of ((zipD x y).map .fix) st := by
  simp only [evI]; congr 1; funext x s; congr 1; funext y s; cases x <;> first | rfl | (cases y <;> rfl)
@[simp] theorem g_fin (e : E) : evG C ⟨sl, bx, bs⟩ (.fin e) st = (evE C ⟨sl, bx, bs⟩ e st).bind fun x st => .ok [x] st := by simp only [evG]
@[simp] theorem g_cons (p : Pt) (it : It) (c : Es) (r : Gs) : evG C ⟨sl, bx, bs⟩ (.cons p it c r) st = (evI C ⟨sl, bx, bs⟩ it st).bind fun src st => walkL (compB C p.ixs p c r ⟨sl, bx, bs⟩) src st := by
  simp only [evG]; rfl
@[simp] theorem c_nil : evC C ⟨sl, bx, bs⟩ .nil st = .ok true st := by simp only [evC]
@[simp] theorem c_cons (e : E) (r : Es) : evC C ⟨sl, bx, bs⟩ (.cons e r) st = (tru (evE C ⟨sl, bx, bs⟩ e st)).bind fun k st => Res.cond k (evC C ⟨sl, bx, bs⟩ r st) (.ok false st) := by simp only [evC]; rfl
@[simp] theorem ixs_name (i : Nat) : (Pt.name i).ixs = [i] := id rfl
@[simp] theorem ixs_tup (i : List Nat) : (Pt.tup i).ixs = i := id rfl
@[simp] theorem permD_none (xs : List D) : permD none xs = some xs := id rfl
@[simp] theorem tru_ok (x : D) : tru (.ok x st) = .of (truD (deref st x)) st := id rfl
theorem tru_bind {α : Type} (r : Res α) (k : α → Sto → Res D) : tru (r.bind k) = r.bind fun a st => tru (k a st) := by simp only [tru, Res.bind_bind]
@[simp] theorem mkLs_f {xs : List D} (h : line xs.length = true) : mkLs false xs st = .ok (.lst xs) st := by unfold mkLs; rw [h]; rfl
@[simp] theorem mkLs_t {xs : List D} (h : line xs.length = true) : mkLs true xs st = .ok (.ref st.length) (st ++ [.lst xs]) := by unfold mkLs; rw [h]; rfl
@[simp] theorem tru_wp (r : Res D) (Q : Bool → Sto → Prop) : (tru r).wp Q = r.wp fun x st => (Res.of (truD (deref st x)) st).wp Q := by simp only [tru, Res.wp_bind]
end
@[simp] theorem line0 : line 0 = true := by decide
@[simp] theorem line1 : line 1 = true := by decide
@[simp] theorem line2 : line 2 = true := by decide
@[simp] theorem line3 : line 3 = true := by decide
@[simp] theorem line4 : line 4 = true := by decide
@[simp] theorem line5 : line 5 = true := by decide
@[simp] theorem line6 : line 6 = true := by decide
@[simp] theorem line7 : line 7 = true := by decide
theorem i62_nat {n : Nat} (h : n < 4611686018427387904) : i62 (n : Int) = true := i62_of (by omega) (by omega)
theorem Res.wp_mono {α : Type} {r : Res α} {Q Q' : α → Sto → Prop} (h : r.wp Q) (hq : ∀ a st, Q a st → Q' a st) : r.wp Q' := by
  obtain ⟨a, st, e, h⟩ := h
  exact ⟨a, st, e, hq a st h⟩
theorem Fl.wp_mono {r : Fl} {N N' : Env → Sto → Prop} {R R' : D → Sto → Prop} (h : r.wp N R) (hn : ∀ a st, N a st → N' a st) (hr : ∀ a st, R a st → R' a st) : r.wp N' R' := by
  rcases h with ⟨a, st, e, h⟩ | ⟨a, st, e, h⟩
  · exact .inl ⟨a, st, e, hn a st h⟩
  · exact .inr ⟨a, st, e, hr a st h⟩
theorem Res.wp_iff {α : Type} (r : Res α) (Q : α → Sto → Prop) : r.wp Q ↔ ∃ a st, r = .ok a st ∧ Q a st := Iff.rfl
theorem Res.eq_of_wp {α : Type} {r : Res α} {a : α} {st : Sto} (h : r.wp fun b s => b = a ∧ s = st) : r = .ok a st := by
  obtain ⟨b, s, e, h1, h2⟩ := (Res.wp_iff _ _).mp h
  rw [e, h1, h2]
theorem wp_ite {α : Type} (c : Prop) [Decidable c] (a b : Res α) (Q : α → Sto → Prop) : (if c then a else b).wp Q ↔ (c → a.wp Q) ∧ (¬ c → b.wp Q) := by
  by_cases h : c <;> simp [h]
/-- a def's run -/
def finQ (keep : Bool) (base : Nat) (Q : D → Sto → Prop) (d : D) (st : Sto) : Prop := (fin keep base d st).wp Q
theorem run_wp {C : Cs} {fd : Fd} {args : List D} {st : Sto} {Q : D → Sto → Prop} (hl : args.length = fd.np)
    (h : (evSs C fd.body ⟨fgt (args.map some ++ List.replicate (fd.ns - fd.np) none) (fd.bxs.filterMap id), List.range' st.length fd.bxs.length, st.length⟩
      (st ++ fd.bxs.map fun b => .var (match b with
        | some i => args[i]?
        | none => none))).wp (fun _ st' => finQ fd.keep st.length Q .non st') (fun d st' => finQ fd.keep st.length Q d st')) : (runFd C fd args st).wp Q := by
  unfold runFd
  rw [if_pos hl]
  revert h
  generalize evSs C fd.body _ _ = r
  intro h
  cases r with
  | nx _ _ => simpa [finQ] using h
  | rt _ _ => simpa [finQ] using h
  | ex _ _ _ => simp at h
  | no => simp at h
theorem finQ_nr {base : Nat} {Q : D → Sto → Prop} {d : D} {st : Sto} (hd : d.nr = true) (h : Q d (st.take base)) : finQ false base Q d st := by
  unfold finQ fin
  simp only [Bool.false_eq_true, if_false, hd, if_true, Res.wp_ok]
  exact h
theorem finQ_fresh {base : Nat} {Q : D → Sto → Prop} {n : Nat} {xs : List D} {st : Sto} (hn : st[n]? = some (.lst xs)) (hb : base ≤ n) (hx : D.nrs xs = true) (h : Q (.lst xs) (st.take base)) : finQ false base Q (.ref n) st := by
  unfold finQ fin
  simp only [Bool.false_eq_true, if_false, D.nr, frz, if_neg (Nat.not_lt.mpr hb), hn, hx, if_true, Res.wp_ok]
  exact h
theorem finQ_keep {base : Nat} {Q : D → Sto → Prop} {n : Nat} {xs : List D} {st : Sto} (hn : st[n]? = some (.lst xs)) (hb : base ≤ n) (hx : D.nrs xs = true) (h : Q (.ref base) (st.take base ++ [.lst xs])) : finQ true base Q (.ref n) st := by
  unfold finQ fin
  have e : (decide (base ≤ n) && D.nrs xs) = true := by rw [hx, decide_eq_true hb]; rfl
  simp only [if_true, hn, e, Res.wp_ok]
  exact h

/-! ### rules of walks -/
/-- a walk that leaves the store as it is -/
theorem loopM_pure {α : Type} {f : α → Sto → Res (List D)} {g : α → List D} {xs : List α} {st : Sto} (h : ∀ x ∈ xs, f x st = .ok (g x) st) : loopM f xs st = .ok (xs.flatMap g) st := by
  induction xs with
  | nil => rfl
  | cons x xs ih => simp only [loopM, h x (List.mem_cons_self ..), Res.bind_ok, ih (fun y hy => h y (List.mem_cons_of_mem _ hy)), List.flatMap_cons]
theorem loopM_map1 {α : Type} {f : α → Sto → Res (List D)} {g : α → D} {xs : List α} {st : Sto} (h : ∀ x ∈ xs, f x st = .ok [g x] st) : loopM f xs st = .ok (xs.map g) st := by
  rw [loopM_pure (g := fun x => [g x]) h]; congr 1; induction xs with
  | nil => rfl
  | cons x xs ih => simp [ih (fun y hy => h y (List.mem_cons_of_mem _ hy))]
theorem loopM_filter {α : Type} {f : α → Sto → Res (List D)} {p : α → Bool} {g : α → D} {xs : List α} {st : Sto} (h : ∀ x ∈ xs, f x st = .ok (if p x then [g x] else []) st) : loopM f xs st = .ok ((xs.filter p).map g) st := by
  rw [loopM_pure (g := fun x => if p x then [g x] else []) h]; congr 1
  clear h
  induction xs with
  | nil => rfl
  | cons x xs ih => by_cases hp : p x = true <;> simp [hp, ih]
/-- a walk by what holds between two turns -/
theorem loopM_ind {α : Type} {f : α → Sto → Res (List D)} (I : Nat → List D → Sto → Prop) {xs : List α} {st : Sto} {Q : List D → Sto → Prop}
    (h0 : I 0 [] st) (hs : ∀ i x acc st, xs[i]? = some x → I i acc st → (f x st).wp fun a st' => I (i + 1) (acc ++ a) st') (hq : ∀ acc st, I xs.length acc st → Q acc st) : (loopM f xs st).wp Q := by
  have key : ∀ (ys : List α) (k : Nat) (acc : List D) (st : Sto), xs.drop k = ys → k ≤ xs.length → I k acc st → (loopM f ys st).wp fun b st' => I xs.length (acc ++ b) st' := by
    intro ys
    induction ys with
    | nil =>
      intro k acc st hd hk hi
      have : k = xs.length := by
        have := congrArg List.length hd
        simp at this; omega
      subst this
      simpa [loopM] using hi
    | cons y ys ih =>
      intro k acc st hd hk hi
      have hlt : k < xs.length := by
        have := congrArg List.length hd
        simp at this; omega
      have hy : xs[k]? = some y := by
        have := congrArg (fun l => l[0]?) hd
        simpa [List.getElem?_drop] using this
      simp only [loopM, Res.wp_bind]
      refine Res.wp_mono (hs k y acc st hy hi) fun a st' h' => ?_
      have hd' : xs.drop (k + 1) = ys := by
        rw [← List.tail_drop, hd]; rfl
      rw [Res.wp_bind]
      refine Res.wp_mono (ih (k + 1) (acc ++ a) st' hd' hlt h') fun b st'' h'' => ?_
      simpa using h''
  have := key xs 0 [] st (by simp) (Nat.zero_le _) h0
  exact Res.wp_mono this fun b st' h => hq _ _ (by simpa using h)
theorem wp_pure {α : Type} {f : α → Sto → Res (List D)} (g : α → List D) {xs : List α} {st : Sto} {Q : List D → Sto → Prop} (h : ∀ x ∈ xs, f x st = .ok (g x) st) (hq : Q (xs.flatMap g) st) : (loopM f xs st).wp Q := by
  rw [loopM_pure h, Res.wp_ok]; exact hq
theorem wp_map {α : Type} {f : α → Sto → Res (List D)} (g : α → D) {xs : List α} {st : Sto} {Q : List D → Sto → Prop} (h : ∀ x ∈ xs, f x st = .ok [g x] st) (hq : Q (xs.map g) st) : (loopM f xs st).wp Q := by
  rw [loopM_map1 h, Res.wp_ok]; exact hq
theorem wp_filter {α : Type} {f : α → Sto → Res (List D)} (p : α → Bool) (g : α → D) {xs : List α} {st : Sto} {Q : List D → Sto → Prop} (h : ∀ x ∈ xs, f x st = .ok (if p x then [g x] else []) st) (hq : Q ((xs.filter p).map g) st) : (loopM f xs st).wp Q := by
  rw [loopM_filter h, Res.wp_ok]; exact hq
theorem plN_mono : ∀ {n : Nat} {d : D}, D.plN n d = true → D.plN (n + 1) d = true := by
  intro n
  induction n with
  | zero => intro d h; cases d <;> first | rfl | cases h
  | succ n ih =>
    intro d h
    cases d with
    | tup xs =>
      simp only [plN_tup, List.all_eq_true] at h ⊢
      exact fun x hx => ih (h x hx)
    | lst xs =>
      simp only [plN_lst, List.all_eq_true] at h ⊢
      exact fun x hx => ih (h x hx)
    | ref n => cases h
    | fn n => cases h
    | clo n l => cases h
    | dct k xs => cases h
    | _ => rfl
theorem not_ref {d : D} (h : d.pl = true) (st : Sto) : deref st d = d := by
  cases d <;> first | rfl | cases h
theorem nr_of_plN : ∀ {n : Nat} {d : D}, D.plN n d = true → d.nr = true := by
  intro n
  induction n with
  | zero => intro d h; cases d <;> first | rfl | cases h
  | succ n ih =>
    intro d h
    cases d with
    | tup xs =>
      simp only [nr_tup, plN_tup, List.all_eq_true] at h ⊢
      exact fun x hx => ih (h x hx)
    | lst xs =>
      simp only [nr_lst, plN_lst, List.all_eq_true] at h ⊢
      exact fun x hx => ih (h x hx)
    | ref n => cases h
    | fn n => cases h
    | clo n l => cases h
    | dct k xs => cases h
    | _ => rfl
theorem finQ_eq {base : Nat} {Q : D → Sto → Prop} {d : D} {st : Sto} (hd : d.nr = true) : finQ false base Q d st = Q d (st.take base) := by
  unfold finQ fin
  simp only [Bool.false_eq_true, if_false, hd, if_true, Res.wp_ok]
/-- a closure's run -/
theorem runL_wp {C : Cs} {lm : Lm} {cs : List Nat} {args : List D} {st : Sto} {Q : D → Sto → Prop} (hl : args.length = lm.np)
    (h : (evE C ⟨(args.map some ++ List.replicate (lm.ns - lm.np) none), cs, st.length⟩ lm.body st).wp fun d st' => finQ false st.length Q d st') : (runLm C lm cs args st).wp Q := by
  unfold runLm
  rw [if_pos hl]
  revert h
  generalize evE C _ _ _ = r
  intro h
  cases r with
  | ok _ _ => simpa [finQ] using h
  | ex _ _ => simp at h
  | no => simp at h
abbrev Fun := List D → Sto → Res D
/-- a for by what holds between two turns; where a turn returns, N and R are asked there -/
theorem forM_ind {α : Type} {f : α → Env → Sto → Fl} (I : Nat → Env → Sto → Prop) {xs : List α} {ρ : Env} {st : Sto} {N : Env → Sto → Prop} {R : D → Sto → Prop}
    (h0 : I 0 ρ st) (hs : ∀ i x ρ st, xs[i]? = some x → I i ρ st → (f x ρ st).wp (fun ρ' st' => I (i + 1) ρ' st') R) (hq : ∀ ρ st, I xs.length ρ st → N ρ st) : (forM f xs ρ st).wp N R := by
  have key : ∀ (ys : List α) (k : Nat) (ρ : Env) (st : Sto), xs.drop k = ys → k ≤ xs.length → I k ρ st → (forM f ys ρ st).wp (fun ρ' st' => I xs.length ρ' st') R := by
    intro ys
    induction ys with
    | nil =>
      intro k ρ st hd hk hi
      have : k = xs.length := by
        have := congrArg List.length hd
        simp at this; omega
      subst this
      simpa [forM] using hi
    | cons y ys ih =>
      intro k ρ st hd hk hi
      have hlt : k < xs.length := by
        have := congrArg List.length hd
        simp at this; omega
      have hy : xs[k]? = some y := by
        have := congrArg (fun l => l[0]?) hd
        simpa [List.getElem?_drop] using this
      have hd' : xs.drop (k + 1) = ys := by
        rw [← List.tail_drop, hd]; rfl
      simp only [forM, Fl.wp_then]
      refine Fl.wp_mono (hs k y ρ st hy hi) (fun ρ' st' h' => ?_) (fun _ _ h => h)
      exact ih (k + 1) ρ' st' hd' hlt h'
  exact Fl.wp_mono (key xs 0 ρ st (by simp) (Nat.zero_le _) h0) hq (fun _ _ h => h)
/-! ### folding what is built -/
@[simp] theorem tup_int {α : Type} (f : α → Int) (xs : List α) : D.tup (xs.map fun x => .int (f x)) = W (xs.map f) := by simp [W, List.map_map, Function.comp_def]
@[simp] theorem lst_int {α : Type} (f : α → Int) (xs : List α) : D.lst (xs.map fun x => .int (f x)) = LI (xs.map f) := by simp [LI, List.map_map, Function.comp_def]
@[simp] theorem tup_W {α : Type} (f : α → List Int) (xs : List α) : D.tup (xs.map fun x => W (f x)) = TW (xs.map f) := by simp [TW, List.map_map, Function.comp_def]
@[simp] theorem lst_W {α : Type} (f : α → List Int) (xs : List α) : D.lst (xs.map fun x => W (f x)) = LW (xs.map f) := by simp [LW, List.map_map, Function.comp_def]
@[simp] theorem tup_L {α : Type} (f : α → Lw) (xs : List α) : D.tup (xs.map fun x => L (f x)) = B (xs.map f) := by simp [B, List.map_map, Function.comp_def]
@[simp] theorem lst_L {α : Type} (f : α → Lw) (xs : List α) : D.lst (xs.map fun x => L (f x)) = LB (xs.map f) := by simp [LB, List.map_map, Function.comp_def]
@[simp] theorem tup_int1 (w : List Int) : D.tup (w.map .int) = W w := id rfl
@[simp] theorem lst_int1 (w : List Int) : D.lst (w.map .int) = LI w := id rfl
@[simp] theorem tup_W1 (w : List (List Int)) : D.tup (w.map W) = TW w := id rfl
@[simp] theorem lst_W1 (w : List (List Int)) : D.lst (w.map W) = LW w := id rfl
@[simp] theorem tup_L1 (w : List Lw) : D.tup (w.map L) = B w := id rfl
@[simp] theorem lst_L1 (w : List Lw) : D.lst (w.map L) = LB w := id rfl
@[simp] theorem tup_app1 (w : List Int) (x : Int) : D.tup (w.map .int ++ [.int x]) = W (w ++ [x]) := by rw [← tup_int1]; simp only [List.map_append, List.map_cons, List.map_nil]
@[simp] theorem tup_cons1 (w : List Int) (x : Int) : D.tup (.int x :: w.map .int) = W (x :: w) := by rw [← tup_int1]; simp only [List.map_cons]
@[simp] theorem tup_wapp1 (w : List (List Int)) (x : List Int) : D.tup (w.map W ++ [W x]) = TW (w ++ [x]) := by rw [← tup_W1]; simp only [List.map_append, List.map_cons, List.map_nil]
theorem range_get {n k x : Nat} (h : (List.range n)[k]? = some x) : k < n ∧ x = k := by
  obtain ⟨h1, h2⟩ := List.getElem?_eq_some_iff.mp h
  simp at h1 h2
  exact ⟨h1, h2.symm⟩
theorem enumT_from : ∀ (n : Nat) (xs : List D), enumT n xs = (List.range xs.length).map fun p => .tup [.int ((n + p : Nat) : Int), xs.getD p .non]
  | _, [] => id rfl
  | n, x :: xs => by
    simp only [enumT, List.length_cons, List.range_succ_eq_map, List.map_cons, List.map_map, enumT_from (n + 1) xs, List.cons.injEq]
    refine ⟨by simp, List.map_congr_left fun p _ => ?_⟩
    simp [Nat.add_assoc, Nat.add_comm 1 p]; try omega
theorem enumT_W (w : List Int) : enumT 0 (w.map .int) = (List.range w.length).map fun (p : Nat) => .tup [.int (p : Int), .int (gi w p)] := by
  rw [enumT_from, List.length_map]
  refine List.map_congr_left fun p hp => ?_
  simp at hp
  simp [gi, hp]
theorem enumT_TW (w : List (List Int)) : enumT 0 (w.map W) = (List.range w.length).map fun (p : Nat) => .tup [.int (p : Int), W (gw w p)] := by
  rw [enumT_from, List.length_map]
  refine List.map_congr_left fun p hp => ?_
  simp at hp
  simp [gw, hp]
theorem enumT_B (w : List Lw) : enumT 0 (w.map L) = (List.range w.length).map fun (p : Nat) => .tup [.int (p : Int), L (gl w p)] := by
  rw [enumT_from, List.length_map]
  refine List.map_congr_left fun p hp => ?_
  simp at hp
  simp [gl, hp]
/-! ### walks over a list of the store -/
theorem forN_ind {f : D → Env → Sto → Fl} {src : Src} (I : Nat → Env → Sto → Prop) {xs : List D} {N : Env → Sto → Prop} {R : D → Sto → Prop}
    (ha : ∀ i ρ st, I i ρ st → srcAt st src i = xs[i]?) (he : ∀ ρ st, I xs.length ρ st → srcEnd st src xs.length = true)
    (hs : ∀ i x ρ st, xs[i]? = some x → I i ρ st → (f x ρ st).wp (fun ρ' st' => I (i + 1) ρ' st') R) (hq : ∀ ρ st, I xs.length ρ st → N ρ st) :
    ∀ (k i : Nat) (ρ : Env) (st : Sto), i + k = xs.length → I i ρ st → (forN f src k i ρ st).wp N R := by
  intro k
  induction k with
  | zero =>
    intro i ρ st hk hi
    have e : i = xs.length := by omega
    subst e
    simp [forN, he ρ st hi, hq ρ st hi]
  | succ k ih =>
    intro i ρ st hk hi
    have hl : i < xs.length := by omega
    have e : xs[i]? = some xs[i] := List.getElem?_eq_getElem hl
    simp only [forN, ha i ρ st hi, e, Fl.wp_then]
    exact Fl.wp_mono (hs i _ ρ st e hi) (fun ρ' st' h' => ih (i + 1) ρ' st' (by omega) h') (fun _ _ h => h)
theorem forS_ind {f : D → Env → Sto → Fl} {src : Src} (I : Nat → Env → Sto → Prop) {xs : List D} {ρ : Env} {st : Sto} {N : Env → Sto → Prop} {R : D → Sto → Prop}
    (hsrc : src = .fix xs ∨ ∃ n, src = .cell n xs.length ∧ ∀ i ρ st, I i ρ st → st[n]? = some (.lst xs)) (h0 : I 0 ρ st)
    (hs : ∀ i x ρ st, xs[i]? = some x → I i ρ st → (f x ρ st).wp (fun ρ' st' => I (i + 1) ρ' st') R) (hq : ∀ ρ st, I xs.length ρ st → N ρ st) : (forS f src ρ st).wp N R := by
  rw [for_N]
  rcases hsrc with rfl | ⟨n, rfl, hn⟩
  · exact forN_ind I (fun i ρ st _ => by simp [srcAt]) (fun ρ st _ => by simp [srcEnd]) hs hq _ 0 ρ st (by simp [Src.len]) h0
  · exact forN_ind I (fun i ρ st h => by simp [srcAt, hn i ρ st h]) (fun ρ st h => by simp [srcEnd, endC, hn _ ρ st h]) hs hq _ 0 ρ st (by simp [Src.len]) h0
theorem loopC_pure {f : D → Sto → Res (List D)} {n : Nat} {xs : List D} {st : Sto} {g : D → List D} (hn : st[n]? = some (.lst xs)) (h : ∀ x ∈ xs, f x st = .ok (g x) st) :
    ∀ (k i : Nat), i + k = xs.length → loopC f n xs.length k i st = .ok ((xs.drop i).flatMap g) st
  | 0, i, hk => by
    have : xs.drop i = [] := by simp; omega
    simp [loopC, this]
  | k + 1, i, hk => by
    have hl : i < xs.length := by omega
    have e : xs[i]? = some xs[i] := List.getElem?_eq_getElem hl
    have ed : xs.drop i = xs[i] :: xs.drop (i + 1) := List.drop_eq_getElem_cons hl
    simp only [loopC, hn, if_true, e, h _ (List.getElem_mem hl), Res.bind_ok, loopC_pure hn h k (i + 1) (by omega), ed, List.flatMap_cons]
theorem walkL_cell {f : D → Sto → Res (List D)} {n : Nat} {xs : List D} {st : Sto} (hn : st[n]? = some (.lst xs)) (g : D → List D) (h : ∀ x ∈ xs, f x st = .ok (g x) st) :
    walkL f (.cell n xs.length) st = .ok (xs.flatMap g) st := by
  simp only [walkL, loopC_pure hn h xs.length 0 (by omega), Res.bind_ok, List.drop_zero, endC, hn, decide_true, if_true]
@[simp] theorem get_top (st : Sto) (c : Cell) : (st ++ [c])[st.length]? = some c := by simp
@[simp] theorem set_top (st : Sto) (c d : Cell) : (st ++ [c]).set st.length d = st ++ [d] := by simp
theorem isL_ref {st : Sto} {n : Nat} {xs : List D} (h : st[n]? = some (.lst xs)) : isL st (.ref n) = true := by simp [isL, h]
theorem ext_ref {base n : Nat} {xs ys : List D} {st : Sto} (hn : st[n]? = some (.lst xs)) (hb : base ≤ n) (hl : line (xs.length + ys.length) = true) : extD base (.ref n) (.lst ys) st = .ok .non (st.set n (.lst (xs ++ ys))) := by
  simp [extD, hn, hl, hb]
theorem app_ref {base n : Nat} {xs : List D} {y : D} {st : Sto} (hn : st[n]? = some (.lst xs)) (hb : base ≤ n) (hl : line (xs.length + 1) = true) : appD base (.ref n) y st = .ok .non (st.set n (.lst (xs ++ [y]))) := by
  simp [appD, hn, hl, hb, wrOk]
theorem pre_take {st st' : Sto} (h : st <+: st') : st'.take st.length = st := (List.prefix_iff_eq_take.mp h).symm
theorem pre_len {st st' : Sto} (h : st <+: st') : st.length ≤ st'.length := h.length_le
theorem pre_app {st st' : Sto} (h : st <+: st') (x : Sto) : st <+: st' ++ x := h.trans (List.prefix_append _ _)
/-- a list, by value or in the store -/
def IsLst (st : Sto) (base : Nat) (d : D) (xs : List D) : Prop := d = .lst xs ∨ ∃ m, d = .ref m ∧ base ≤ m ∧ st[m]? = some (.lst xs)
theorem IsLst.app {st : Sto} {base : Nat} {d : D} {xs : List D} (h : IsLst st base d xs) (x : Sto) : IsLst (st ++ x) base d xs := by
  rcases h with rfl | ⟨m, rfl, hm, he⟩
  · exact .inl rfl
  · exact .inr ⟨m, rfl, hm, by rw [List.getElem?_append_left (List.getElem?_eq_some_iff.mp he).1]; exact he⟩
theorem IsLst.deref {st : Sto} {base : Nat} {d : D} {xs : List D} (h : IsLst st base d xs) : Y.deref st d = .lst xs := by
  rcases h with rfl | ⟨m, rfl, hm, he⟩
  · rfl
  · exact deref_ref he
theorem IsLst.src {st : Sto} {base : Nat} {d : D} {xs : List D} (h : IsLst st base d xs) : ∃ src, srcD st d = some src ∧ (src = .fix xs ∨ ∃ m, src = .cell m xs.length ∧ m < st.length ∧ st[m]? = some (.lst xs)) := by
  rcases h with rfl | ⟨m, rfl, hm, he⟩
  · exact ⟨_, rfl, .inl rfl⟩
  · exact ⟨_, srcD_ref he, .inr ⟨m, rfl, (List.getElem?_eq_some_iff.mp he).1, he⟩⟩
theorem IsLst.fin {st : Sto} {base : Nat} {d : D} {xs : List D} {Q : D → Sto → Prop} (h : IsLst st base d xs) (hx : xs.all D.nr = true) (hq : Q (.lst xs) (st.take base)) : finQ false base Q d st := by
  rcases h with rfl | ⟨m, rfl, hm, he⟩
  · rw [finQ_eq (by simpa using hx)]; exact hq
  · exact finQ_fresh he hm (by simpa using hx) hq
end Y
end
section
set_option maxRecDepth 100000
set_option Elab.async false
set_option linter.all false
namespace Y
open PySem
def t_is_whole : Fd := ⟨1, 1, [], false, (.cons (.ret (.and (.isa (.var 0) .int) (.not (.isa (.var 0) .bool)))) .nil)⟩
def t_is_between (c0 : Nat) : Fd := ⟨3, 3, [], false, (.cons (.ret (.and (.call c0 (.cons (.var 0) .nil) .nil none) (.cmp2 .le .le (.var 1) (.var 0) (.var 2)))) .nil)⟩  -- is_whole
def t_is_tuple_of : Fd := ⟨2, 2, [], false, (.cons (.ret (.and (.isa (.var 0) .tuple) (.cmp .eq (.bi .len (.cons (.var 0) .nil)) (.var 1)))) .nil)⟩
def t_is_row : Fd := ⟨3, 3, [], false, (.cons (.ret (.and (.isa (.var 0) .tuple) (.cmp2 .le .le (.var 1) (.bi .len (.cons (.var 0) .nil)) (.var 2)))) .nil)⟩
def t_first_wrong : Fd := ⟨2, 4, [], false, (.cons (.for_ (.tup [2, 3]) (.enum (.var 0)) (.cons (.iff (.not (.vcall (.var 1) (.cons (.var 3) (.cons (.sl (.var 0) .none (.some (.var 2))) .nil)))) (.cons (.ret (.var 2)) .nil) .nil) .nil)) (.cons (.ret (.lit .non)) .nil))⟩
def t_is_sounds (c0 : Nat) : Fd := ⟨1, 1, [], false, (.cons (.ret (.call c0 (.cons (.var 0) (.cons (.gl "FEWEST_SOUNDS" (.int 2)) (.cons (.gl "MOST_SOUNDS" (.int 3)) .nil))) .nil none)) .nil)⟩  -- is_between
def t_check_sounds (c0 : Nat) : Fd := ⟨1, 1, [], false, (.cons (.iff (.not (.call c0 (.cons (.var 0) .nil) .nil none)) (.cons (.raise 0 .nil) .nil) .nil) .nil)⟩  -- is_sounds
def t_is_sound (c0 : Nat) : Fd := ⟨2, 2, [], false, (.cons (.ret (.call c0 (.cons (.var 1) (.cons (.lit (.int 0)) (.cons (.bin .sub (.var 0) (.lit (.int 1))) .nil))) .nil none)) .nil)⟩  -- is_between
def t_is_lot (c0 : Nat) : Fd := ⟨2, 5, [], false, (.cons (.iff (.or (.not (.isa (.var 1) .tuple)) (.or (.cmp .eq (.bi .len (.cons (.var 1) .nil)) (.lit (.int 0))) (.not (.bi .all (.cons (.comp false [2] (.val (.var 1)) (.name 2) .nil (.fin (.call c0 (.cons (.var 2) (.cons (.lit (.int 0)) (.cons (.var 0) .nil))) .nil none))) .nil))))) (.cons (.ret (.lit (.bl false))) .nil) .nil) (.cons (.ret (.bi .all (.cons (.comp false [3, 4] (.zip (.var 1) (.sl (.var 1) (.some (.lit (.int 1))) .none)) (.tup [3, 4]) .nil (.fin (.cmp .lt (.var 3) (.var 4)))) .nil))) .nil))⟩  -- is_between
def t_is_law (c0 : Nat) (c1 : Nat) (c2 : Nat) : Fd := ⟨2, 2, [], false, (.cons (.iff (.or (.not (.call c0 (.cons (.var 1) (.cons (.lit (.int 4)) .nil)) .nil none)) (.or (.not (.call c1 (.cons (.bin .sub (.var 0) (.lit (.int 1))) (.cons (.idx (.var 1) (.lit (.int 0))) .nil)) .nil none)) (.not (.call c2 (.cons (.var 0) (.cons (.idx (.var 1) (.lit (.int 1))) .nil)) .nil none)))) (.cons (.ret (.lit (.bl false))) .nil) .nil) (.cons (.ret (.and (.cmp .notin (.idx (.var 1) (.lit (.int 1))) (.idx (.var 1) (.lit (.int 0)))) (.and (.call c1 (.cons (.var 0) (.cons (.idx (.var 1) (.lit (.int 2))) .nil)) .nil none) (.call c1 (.cons (.var 0) (.cons (.idx (.var 1) (.lit (.int 3))) .nil)) .nil none)))) .nil))⟩  -- is_tuple_of is_lot is_sound
def t_wrong_law (c0 : Nat) (c1 : Nat) : Fd := ⟨2, 2, [some 0], false, (.cons (.ret (.call c0 (.cons (.var 1) (.cons (.lam c1 [0]) .nil)) .nil none)) .nil)⟩  -- first_wrong λ0
def t_check_book (c0 : Nat) (c1 : Nat) : Fd := ⟨2, 3, [], false, (.cons (.iff (.not (.call c0 (.cons (.var 1) (.cons (.lit (.int 0)) (.cons (.gl "MOST_LAWS" (.int 3)) .nil))) .nil none)) (.cons (.raise 0 .nil) .nil) .nil) (.cons (.asg (.name 2) (.call c1 (.cons (.var 0) (.cons (.var 1) .nil)) .nil none)) (.cons (.iff (.cmp .isnot (.var 2) (.lit .non)) (.cons (.raise 0 .nil) .nil) .nil) .nil)))⟩  -- is_row wrong_law
def t_check_booked (c0 : Nat) (c1 : Nat) : Fd := ⟨2, 2, [], false, (.cons (.ex (.call c0 (.cons (.var 0) .nil) .nil none)) (.cons (.ex (.call c1 (.cons (.var 0) (.cons (.var 1) .nil)) .nil none)) .nil))⟩  -- check_sounds check_book
def t_is_word (c0 : Nat) (c1 : Nat) : Fd := ⟨2, 3, [], false, (.cons (.ret (.and (.call c0 (.cons (.var 1) (.cons (.lit (.int 1)) (.cons (.gl "MOST_WORD" (.int 7)) .nil))) .nil none) (.bi .all (.cons (.comp false [2] (.val (.var 1)) (.name 2) .nil (.fin (.call c1 (.cons (.var 0) (.cons (.var 2) .nil)) .nil none))) .nil)))) .nil)⟩  -- is_row is_sound
def t_check_word (c0 : Nat) : Fd := ⟨2, 2, [], false, (.cons (.iff (.not (.call c0 (.cons (.var 0) (.cons (.var 1) .nil)) .nil none)) (.cons (.raise 0 .nil) .nil) .nil) .nil)⟩  -- is_word
def t_words_by : Fd := ⟨2, 6, [], false, (.cons (.asg (.name 2) (.lst false (.cons (.tup .nil) .nil))) (.cons (.for_ (.name 3) (.rng (.var 1)) (.cons (.asg (.name 2) (.comp false [4, 5] (.val (.var 2)) (.name 4) .nil (.cons (.name 5) (.rng (.var 0)) .nil (.fin (.tup (.star (.var 4) (.cons (.var 5) .nil))))))) .nil)) (.cons (.ret (.var 2)) .nil)))⟩
def t_around : Fd := ⟨3, 4, [], false, (.cons (.asg (.name 3) (.ite (.cmp .gt (.var 2) (.lit (.int 0))) (.idx (.var 1) (.bin .sub (.var 2) (.lit (.int 1)))) (.var 0))) (.cons (.ret (.tup (.cons (.var 3) (.cons (.ite (.cmp .lt (.var 2) (.bin .sub (.bi .len (.cons (.var 1) .nil)) (.lit (.int 1)))) (.idx (.var 1) (.bin .add (.var 2) (.lit (.int 1)))) (.var 0)) .nil)))) .nil))⟩
def t_does_act (c0 : Nat) : Fd := ⟨4, 6, [], false, (.cons (.asg (.tup (.cons (.name 4) (.cons (.name 5) .nil))) (.call c0 (.cons (.var 0) (.cons (.var 2) (.cons (.var 3) .nil))) .nil none)) (.cons (.ret (.and (.cmp .inn (.idx (.var 2) (.var 3)) (.idx (.var 1) (.lit (.int 0)))) (.and (.cmp .inn (.var 4) (.idx (.var 1) (.lit (.int 2)))) (.cmp .inn (.var 5) (.idx (.var 1) (.lit (.int 3))))))) .nil))⟩  -- around
def t_acts_by (c0 : Nat) : Fd := ⟨3, 4, [], false, (.cons (.ret (.comp false [3] (.rng (.bi .len (.cons (.var 2) .nil))) (.name 3) (.cons (.call c0 (.cons (.var 0) (.cons (.var 1) (.cons (.var 2) (.cons (.var 3) .nil)))) .nil none) .nil) (.fin (.var 3)))) .nil)⟩  -- does_act
def t_work_by (c0 : Nat) : Fd := ⟨3, 6, [], false, (.cons (.asg (.name 3) (.call c0 (.cons (.var 0) (.cons (.var 1) (.cons (.var 2) .nil))) .nil none)) (.cons (.ret (.bi .tuple (.cons (.comp false [4, 5] (.enum (.var 2)) (.tup [4, 5]) .nil (.fin (.ite (.cmp .inn (.var 4) (.var 3)) (.idx (.var 1) (.lit (.int 1))) (.var 5)))) .nil))) .nil))⟩  -- acts_by
def t_done_by (c0 : Nat) : Fd := ⟨3, 5, [], false, (.cons (.asg (.name 3) (.var 2)) (.cons (.for_ (.name 4) (.val (.var 1)) (.cons (.asg (.name 3) (.call c0 (.cons (.var 0) (.cons (.var 4) (.cons (.var 3) .nil))) .nil none)) .nil)) (.cons (.ret (.var 3)) .nil)))⟩  -- work_by
def t_sources_by (c0 : Nat) (c1 : Nat) : Fd := ⟨3, 4, [], false, (.cons (.ret (.bi .tuple (.cons (.comp false [3] (.val (.call c0 (.cons (.var 0) (.cons (.bi .len (.cons (.var 2) .nil)) .nil)) .nil none)) (.name 3) (.cons (.cmp .eq (.call c1 (.cons (.var 0) (.cons (.var 1) (.cons (.var 3) .nil))) .nil none) (.var 2)) .nil) (.fin (.var 3))) .nil))) .nil)⟩  -- words_by done_by
def t_check_sourced (c0 : Nat) (c1 : Nat) : Fd := ⟨3, 3, [], false, (.cons (.ex (.call c0 (.cons (.var 0) (.cons (.var 1) .nil)) .nil none)) (.cons (.ex (.call c1 (.cons (.var 0) (.cons (.var 2) .nil)) .nil none)) .nil))⟩  -- check_booked check_word
def t_sources (c0 : Nat) (c1 : Nat) : Fd := ⟨3, 3, [], false, (.cons (.ex (.call c0 (.cons (.var 0) (.cons (.var 1) (.cons (.var 2) .nil))) .nil none)) (.cons (.ret (.call c1 (.cons (.var 0) (.cons (.var 1) (.cons (.var 2) .nil))) .nil none)) .nil))⟩  -- check_sourced sources_by
def t_law_pool (c0 : Int) (c1 : Int) (c2 : Int) (c3 : Int) : Fd := ⟨2, 6, [], true, (.cons (.asg (.tup (.cons (.name 2) (.cons (.name 3) .nil))) (.tup (.cons (.bi .sum (.cons (.sl (.var 0) (.some (.var 1)) (.some (.bin .add (.var 1) (.lit (.int 1))))) .nil)) (.cons (.bin .add (.lit (.int c0)) (.bin .mul (.lit (.int c1)) (.var 1))) .nil)))) (.cons (.asg (.name 4) (.bin .mul (.bin .mul (.bin .mul (.bin .mul (.bin .mul (.bin .pow (.lit (.int 10)) (.lit (.int 64))) (.bin .pow (.lit (.int 10)) (.lit (.int 64)))) (.bin .pow (.lit (.int 10)) (.lit (.int 64)))) (.bin .pow (.lit (.int 10)) (.lit (.int 64)))) (.bin .pow (.lit (.int 10)) (.lit (.int 64)))) (.bin .pow (.lit (.int 10)) (.lit (.int 64))))) (.cons (.for_ (.name 5) (.val (.sl (.var 0) .none (.some (.lit (.int 12))))) (.cons (.asg (.name 3) (.bin .mod (.bin .add (.bin .add (.bin .mul (.var 3) (.lit (.int c2))) (.bin .mul (.bin .mod (.var 5) (.lit (.int c3))) (.lit (.int 19)))) (.lit (.int 7))) (.lit (.int c3)))) .nil)) (.cons (.ret (.lst true (.cons (.ite (.or (.cmp .lt (.var 2) (.lit (.int 0))) (.cmp .ge (.var 2) (.bin .pow (.lit (.int 10)) (.lit (.int 18))))) (.bin .mod (.bi .abs (.cons (.var 2) .nil)) (.var 4)) (.lit (.int 0))) (.cons (.var 3) (.cons (.lit (.int 0)) .nil))))) .nil))))⟩  -- #50021 #977 #48271 #2147483399
def t_law_take (c0 : Int) (c1 : Int) (c2 : Int) (c3 : Int) (c4 : Int) : Fd := ⟨2, 4, [], false, (.cons (.iff (.cmp .gt (.idx (.var 0) (.lit (.int 0))) (.lit (.int 0))) (.cons (.asg (.tup (.cons (.sub (.var 0) (.lit (.int 0))) (.cons (.name 2) .nil))) (.bi .divmod (.cons (.idx (.var 0) (.lit (.int 0))) (.cons (.var 1) .nil)))) (.cons (.ret (.var 2)) .nil)) .nil) (.cons (.asg (.sub (.var 0) (.lit (.int 2))) (.bin .add (.idx (.var 0) (.lit (.int 2))) (.lit (.int 1)))) (.cons (.asg (.name 3) (.bin .mod (.bin .add (.idx (.var 0) (.lit (.int 1))) (.bin .mul (.lit (.int c0)) (.idx (.var 0) (.lit (.int 2))))) (.lit (.int c1)))) (.cons (.asg (.sub (.var 0) (.lit (.int 1))) (.bin .mod (.bin .add (.bin .mul (.var 3) (.bin .add (.bin .mod (.var 3) (.lit (.int c2))) (.lit (.int c3)))) (.bin .mul (.lit (.int 17)) (.idx (.var 0) (.lit (.int 2))))) (.lit (.int c1)))) (.cons (.ret (.bin .mod (.bin .fdiv (.idx (.var 0) (.lit (.int 1))) (.lit (.int c4))) (.var 1))) .nil)))))⟩  -- #28657 #2147483399 #5003 #48271 #613
def t_law_of (c0 : Nat) : Fd := ⟨2, 2, [], false, (.cons (.ret (.idx (.var 1) (.call c0 (.cons (.var 0) (.cons (.bi .len (.cons (.var 1) .nil)) .nil)) .nil none))) .nil)⟩  -- _law_take
def t_law_lot (c0 : Nat) : Fd := ⟨3, 5, [], false, (.cons (.asg (.name 3) (.comp false [4] (.rng (.var 1)) (.name 4) (.cons (.cmp .gt (.call c0 (.cons (.var 0) (.cons (.var 2) .nil)) .nil none) (.lit (.int 0))) .nil) (.fin (.var 4)))) (.cons (.ret (.ite (.cmp .ne (.var 3) (.lst false .nil)) (.bi .tuple (.cons (.var 3) .nil)) (.tup (.cons (.call c0 (.cons (.var 0) (.cons (.var 1) .nil)) .nil none) .nil)))) .nil))⟩  -- _law_take
def t_law_one (c0 : Nat) (c1 : Nat) : Fd := ⟨2, 5, [], false, (.cons (.asg (.name 2) (.call c0 (.cons (.var 0) (.cons (.var 1) .nil)) .nil none)) (.cons (.asg (.name 3) (.bi .tuple (.cons (.comp false [4] (.rng (.var 1)) (.name 4) (.cons (.and (.cmp .ne (.var 4) (.var 2)) (.cmp .gt (.call c0 (.cons (.var 0) (.cons (.lit (.int 3)) .nil)) .nil none) (.lit (.int 0)))) .nil) (.fin (.var 4))) .nil))) (.cons (.asg (.name 3) (.ite (.cmp .ne (.var 3) (.tup .nil)) (.var 3) (.tup (.cons (.bin .mod (.bin .add (.var 2) (.lit (.int 1))) (.var 1)) .nil)))) (.cons (.ret (.tup (.cons (.var 3) (.cons (.var 2) (.cons (.call c1 (.cons (.var 0) (.cons (.bin .add (.var 1) (.lit (.int 1))) (.cons (.lit (.int 3)) .nil))) .nil none) (.cons (.call c1 (.cons (.var 0) (.cons (.bin .add (.var 1) (.lit (.int 1))) (.cons (.lit (.int 3)) .nil))) .nil none) .nil)))))) .nil))))⟩  -- _law_take _law_lot
def t_law_book (c0 : Nat) (c1 : Nat) : Fd := ⟨3, 4, [], false, (.cons (.ret (.bi .tuple (.cons (.comp false [3] (.rng (.call c0 (.cons (.var 0) (.cons (.bin .add (.var 2) (.lit (.int 1))) .nil)) .nil none)) (.name 3) .nil (.fin (.call c1 (.cons (.var 0) (.cons (.var 1) .nil)) .nil none))) .nil))) .nil)⟩  -- _law_take _law_one
def t_law_words : Fd := ⟨2, 7, [], false, (.cons (.asg (.name 2) (.lst false (.cons (.tup .nil) .nil))) (.cons (.for_ (.name 3) (.rng (.var 1)) (.cons (.asg (.name 4) (.lst true .nil)) (.cons (.for_ (.name 5) (.val (.var 2)) (.cons (.ex (.ext (.var 4) (.comp false [6] (.rng (.var 0)) (.name 6) .nil (.fin (.bin .add (.var 5) (.tup (.cons (.var 6) .nil))))))) .nil)) (.cons (.asg (.name 2) (.var 4)) .nil)))) (.cons (.ret (.var 2)) .nil)))⟩
def t_law_places : Fd := ⟨3, 6, [], false, (.cons (.asg (.name 3) (.bin .add (.bin .add (.tup (.cons (.var 0) .nil)) (.var 2)) (.tup (.cons (.var 0) .nil)))) (.cons (.asg (.name 4) (.lst true .nil)) (.cons (.for_ (.name 5) (.rng (.bi .len (.cons (.var 2) .nil))) (.cons (.iff (.and (.cmp .inn (.idx (.var 2) (.var 5)) (.idx (.var 1) (.lit (.int 0)))) (.and (.cmp .inn (.idx (.var 3) (.var 5)) (.idx (.var 1) (.lit (.int 2)))) (.cmp .inn (.idx (.var 3) (.bin .add (.var 5) (.lit (.int 2)))) (.idx (.var 1) (.lit (.int 3)))))) (.cons (.ex (.app (.var 4) (.var 5))) .nil) .nil) .nil)) (.cons (.ret (.var 4)) .nil))))⟩
def t_law_done (c0 : Nat) : Fd := ⟨3, 6, [], false, (.cons (.for_ (.name 3) (.val (.var 1)) (.cons (.asg (.name 4) (.call c0 (.cons (.var 0) (.cons (.var 3) (.cons (.var 2) .nil))) .nil none)) (.cons (.asg (.name 2) (.bi .tuple (.cons (.comp false [5] (.rng (.bi .len (.cons (.var 2) .nil))) (.name 5) .nil (.fin (.ite (.cmp .inn (.var 5) (.var 4)) (.idx (.var 3) (.lit (.int 1))) (.idx (.var 2) (.var 5))))) .nil))) .nil))) (.cons (.ret (.var 2)) .nil))⟩  -- _law_places
def t_law_right (c0 : Nat) (c1 : Nat) (c2 : Nat) (c3 : Nat) (c4 : Nat) (c5 : Nat) : Fd := ⟨2, 11, [], false, (.cons (.asg (.tup (.cons (.name 2) (.cons (.name 3) (.cons (.name 4) .nil)))) (.tup (.cons (.idx (.var 1) (.lit (.int 0))) (.cons (.call c0 (.cons (.var 0) (.cons (.idx (.var 1) (.lit (.int 0))) (.cons (.idx (.var 1) (.lit (.int 1))) .nil))) .nil none) (.cons (.bin .add (.lit (.int 1)) (.call c1 (.cons (.var 0) (.cons (.idx (.var 1) (.lit (.int 2))) .nil)) .nil none)) .nil))))) (.cons (.asg (.name 5) (.call c2 (.cons (.var 2) (.cons (.var 4) .nil)) .nil none)) (.cons (.asg (.name 6) (.comp false [7] (.val (.var 5)) (.name 7) .nil (.fin (.tup (.cons (.var 7) (.cons (.call c3 (.cons (.var 2) (.cons (.var 3) (.cons (.var 7) .nil))) .nil none) .nil)))))) (.cons (.for_ (.name 7) (.val (.lst false (.cons (.call c4 (.cons (.var 0) (.cons (.var 5) .nil)) .nil none) (.cons (.idx (.call c4 (.cons (.var 0) (.cons (.var 6) .nil)) .nil none) (.lit (.int 1))) (.cons (.idx (.idx (.var 6) (.lit (.int 0))) (.lit (.int 1))) .nil))))) (.cons (.asg (.name 8) (.bi .tuple (.cons (.comp false [9, 10] (.val (.var 6)) (.tup [9, 10]) (.cons (.cmp .eq (.var 10) (.var 7)) .nil) (.fin (.var 9))) .nil))) (.cons (.iff (.cmp .ne (.bi .repr (.cons (.lst false (.cons (.call c5 (.cons (.var 2) (.cons (.var 3) (.cons (.var 7) .nil))) .nil none) (.cons (.call c5 .nil (.cons (.var 7) (.cons (.var 3) (.cons (.var 2) .nil))) (some [2, 1, 0])) .nil))) .nil)) (.bi .repr (.cons (.lst false (.cons (.var 8) (.cons (.var 8) .nil))) .nil))) (.cons (.ret (.lit (.bl false))) .nil) .nil) .nil))) (.cons (.ret (.cmp .eq (.call c5 (.cons (.lit (.int 2)) (.cons (.tup (.cons (.tup (.cons (.tup (.cons (.lit (.int 0)) .nil)) (.cons (.lit (.int 1)) (.cons (.tup (.cons (.lit (.int 0)) (.cons (.lit (.int 1)) (.cons (.lit (.int 2)) .nil)))) (.cons (.tup (.cons (.lit (.int 0)) (.cons (.lit (.int 1)) (.cons (.lit (.int 2)) .nil)))) .nil))))) .nil)) (.cons (.tup (.cons (.lit (.int 0)) .nil)) .nil))) .nil none) (.tup .nil))) .nil)))))⟩  -- _law_book _law_take _law_words _law_done _law_of sources
def t_law (c0 : Nat) (c1 : Nat) : Fd := ⟨1, 4, [], false, (.cons (.for_ (.name 1) (.rng (.bi .max2 (.cons (.lit (.int 2)) (.cons (.bi .min2 (.cons (.bi .len (.cons (.var 0) .nil)) (.cons (.lit (.int 3)) .nil))) .nil)))) (.cons (.asg (.name 2) (.call c0 (.cons (.var 0) (.cons (.var 1) .nil)) .nil none)) (.cons (.for_ (.name 3) (.val (.lst false (.cons (.tup (.cons (.lit (.int 2)) (.cons (.lit (.int 3)) (.cons (.lit (.int 6)) .nil)))) (.cons (.tup (.cons (.lit (.int 3)) (.cons (.lit (.int 2)) (.cons (.lit (.int 4)) .nil)))) (.cons (.tup (.cons (.lit (.int 2)) (.cons (.lit (.int 2)) (.cons (.lit (.int 7)) .nil)))) (.cons (.tup (.cons (.lit (.int 3)) (.cons (.lit (.int 1)) (.cons (.lit (.int 5)) .nil)))) (.cons (.tup (.cons (.lit (.int 2)) (.cons (.lit (.int 1)) (.cons (.lit (.int 5)) .nil)))) .nil))))))) (.cons (.iff (.not (.call c1 (.cons (.var 2) (.cons (.var 3) .nil)) .nil none)) (.cons (.ret (.lit (.bl false))) .nil) .nil) .nil)) .nil))) (.cons (.ret (.lit (.bl true))) .nil))⟩  -- _law_pool _law_right
def k_wrong_law (c0 : Nat) : Lm := ⟨2, 3, (.call c0 (.cons (.box 0) (.cons (.var 0) .nil)) .nil none)⟩  -- is_law
end Y
end
section
set_option maxRecDepth 100000
set_option Elab.async false
set_option linter.all false
namespace Y
open PySem
local macro_rules | `(tactic| tm_at "run") => `(tactic| refine Res.eq_of_wp (run_wp rfl ?_))
def isInt : D → Bool
  | .int _ => true
  | _ => false
@[simp] theorem isInt_int (i : Int) : isInt (.int i) = true := id rfl
def Q_is_whole (F : Fun) : Prop := ∀ (d : D) (st : Sto), d.pl = true → F [d] st = .ok (.bl (isInt d)) st
theorem ok_is_whole {C : Cs} : Q_is_whole (runFd C t_is_whole) := by
  intro d st h
  tm_at "run"
  have e := not_ref h st
  simp only [pl_eq] at h
  cases d <;> first | (cases h; done) | (simp [t_is_whole, isaD, h, isInt, finQ_eq]; done)
def betw (a b : Int) : D → Bool
  | .int i => decide (a ≤ i) && decide (i ≤ b)
  | _ => false
@[simp] theorem betw_int (a b i : Int) : betw a b (.int i) = (decide (a ≤ i) && decide (i ≤ b)) := id rfl
def Q_is_between (F : Fun) : Prop := ∀ (d : D) (a b : Int) (st : Sto), d.pl = true → F [d, .int a, .int b] st = .ok (.bl (betw a b d)) st
theorem ok_is_between {C : Cs} {c0 : Nat} (h0 : Q_is_whole (C.fn c0)) : Q_is_between (runFd C (t_is_between c0)) := by
  intro d a b st h
  tm_at "run"
  have h1 := h0 d st h
  cases d <;> first | (cases h; done) | (simp [t_is_between, h1, isInt, betw, finQ_eq]; done) | skip
  case int i =>
    simp [t_is_between, h1, isInt, finQ_eq]
    by_cases h2 : a ≤ i <;> simp [h2, finQ_eq]
def Q_is_tuple_of (F : Fun) : Prop := ∀ (d : D) (k : Int) (st : Sto), d.pl = true → F [d, .int k] st = .ok (.bl (match d with | .tup xs => decide ((xs.length : Int) = k) | _ => false)) st
theorem ok_is_tuple_of {C : Cs} : Q_is_tuple_of (runFd C t_is_tuple_of) := by
  intro d k st h
  tm_at "run"
  simp only [pl_eq] at h
  cases d <;> first | (cases h; done) | (simp [t_is_tuple_of, isaD, h, finQ_eq]; done)
def Q_is_row (F : Fun) : Prop := ∀ (d : D) (a b : Int) (st : Sto), d.pl = true → F [d, .int a, .int b] st = .ok (.bl (match d with | .tup xs => decide (a ≤ (xs.length : Int)) && decide ((xs.length : Int) ≤ b) | _ => false)) st
theorem ok_is_row {C : Cs} : Q_is_row (runFd C t_is_row) := by
  intro d a b st h
  tm_at "run"
  simp only [pl_eq] at h
  cases d <;> first | (cases h; done) | (simp [t_is_row, isaD, h, finQ_eq]; done) | skip
  case tup xs =>
    simp [t_is_row, isaD, h, finQ_eq]
    by_cases h2 : a ≤ (xs.length : Int) <;> simp [h2, finQ_eq]

/-! values that are plain, and of some size -/
def D.gd : Nat → D → Bool
  | _, .non => true | _, .bl _ => true | _, .int _ => true | _, .str x => decide (x.length ≤ 100000)
  | n + 1, .tup xs => decide (xs.length ≤ 100000) && xs.all (D.gd n) | n + 1, .lst xs => decide (xs.length ≤ 100000) && xs.all (D.gd n)
  | _, _ => false
@[simp] theorem gd_non (n : Nat) : D.gd n .non = true := by cases n <;> rfl
@[simp] theorem gd_bl (n : Nat) (b : Bool) : D.gd n (.bl b) = true := by cases n <;> rfl
@[simp] theorem gd_int (n : Nat) (i : Int) : D.gd n (.int i) = true := by cases n <;> rfl
@[simp] theorem gd_str (n : Nat) (x : Str) : D.gd n (.str x) = decide (x.length ≤ 100000) := by cases n <;> rfl
@[simp] theorem gd_tup (n : Nat) (xs : List D) : D.gd (n + 1) (.tup xs) = (decide (xs.length ≤ 100000) && xs.all (D.gd n)) := id rfl
@[simp] theorem gd_lst (n : Nat) (xs : List D) : D.gd (n + 1) (.lst xs) = (decide (xs.length ≤ 100000) && xs.all (D.gd n)) := id rfl
theorem pl_of_gd : ∀ {n : Nat} {d : D}, D.gd n d = true → D.plN n d = true := by
  intro n
  induction n with
  | zero => intro d h; cases d <;> first | rfl | cases h
  | succ n ih =>
    intro d h
    cases d with
    | tup xs =>
      simp only [gd_tup, plN_tup, Bool.and_eq_true, List.all_eq_true] at h ⊢
      exact fun x hx => ih (h.2 x hx)
    | lst xs =>
      simp only [gd_lst, plN_lst, Bool.and_eq_true, List.all_eq_true] at h ⊢
      exact fun x hx => ih (h.2 x hx)
    | ref n => cases h
    | fn n => cases h
    | clo n l => cases h
    | dct k xs => cases h
    | _ => rfl
theorem gd_mono : ∀ {n : Nat} {d : D}, D.gd n d = true → D.gd (n + 1) d = true := by
  intro n
  induction n with
  | zero => intro d h; cases d <;> first | rfl | cases h | exact h
  | succ n ih =>
    intro d h
    cases d with
    | tup xs =>
      simp only [gd_tup, Bool.and_eq_true, List.all_eq_true] at h ⊢
      exact ⟨h.1, fun x hx => ih (h.2 x hx)⟩
    | lst xs =>
      simp only [gd_lst, Bool.and_eq_true, List.all_eq_true] at h ⊢
      exact ⟨h.1, fun x hx => ih (h.2 x hx)⟩
    | ref n => cases h
    | fn n => cases h
    | clo n l => cases h
    | dct k xs => cases h
    | _ => exact h
/-- a value that may come from anywhere -/
abbrev D.ok (d : D) : Prop := D.gd 30 d = true
theorem D.ok.gd40 {d : D} (h : d.ok) : D.gd 40 d = true := gd_mono (gd_mono (gd_mono (gd_mono (gd_mono (gd_mono (gd_mono (gd_mono (gd_mono (gd_mono h)))))))))
theorem D.ok.pl {d : D} (h : d.ok) : d.pl = true := pl_of_gd h.gd40
theorem D.ok.nr {d : D} (h : d.ok) : d.nr = true := nr_of_plN h.pl
theorem D.ok.mem {xs : List D} (h : D.ok (.tup xs)) {x : D} (hx : x ∈ xs) : x.ok := by
  simp only [D.ok, gd_tup, Bool.and_eq_true, List.all_eq_true] at h
  exact gd_mono (h.2 x hx)
theorem D.ok.len {xs : List D} (h : D.ok (.tup xs)) : xs.length ≤ 100000 := by
  simp only [D.ok, gd_tup, Bool.and_eq_true, decide_eq_true_eq] at h
  exact h.1
theorem ok_W {w : List Int} (h : w.length ≤ 100000) : D.ok (W w) := by rw [D.ok, ← tup_int1, gd_tup]; simp [h]
theorem ok_int (i : Int) : D.ok (.int i) := by simp [D.ok]

/-! lots, laws, books, words: of any plain value -/
def ascD : List D → Bool
  | .int a :: .int b :: r => decide (a < b) && ascD (.int b :: r)
  | _ => true
def isLotD (m : Int) : D → Bool
  | .tup xs => !xs.isEmpty && xs.all (betw 0 m) && ascD xs
  | _ => false
def isLawD (s : Int) : D → Bool
  | .tup [a, b, c, d] => isLotD (s - 1) a && betw 0 (s - 1) b && !(inD b ((litems a).getD [])) && isLotD s c && isLotD s d
  | _ => false
def isBookD (s : Int) : D → Bool
  | .tup xs => decide (xs.length ≤ 3) && xs.all (isLawD s)
  | _ => false
def isWordD (s : Int) : D → Bool
  | .tup xs => decide (1 ≤ xs.length) && decide (xs.length ≤ 7) && xs.all (betw 0 (s - 1))
  | _ => false
theorem ints_of {m n : Int} : ∀ {xs : List D}, xs.all (betw m n) = true → ∃ w : List Int, xs = w.map .int
  | [], _ => ⟨[], rfl⟩
  | x :: xs, h => by
    simp only [List.all_cons, Bool.and_eq_true] at h
    obtain ⟨w, rfl⟩ := ints_of h.2
    cases x <;> first | (exact ⟨_ :: w, rfl⟩) | (exact absurd h.1 (by simp [betw]))
theorem asc_zip : ∀ w : List Int, ((w.zip w.tail).all fun p => decide (p.1 < p.2)) = ascD (w.map .int)
  | [] => rfl
  | [_] => rfl
  | a :: b :: r => by
    have := asc_zip (b :: r)
    simp only [List.map_cons, List.tail_cons, List.zip_cons_cons, List.all_cons, ascD] at this ⊢
    rw [this]
def Q_is_sound (F : Fun) : Prop := ∀ (s : Int) (d : D) (st : Sto), d.pl = true → F [.int s, d] st = .ok (.bl (betw 0 (s - 1) d)) st
theorem ok_is_sound {C : Cs} {c0 : Nat} (h0 : Q_is_between (C.fn c0)) : Q_is_sound (runFd C (t_is_sound c0)) := by
  intro s d st h
  tm_at "run"
  simp [t_is_sound, h0 d _ _ st h, finQ_eq]
def Q_is_sounds (F : Fun) : Prop := ∀ (d : D) (st : Sto), d.pl = true → F [d] st = .ok (.bl (betw 2 3 d)) st
theorem ok_is_sounds {C : Cs} {c0 : Nat} (h0 : Q_is_between (C.fn c0)) : Q_is_sounds (runFd C (t_is_sounds c0)) := by
  intro d st h
  tm_at "run"
  simp [t_is_sounds, h0 d _ _ st h, finQ_eq]
def Q_is_lot (F : Fun) : Prop := ∀ (m : Int) (d : D) (st : Sto), d.ok → F [.int m, d] st = .ok (.bl (isLotD m d)) st
theorem ok_is_lot {C : Cs} {c0 : Nat} (h0 : Q_is_between (C.fn c0)) : Q_is_lot (runFd C (t_is_lot c0)) := by
  intro m d st h
  tm_at "run"
  have hp := h.pl
  cases d <;> first | (cases h; done) | (simp [t_is_lot, isaD, isLotD, finQ_eq]; done) | (simp only [pl_eq] at hp; simp [t_is_lot, isaD, hp, isLotD, finQ_eq]; done) | skip
  case tup xs =>
    have hl := h.len
    simp only [pl_eq] at hp
    simp [t_is_lot, isaD, hp, -loopM_cons]
    by_cases hx : xs = []
    · subst hx; simp [isLotD, finQ_eq]
    · simp [hx, tru_wp]
      refine wp_map (fun x => .bl (betw 0 m x)) (fun x hx => ?_) ?_
      · simp [h0 x 0 m st (h.mem hx).pl]
      · rw [mkLs_f (line_of (by simp; omega))]
        simp
        by_cases ha : xs.all (betw 0 m) = true
        · obtain ⟨w, rfl⟩ := ints_of ha
          have hw := asc_zip w
          simp [ha]
          refine wp_map (fun p => .bl (decide (p.1 < p.2))) (fun p hp => ?_) ?_
          · simp
          · have hz : (w.zip (cutL w (some 1) none)).length ≤ 100000 := by
              simp at hl
              simp [List.length_zip]; omega
            rw [mkLs_f (line_of (by simp at hz ⊢; omega))]
            simp [cutL_from, isLotD, ← tup_int1, ← hw, ha, finQ_eq]
            intro _; simpa using hx
        · simp [ha, isLotD, finQ_eq]
theorem ok_tup {xs : List D} (h : xs.length ≤ 100000) (h2 : ∀ x ∈ xs, D.gd 29 x = true) : D.ok (.tup xs) := by
  simp only [D.ok, gd_tup, Bool.and_eq_true, List.all_eq_true, decide_eq_true_eq]
  exact ⟨h, h2⟩
def Q_is_law (F : Fun) : Prop := ∀ (s : Int) (d : D) (st : Sto), d.ok → F [.int s, d] st = .ok (.bl (isLawD s d)) st
theorem isLotD_items {m : Int} {d : D} (h : isLotD m d = true) : ∃ w : List Int, d = W w := by
  cases d <;> first | (cases h; done) | skip
  case tup xs =>
    simp only [isLotD, Bool.and_eq_true] at h
    obtain ⟨w, rfl⟩ := ints_of h.1.2
    exact ⟨w, rfl⟩
theorem ok_is_law {C : Cs} {c0 c1 c2 : Nat} (h0 : Q_is_tuple_of (C.fn c0)) (h1 : Q_is_lot (C.fn c1)) (h2 : Q_is_sound (C.fn c2)) : Q_is_law (runFd C (t_is_law c0 c1 c2)) := by
  intro s d st h
  tm_at "run"
  have e0 := h0 d 4 st h.pl
  cases d with
  | tup xs =>
    by_cases hl : xs.length = 4
    · match xs, hl with
      | [a, b, c, d], _ =>
        have ma := h.mem (x := a) (by simp)
        have mb := h.mem (x := b) (by simp)
        have mc := h.mem (x := c) (by simp)
        have md := h.mem (x := d) (by simp)
        simp at e0
        have q1 := fun st => h1 (s - 1) a st ma
        have q2 := fun st => h1 s c st mc
        have q3 := fun st => h1 s d st md
        have q4 := fun st => h2 s b st mb.pl
        simp [t_is_law, e0, q1]
        cases ha : isLotD (s - 1) a with
        | false => simp [isLawD, ha, finQ_eq]
        | true =>
          simp [q4]
          cases hb : betw 0 (s - 1) b with
          | false => simp [isLawD, ha, hb, finQ_eq]
          | true =>
            obtain ⟨w, rfl⟩ := isLotD_items ha
            cases b with
            | int b =>
              have hi : inD (.int b) (w.map .int) = decide (b ∈ w) := inD_map _ eq_int _ _
              by_cases hm : b ∈ w
              · simp [isLawD, ha, hb, hm, hi, finQ_eq]
              · simp [isLawD, ha, hb, hm, hi, q2]
                cases hc : isLotD s c <;> simp [isLawD, ha, hb, hm, hi, hc, q3, finQ_eq]
            | _ => cases hb
    · have e : isLawD s (.tup xs) = false := by
        unfold isLawD
        split
        · rename_i e; cases e; exact absurd rfl hl
        · rfl
      have hl' : ¬ (xs.length : Int) = 4 := by omega
      simp [hl'] at e0
      simp [t_is_law, e0, e, finQ_eq]
  | ref n => cases h
  | fn n => cases h
  | clo n l => cases h
  | _ => simp [t_is_law, e0, isLawD, finQ_eq]
/-! the first wrong one of a tuple -/
def fwD (r : Nat → D → Bool) : Nat → List D → D
  | _, [] => .non
  | k, x :: xs => if r k x then fwD r (k + 1) xs else .int k
def Q_first_wrong (C : Cs) (F : Fun) : Prop := ∀ (xs : List D) (l : Nat) (cs : List Nat) (st : Sto) (r : Nat → D → Bool), xs.length ≤ 100000 →
  (∀ i x, xs[i]? = some x → C.clo l cs [x, .tup (xs.take i)] st = .ok (.bl (r i x)) st) → F [.tup xs, .clo l cs] st = .ok (fwD r 0 xs) st
theorem fw_loop {C : Cs} {ys : List D} {l : Nat} {cs : List Nat} {st : Sto} {r : Nat → D → Bool} {bx : List Nat} {bs : Nat} (hh : ∀ i x, ys[i]? = some x → C.clo l cs [x, .tup (ys.take i)] st = .ok (.bl (r i x)) st) :
    ∀ (xs : List D) (k : Nat) (o o2 : Option D), ys.drop k = xs →
    (forM (forB C (.tup [2, 3]) (.cons (.iff (.not (.vcall (.var 1) (.cons (.var 3) (.cons (.sl (.var 0) .none (.some (.var 2))) .nil)))) (.cons (.ret (.var 2)) .nil) .nil) .nil)) (enumT k xs) ⟨[some (.tup ys), some (.clo l cs), o, o2], bx, bs⟩ st).wp (fun ρ st' => (∃ o o2, ρ = ⟨[some (.tup ys), some (.clo l cs), o, o2], bx, bs⟩) ∧ st' = st ∧ fwD r k xs = .non) (fun d st' => d = fwD r k xs ∧ st' = st)
  | [], k, o, o2, _ => by simp [enumT, fwD]
  | x :: xs, k, o, o2, hd => by
    have hx : ys[k]? = some x := by
      have := congrArg (fun l => l[0]?) hd
      simpa [List.getElem?_drop] using this
    have hd' : ys.drop (k + 1) = xs := by rw [← List.tail_drop, hd]; rfl
    have e := hh k x hx
    have c : cutL ys none (some (k : Int)) = ys.take k := by rw [cutL_to _ _ (by omega)]; simp
    by_cases hr : r k x = true
    · have e2 : fwD r k (x :: xs) = fwD r (k + 1) xs := by simp [fwD, hr]
      rw [e2]
      simp [enumT, slD, c, e, hr]
      exact fw_loop hh xs (k + 1) _ _ hd'
    · simp only [Bool.not_eq_true] at hr
      simp [enumT, slD, c, e, hr, fwD]
theorem fwD_nr (r : Nat → D → Bool) : ∀ (xs : List D) (k : Nat), (fwD r k xs).nr = true
  | [], _ => rfl
  | x :: xs, k => by unfold fwD; split; exact fwD_nr r xs _; rfl
theorem ok_first_wrong {C : Cs} : Q_first_wrong C (runFd C t_first_wrong) := by
  intro xs l cs st r hl hr
  tm_at "run"
  simp [t_first_wrong]
  refine Fl.wp_mono (fw_loop hr xs 0 none none rfl) ?_ ?_
  · rintro ρ st' ⟨⟨o, o2, rfl⟩, rfl, h⟩
    simp [h, finQ_eq]
  · rintro d st' ⟨rfl, rfl⟩
    simp [finQ_eq, fwD_nr]
def Q_wrong_law (F : Fun) : Prop := ∀ (s : Int) (xs : List D) (st : Sto), D.ok (.tup xs) → F [.int s, .tup xs] st = .ok (fwD (fun _ => isLawD s) 0 xs) st
theorem ok_k_wrong_law {C : Cs} {c0 : Nat} (h0 : Q_is_law (C.fn c0)) (s : Int) (x y : D) (st : Sto) (n : Nat) (hn : lkV st n = some (.int s)) (hx : x.ok) : runLm C (k_wrong_law c0) [n] [x, y] st = .ok (.bl (isLawD s x)) st := by
  refine Res.eq_of_wp (runL_wp rfl ?_)
  simp [k_wrong_law, hn, h0 s x st hx, finQ_eq]
theorem ok_wrong_law {C : Cs} {c0 c1 : Nat} (C' : Cs) (h0 : Q_first_wrong C' (C.fn c0)) (hc : ∀ (s : Int) (x y : D) (st : Sto) (n : Nat), lkV st n = some (.int s) → x.ok → C'.clo c1 [n] [x, y] st = .ok (.bl (isLawD s x)) st) : Q_wrong_law (runFd C (t_wrong_law c0 c1)) := by
  intro s xs st h
  tm_at "run"
  simp [t_wrong_law]
  rw [h0 xs c1 [st.length] _ (fun _ => isLawD s) h.len (fun i x hx => hc s x _ _ _ (by simp [lkV]) (h.mem (List.mem_of_getElem? hx)))]
  simp [finQ_eq, fwD_nr]
theorem fwD_all (p : D → Bool) : ∀ (xs : List D) (k : Nat), isNone (fwD (fun _ => p) k xs) = xs.all p
  | [], _ => rfl
  | x :: xs, k => by
    unfold fwD
    cases h : p x with
    | true => simp [h, fwD_all p xs (k + 1)]
    | false => simp [h]
def Q_check_book (F : Fun) : Prop := ∀ (s : Int) (d : D) (st : Sto), d.ok → isBookD s d = true → F [.int s, d] st = .ok .non st
theorem ok_check_book {C : Cs} {c0 c1 : Nat} (h0 : Q_is_row (C.fn c0)) (h1 : Q_wrong_law (C.fn c1)) : Q_check_book (runFd C (t_check_book c0 c1)) := by
  intro s d st h hb
  tm_at "run"
  cases d <;> first | (cases hb; done) | skip
  case tup xs =>
    simp only [isBookD, Bool.and_eq_true, decide_eq_true_eq] at hb
    have e0 := h0 _ 0 3 st h.pl
    have hl : (xs.length : Int) ≤ 3 := by omega
    simp [hl] at e0
    have hn := fwD_all (isLawD s) xs 0
    rw [hb.2] at hn
    have hn : fwD (fun _ => isLawD s) 0 xs = .non := by
      revert hn; cases fwD (fun _ => isLawD s) 0 xs <;> simp [isNone]
    simp [t_check_book, e0, h1 s xs st h, hn, finQ_eq]
def Q_check_sounds (F : Fun) : Prop := ∀ (s : Int) (st : Sto), 2 ≤ s → s ≤ 3 → F [.int s] st = .ok .non st
theorem ok_check_sounds {C : Cs} {c0 : Nat} (h0 : Q_is_sounds (C.fn c0)) : Q_check_sounds (runFd C (t_check_sounds c0)) := by
  intro s st h1 h2
  tm_at "run"
  simp [t_check_sounds, h0 (.int s) st rfl, h1, h2, finQ_eq]
def Q_check_booked (F : Fun) : Prop := ∀ (s : Int) (d : D) (st : Sto), 2 ≤ s → s ≤ 3 → d.ok → isBookD s d = true → F [.int s, d] st = .ok .non st
theorem ok_check_booked {C : Cs} {c0 c1 : Nat} (h0 : Q_check_sounds (C.fn c0)) (h1 : Q_check_book (C.fn c1)) : Q_check_booked (runFd C (t_check_booked c0 c1)) := by
  intro s d st hs hs2 h hb
  tm_at "run"
  simp [t_check_booked, h0 s _ hs hs2, h1 s d _ h hb, finQ_eq]
def Q_is_word (F : Fun) : Prop := ∀ (s : Int) (d : D) (st : Sto), d.ok → F [.int s, d] st = .ok (.bl (isWordD s d)) st
theorem ok_is_word {C : Cs} {c0 c1 : Nat} (h0 : Q_is_row (C.fn c0)) (h1 : Q_is_sound (C.fn c1)) : Q_is_word (runFd C (t_is_word c0 c1)) := by
  intro s d st h
  tm_at "run"
  have e0 := h0 d 1 7 st h.pl
  cases d with
  | tup xs =>
    have hl := h.len
    have c1 : (1 : Int) ≤ (xs.length : Int) ↔ 1 ≤ xs.length := by omega
    have c2 : (xs.length : Int) ≤ 7 ↔ xs.length ≤ 7 := by omega
    simp only [c1, c2] at e0
    simp [t_is_word, e0, isWordD]
    by_cases hw : 1 ≤ xs.length ∧ xs.length ≤ 7
    · simp [hw, -loopM_cons]
      refine wp_map (fun x => .bl (betw 0 (s - 1) x)) (fun x hx => ?_) ?_
      · simp [h1 s x st (h.mem hx).pl]
      · rw [mkLs_f (line_of (by simp; omega))]
        simp [finQ_eq, hw]
    · have : (decide (1 ≤ xs.length) && decide (xs.length ≤ 7)) = false := by simpa using hw
      simp [this, finQ_eq]
  | ref n => cases h
  | fn n => cases h
  | clo n l => cases h
  | _ => simp [t_is_word, e0, isWordD, finQ_eq]
def Q_check_word (F : Fun) : Prop := ∀ (s : Int) (d : D) (st : Sto), d.ok → isWordD s d = true → F [.int s, d] st = .ok .non st
theorem ok_check_word {C : Cs} {c0 : Nat} (h0 : Q_is_word (C.fn c0)) : Q_check_word (runFd C (t_check_word c0)) := by
  intro s d st h hb
  tm_at "run"
  simp [t_check_word, h0 s d st h, hb, finQ_eq]
end Y
end
section
set_option maxRecDepth 100000
set_option Elab.async false
set_option linter.all false
namespace Y
open PySem
local macro_rules | `(tactic| tm_at "run") => `(tactic| refine Res.eq_of_wp (run_wp rfl ?_))
/-! ### what stands for laws, books, words: typed -/
def asc : List Int → Bool
  | a :: b :: r => decide (a < b) && asc (b :: r)
  | _ => true
def okLot (m : Int) (w : List Int) : Bool := !w.isEmpty && w.all (fun i => decide (0 ≤ i) && decide (i ≤ m)) && asc w
def okLaw (s : Int) (c : Lw) : Bool := okLot (s - 1) c.fr && (decide (0 ≤ c.to) && decide (c.to ≤ s - 1)) && !decide (c.to ∈ c.fr) && okLot s c.ah && okLot s c.be
def okBook (s : Int) (b : List Lw) : Bool := decide (b.length ≤ 3) && b.all (okLaw s)
def okWord (s : Int) (w : List Int) : Bool := decide (1 ≤ w.length) && decide (w.length ≤ 7) && w.all (fun i => decide (0 ≤ i) && decide (i ≤ s - 1))
theorem asc_D : ∀ w : List Int, ascD (w.map .int) = asc w
  | [] => rfl
  | [_] => rfl
  | a :: b :: r => by
    have := asc_D (b :: r)
    simp only [List.map_cons, ascD, asc] at this ⊢
    rw [this]
@[simp] theorem isLotD_W (m : Int) (w : List Int) : isLotD m (W w) = okLot m w := by
  rw [← tup_int1]
  simp [isLotD, okLot, asc_D, List.all_map, Function.comp_def]
@[simp] theorem isLawD_L (s : Int) (c : Lw) : isLawD s (L c) = okLaw s c := by
  have hi : inD (.int c.to) (c.fr.map .int) = decide (c.to ∈ c.fr) := inD_map _ eq_int _ _
  unfold L
  simp [isLawD, okLaw, hi]
@[simp] theorem isBookD_B (s : Int) (b : List Lw) : isBookD s (B b) = okBook s b := by
  rw [← tup_L1]
  simp [isBookD, okBook, List.all_map, Function.comp_def]
@[simp] theorem isWordD_W (s : Int) (w : List Int) : isWordD s (W w) = okWord s w := by
  rw [← tup_int1]
  simp [isWordD, okWord, List.all_map, Function.comp_def]
theorem asc_len : ∀ (w : List Int) (a : Int), asc w = true → (∀ i ∈ w, a ≤ i) → ∀ m : Int, (∀ i ∈ w, i ≤ m) → (w.length : Int) ≤ max 0 (m - a + 1)
  | [], _, _, _, _, _ => by simp; omega
  | [x], a, _, h1, m, h2 => by
    have := h1 x (by simp); have := h2 x (by simp); simp; omega
  | x :: y :: r, a, h, h1, m, h2 => by
    simp only [asc, Bool.and_eq_true, decide_eq_true_eq] at h
    have hx := h1 x (by simp)
    have hm := h2 y (by simp)
    have lo : ∀ i ∈ y :: r, y ≤ i := by
      clear h1 h2 hx hm
      have h := h.2
      intro i hi
      induction r generalizing y with
      | nil => simp at hi; omega
      | cons z r ih =>
        simp only [asc, Bool.and_eq_true, decide_eq_true_eq] at h
        rcases List.mem_cons.mp hi with rfl | hi
        · exact Int.le_refl _
        · have := ih z ⟨by omega, h.2⟩ h.2 hi
          omega
    have := asc_len (y :: r) y h.2 lo m (fun i hi => h2 i (List.mem_cons_of_mem _ hi))
    simp only [List.length_cons] at this ⊢
    omega
theorem okLot_len {m : Int} {w : List Int} (h : okLot m w = true) : (w.length : Int) ≤ max 0 (m + 1) := by
  simp only [okLot, Bool.and_eq_true, List.all_eq_true, decide_eq_true_eq] at h
  have := asc_len w 0 h.2 (fun i hi => (h.1.2 i hi).1) m (fun i hi => (h.1.2 i hi).2)
  omega
theorem ok_of_W {w : List Int} (h : w.length ≤ 100000) (n : Nat) : D.gd (n + 1) (W w) = true := by
  rw [← tup_int1, gd_tup]; simp [h]
theorem gd_L {s : Int} {c : Lw} (hs : s ≤ 3) (h : okLaw s c = true) (n : Nat) : D.gd (n + 2) (L c) = true := by
  simp only [okLaw, Bool.and_eq_true] at h
  have a := okLot_len h.1.1.1.1
  have b := okLot_len h.1.2
  have d := okLot_len h.2
  unfold L
  rw [gd_tup]
  simp [ok_of_W (w := c.fr) (by omega), ok_of_W (w := c.ah) (by omega), ok_of_W (w := c.be) (by omega)]
theorem ok_L {s : Int} {c : Lw} (hs : s ≤ 3) (h : okLaw s c = true) : D.ok (L c) := gd_L hs h 28
theorem ok_B {s : Int} {b : List Lw} (hs : s ≤ 3) (h : okBook s b = true) : D.ok (B b) := by
  simp only [okBook, Bool.and_eq_true, List.all_eq_true, decide_eq_true_eq] at h
  rw [D.ok, ← tup_L1, gd_tup]
  simp only [List.length_map, Bool.and_eq_true, decide_eq_true_eq, List.all_eq_true, List.mem_map]
  exact ⟨by omega, by rintro x ⟨c, hc, rfl⟩; exact gd_L hs (h.2 c hc) 27⟩
theorem ok_word {s : Int} {w : List Int} (h : okWord s w = true) : D.ok (W w) := by
  simp only [okWord, Bool.and_eq_true, decide_eq_true_eq] at h
  exact ok_W (by omega)
/-! ### words -/
def wds (s : Int) : Nat → List (List Int)
  | 0 => [[]]
  | n + 1 => (wds s n).flatMap fun w => (List.range s.toNat).map fun (k : Nat) => w ++ [(k : Int)]
def Q_words_by (F : Fun) : Prop := ∀ (s : Int) (n : Nat) (st : Sto), 0 ≤ s → s ≤ 3 → n ≤ 9 → F [.int s, .int n] st = .ok (LW (wds s n)) st
theorem wds_len (s : Int) (n : Nat) : (wds s n).length = s.toNat ^ n := by
  induction n with
  | zero => simp [wds]
  | succ n ih => simp [wds, List.length_flatMap, List.map_const', ih, Nat.pow_succ, Nat.mul_comm]
theorem mem_wds_len {s : Int} {n : Nat} {w : List Int} (h : w ∈ wds s n) : w.length = n := by
  induction n generalizing w with
  | zero => simp [wds] at h; simp [h]
  | succ n ih =>
    simp only [wds, List.mem_flatMap, List.mem_map] at h
    obtain ⟨v, hv, k, _, rfl⟩ := h
    simp [ih hv]
theorem ok_words_by {C : Cs} : Q_words_by (runFd C t_words_by) := by
  intro s n st hs hs2 hn
  tm_at "run"
  have h1 : i62 (n : Int) = true := i62_of (by omega) (by omega)
  have h2 : i62 s = true := i62_of (by omega) (by omega)
  have hb : ∀ k, k ≤ n → (wds s k).length * s.toNat ≤ 59049 := fun k hk => by
    rw [wds_len, ← Nat.pow_succ]
    calc s.toNat ^ (k + 1) ≤ 3 ^ (k + 1) := Nat.pow_le_pow_left (by omega) _
      _ ≤ 3 ^ 10 := Nat.pow_le_pow_right (by omega) (by omega)
      _ = 59049 := by decide
  simp [t_words_by, h1]
  refine forM_ind (fun k ρ st' => st' = st ∧ ∃ o3 o4 o5, ρ = ⟨[some (.int s), some (.int n), some (LW (wds s k)), o3, o4, o5], [], st.length⟩) ⟨rfl, none, none, none, rfl⟩ ?_ ?_
  · rintro k x ρ st' hx ⟨rfl, o3, o4, o5, rfl⟩
    simp
    obtain ⟨hk, rfl⟩ := range_get hx
    have hk2 := hb x (by omega)
    refine wp_pure (fun w => (List.range s.toNat).map fun (j : Nat) => W (w ++ [(j : Int)])) (fun w hw => ?_) ?_
    · refine Res.eq_of_wp ?_
      simp [h2]
      refine wp_map (fun (j : Nat) => W (w ++ [(j : Int)])) (fun j hj => ?_) ⟨rfl, rfl⟩
      have := mem_wds_len hw
      simp [line_of (show w.length + 1 ≤ 16777216 by omega)]
    · rw [mkLs_f (line_of (by simp [List.length_flatMap, List.map_const']; omega))]
      simp [wds]
      rw [← lst_W1]; simp only [List.map_flatMap, List.map_map, Function.comp_def]
  · rintro ρ st' ⟨rfl, o3, o4, o5, rfl⟩
    simp [finQ_eq]
/-! ### what becomes of a word -/
def aheadOf (s : Int) (w : List Int) (p : Nat) : Int := if p = 0 then s else gi w (p - 1)
def behindOf (s : Int) (w : List Int) (p : Nat) : Int := if p + 1 < w.length then gi w (p + 1) else s
def actsAt (s : Int) (c : Lw) (w : List Int) (p : Nat) : Bool := decide (gi w p ∈ c.fr) && decide (aheadOf s w p ∈ c.ah) && decide (behindOf s w p ∈ c.be)
def actsOf (s : Int) (c : Lw) (w : List Int) : List Nat := (List.range w.length).filter (actsAt s c w)
def work (s : Int) (c : Lw) (w : List Int) : List Int := (List.range w.length).map fun p => if actsAt s c w p then c.to else gi w p
def doneB (s : Int) : List Lw → List Int → List Int
  | [], w => w
  | c :: b, w => doneB s b (work s c w)
@[simp] theorem work_len (s : Int) (c : Lw) (w : List Int) : (work s c w).length = w.length := by simp [work]
@[simp] theorem doneB_len (s : Int) (b : List Lw) (w : List Int) : (doneB s b w).length = w.length := by
  induction b generalizing w with
  | nil => rfl
  | cons c b ih => simp [doneB, ih]
theorem doneB_append (s : Int) (a b : List Lw) (w : List Int) : doneB s (a ++ b) w = doneB s b (doneB s a w) := by
  induction a generalizing w with
  | nil => rfl
  | cons c a ih => exact ih _
def Q_around (F : Fun) : Prop := ∀ (s : Int) (w : List Int) (p : Nat) (st : Sto), p < w.length → F [.int s, W w, .int p] st = .ok (.tup [.int (aheadOf s w p), .int (behindOf s w p)]) st
theorem ok_around {C : Cs} : Q_around (runFd C t_around) := by
  intro s w p st hp
  tm_at "run"
  simp [t_around]
  cases p with
  | zero =>
    simp [aheadOf, behindOf]
    by_cases h1 : (1 : Int) < (w.length : Int)
    · have e : idxD (W w) (.int 1) = some (.int (gi w 1)) := idx_Wn (p := 1) (by omega)
      have h2 : 1 < w.length := by omega
      simp [h1, e, h2, finQ_eq]
    · have h2 : ¬ 1 < w.length := by omega
      simp [h1, h2, finQ_eq]
  | succ q =>
    have e0 : ((q : Int) + 1 - 1) = (q : Int) := by omega
    simp [aheadOf, behindOf, e0, idx_Wn (show q < w.length by omega)]
    by_cases h1 : (q : Int) + 1 < (w.length : Int) - 1
    · have e : idxD (W w) (.int ((q : Int) + 1 + 1)) = some (.int (gi w (q + 1 + 1))) := idx_Wn (p := q + 1 + 1) (by omega)
      have h2 : q + 1 + 1 < w.length := by omega
      simp [h1, e, h2, finQ_eq]
    · have h2 : ¬ q + 1 + 1 < w.length := by omega
      simp [h1, h2, finQ_eq]
def Q_does_act (F : Fun) : Prop := ∀ (s : Int) (c : Lw) (w : List Int) (p : Nat) (st : Sto), p < w.length → F [.int s, L c, W w, .int p] st = .ok (.bl (actsAt s c w p)) st
theorem ok_does_act {C : Cs} {c0 : Nat} (h0 : Q_around (C.fn c0)) : Q_does_act (runFd C (t_does_act c0)) := by
  intro s c w p st hp
  tm_at "run"
  simp [t_does_act, h0 s w p st hp, idx_Wn hp, actsAt]
  by_cases h1 : gi w p ∈ c.fr
  · by_cases h2 : aheadOf s w p ∈ c.ah
    · simp [h1, h2, finQ_eq]
    · simp [h1, h2, finQ_eq]
  · simp [h1, finQ_eq]
def Q_acts_by (F : Fun) : Prop := ∀ (s : Int) (c : Lw) (w : List Int) (st : Sto), w.length ≤ 100000 → F [.int s, L c, W w] st = .ok (LI ((actsOf s c w).map Nat.cast)) st
theorem ok_acts_by {C : Cs} {c0 : Nat} (h0 : Q_does_act (C.fn c0)) : Q_acts_by (runFd C (t_acts_by c0)) := by
  intro s c w st hw
  tm_at "run"
  have h1 : i62 (w.length : Int) = true := i62_of (by omega) (by omega)
  simp [t_acts_by, h1]
  refine wp_filter (actsAt s c w) (fun p => .int (p : Int)) (fun p hp => ?_) ?_
  · simp at hp
    simp [h0 s c w p st hp]
    cases actsAt s c w p <;> simp
  · have := List.length_filter_le (actsAt s c w) (List.range w.length)
    rw [mkLs_f (line_of (by simp at this ⊢; omega))]
    simp [actsOf, finQ_eq]
def Q_work_by (F : Fun) : Prop := ∀ (s : Int) (c : Lw) (w : List Int) (st : Sto), w.length ≤ 100000 → F [.int s, L c, W w] st = .ok (W (work s c w)) st
theorem ok_work_by {C : Cs} {c0 : Nat} (h0 : Q_acts_by (C.fn c0)) : Q_work_by (runFd C (t_work_by c0)) := by
  intro s c w st hw
  tm_at "run"
  simp [t_work_by, h0 s c w st hw, enumT_W]
  refine wp_map (fun p => .int (if actsAt s c w p then c.to else gi w p)) (fun p hp => ?_) ?_
  · simp at hp
    have key : decide ((p : Int) ∈ (actsOf s c w).map Nat.cast) = actsAt s c w p := by
      rw [Bool.eq_iff_iff, decide_eq_true_iff, List.mem_map]
      refine ⟨fun ⟨a, ha, e⟩ => ?_, fun h => ⟨p, ?_, rfl⟩⟩
      · have e : a = p := Int.ofNat.inj e
        subst e
        exact (List.mem_filter.mp ha).2
      · exact List.mem_filter.mpr ⟨List.mem_range.mpr hp, h⟩
    simp [-List.mem_map, key]
    cases actsAt s c w p <;> simp
  · rw [mkLs_f (line_of (by simp; omega))]
    simp [work, finQ_eq]
def Q_done_by (F : Fun) : Prop := ∀ (s : Int) (b : List Lw) (w : List Int) (st : Sto), w.length ≤ 100000 → F [.int s, B b, W w] st = .ok (W (doneB s b w)) st
theorem ok_done_by {C : Cs} {c0 : Nat} (h0 : Q_work_by (C.fn c0)) : Q_done_by (runFd C (t_done_by c0)) := by
  intro s b w st hw
  tm_at "run"
  simp [t_done_by]
  refine forM_ind (fun k ρ st' => st' = st ∧ ∃ o, ρ = ⟨[some (.int s), some (B b), some (W w), some (W (doneB s (b.take k) w)), o], [], st.length⟩) ⟨rfl, none, by simp [doneB]⟩ ?_ ?_
  · rintro k c ρ st' hx ⟨rfl, o, rfl⟩
    have e : doneB s (b.take (k + 1)) w = work s c (doneB s (b.take k) w) := by
      rw [List.take_add_one, hx, doneB_append]; rfl
    simp [h0 s c (doneB s (b.take k) w) _ (by simp; omega), e]
  · rintro ρ st' ⟨rfl, o, rfl⟩
    simp [finQ_eq]
end Y
end
section
set_option maxRecDepth 100000
set_option Elab.async false
set_option linter.all false
namespace Y
open PySem
local macro_rules | `(tactic| tm_at "run") => `(tactic| refine Res.eq_of_wp (run_wp rfl ?_))
/-! ### sources -/
theorem wds_bound {s : Int} {n : Nat} (hs : s ≤ 3) (hn : n ≤ 10) : (wds s n).length ≤ 59049 := by
  rw [wds_len]
  calc s.toNat ^ n ≤ 3 ^ n := Nat.pow_le_pow_left (by omega) _
    _ ≤ 3 ^ 10 := Nat.pow_le_pow_right (by omega) (by omega)
    _ = 59049 := by decide
def srcs (s : Int) (b : List Lw) (w : List Int) : List (List Int) := (wds s w.length).filter fun v => decide (doneB s b v = w)
def Q_sources_by (F : Fun) : Prop := ∀ (s : Int) (b : List Lw) (w : List Int) (st : Sto), 0 ≤ s → s ≤ 3 → w.length ≤ 9 → F [.int s, B b, W w] st = .ok (TW (srcs s b w)) st
theorem ok_sources_by {C : Cs} {c0 c1 : Nat} (h0 : Q_words_by (C.fn c0)) (h1 : Q_done_by (C.fn c1)) : Q_sources_by (runFd C (t_sources_by c0 c1)) := by
  intro s b w st hs hs2 hw
  tm_at "run"
  simp [t_sources_by, h0 s w.length st hs hs2 hw]
  refine wp_filter (fun v => decide (doneB s b v = w)) (fun v => W v) (fun v hv => ?_) ?_
  · have := mem_wds_len hv
    simp [h1 s b v st (by omega)]
    by_cases h : doneB s b v = w <;> simp [h]
  · have := List.length_filter_le (fun v => decide (doneB s b v = w)) (wds s w.length)
    have := wds_bound hs2 (show w.length ≤ 10 by omega)
    rw [mkLs_f (line_of (by simp at *; omega))]
    simp [srcs, finQ_eq]
def Q_check_sourced (F : Fun) : Prop := ∀ (s : Int) (d e : D) (st : Sto), 2 ≤ s → s ≤ 3 → d.ok → isBookD s d = true → e.ok → isWordD s e = true → F [.int s, d, e] st = .ok .non st
theorem ok_check_sourced {C : Cs} {c0 c1 : Nat} (h0 : Q_check_booked (C.fn c0)) (h1 : Q_check_word (C.fn c1)) : Q_check_sourced (runFd C (t_check_sourced c0 c1)) := by
  intro s d e st hs hs2 hd hb he hw
  tm_at "run"
  simp [t_check_sourced, h0 s d _ hs hs2 hd hb, h1 s e _ he hw, finQ_eq]
theorem okWord_len {s : Int} {w : List Int} (h : okWord s w = true) : 1 ≤ w.length ∧ w.length ≤ 7 := by
  simp only [okWord, Bool.and_eq_true, decide_eq_true_eq] at h
  exact h.1
def Q_sources (F : Fun) : Prop := ∀ (s : Int) (b : List Lw) (w : List Int) (st : Sto), 2 ≤ s → s ≤ 3 → okBook s b = true → okWord s w = true → F [.int s, B b, W w] st = .ok (TW (srcs s b w)) st
theorem ok_sources {C : Cs} {c0 c1 : Nat} (h0 : Q_check_sourced (C.fn c0)) (h1 : Q_sources_by (C.fn c1)) : Q_sources (runFd C (t_sources c0 c1)) := by
  intro s b w st hs hs2 hb hw
  tm_at "run"
  have := okWord_len hw
  simp [t_sources, h0 s _ _ _ hs hs2 (ok_B hs2 hb) (by simpa using hb) (ok_word hw) (by simpa using hw), h1 s b w _ (by omega) hs2 (by omega), finQ_eq]
/-! ### a pool of draws: three ints in the store -/
def pool (a b c : Int) : Cell := .lst [.int a, .int b, .int c]
def PoolAt (r : Nat) (st : Sto) : Prop := ∃ a b c, st[r]? = some (pool a b c)
/-- drawn from the pool at r alone -/
def Dr (r : Nat) (st st' : Sto) : Prop := PoolAt r st ∧ ∃ a b c, st' = st.set r (pool a b c)
theorem PoolAt.lt {r : Nat} {st : Sto} (h : PoolAt r st) : r < st.length := by
  obtain ⟨a, b, c, h⟩ := h
  exact (List.getElem?_eq_some_iff.mp h).1
theorem Dr.refl {r : Nat} {st : Sto} (h : PoolAt r st) : Dr r st st := by
  obtain ⟨a, b, c, e⟩ := h
  refine ⟨⟨a, b, c, e⟩, a, b, c, ?_⟩
  obtain ⟨h1, h2⟩ := List.getElem?_eq_some_iff.mp e
  rw [← h2, List.set_getElem_self]
theorem Dr.pool {r : Nat} {st st' : Sto} (h : Dr r st st') : PoolAt r st' := by
  obtain ⟨hp, a, b, c, rfl⟩ := h
  exact ⟨a, b, c, List.getElem?_set_self hp.lt⟩
theorem Dr.trans {r : Nat} {st st' st'' : Sto} (h : Dr r st st') (h2 : Dr r st' st'') : Dr r st st'' := by
  obtain ⟨hp, a, b, c, rfl⟩ := h
  obtain ⟨hp2, a2, b2, c2, rfl⟩ := h2
  exact ⟨hp, a2, b2, c2, by rw [List.set_set]⟩
theorem Dr.len {r : Nat} {st st' : Sto} (h : Dr r st st') : st'.length = st.length := by
  obtain ⟨hp, a, b, c, rfl⟩ := h
  simp
theorem Dr.take {r : Nat} {st st' : Sto} (h : Dr r st st') : st'.take st.length = st' := by
  rw [← h.len]; exact List.take_length
theorem Dr.other {r k : Nat} {st st' : Sto} (h : Dr r st st') (hk : k ≠ r) : st'[k]? = st[k]? := by
  obtain ⟨hp, a, b, c, rfl⟩ := h
  rw [List.getElem?_set_ne (by omega)]
theorem PoolAt.app {r : Nat} {st : Sto} (h : PoolAt r st) (x : Sto) : PoolAt r (st ++ x) := by
  obtain ⟨a, b, c, e⟩ := h
  exact ⟨a, b, c, by rw [List.getElem?_append_left (List.getElem?_eq_some_iff.mp e).1]; exact e⟩
def Q_take (F : Fun) : Prop := ∀ (r : Nat) (m : Int) (st : Sto), PoolAt r st → 0 < m → m < 1073741824 → (F [.ref r, .int m] st).wp fun d st' => (∃ v : Nat, d = .int v ∧ (v : Int) < m) ∧ Dr r st st'
theorem set3 (base n : Nat) (a b c x : Int) (st : Sto) (hn : st[n]? = some (pool a b c)) : setI base (.ref n) (.int 0) (.int x) st = .ok () (st.set n (pool x b c)) ∧ setI base (.ref n) (.int 1) (.int x) st = .ok () (st.set n (pool a x c)) ∧ setI base (.ref n) (.int 2) (.int x) st = .ok () (st.set n (pool a b x)) := by
  unfold pool at *
  refine ⟨?_, ?_, ?_⟩ <;> (simp only [setI, hn]; simp [wrOk, D.nr]; try rfl)
theorem deref_pool {n : Nat} {a b c : Int} {st : Sto} (hn : st[n]? = some (pool a b c)) : deref st (.ref n) = .lst [.int a, .int b, .int c] := by simp [deref, hn, pool]
theorem i64_mod {x m : Int} (h : 0 < m) (h2 : m < 4294967296) : i64 (x % m) = true := by
  have a := Int.emod_nonneg x (by omega : m ≠ 0)
  have b := Int.emod_lt_of_pos x h
  exact i64_of (by omega) (by omega)
theorem nat_of_mod (x : Int) {m : Int} (h : 0 < m) : ∃ v : Nat, x % m = v ∧ (v : Int) < m := by
  have a := Int.emod_nonneg x (by omega : m ≠ 0)
  have b := Int.emod_lt_of_pos x h
  exact ⟨(x % m).toNat, by omega, by omega⟩
theorem ok_law_take {C : Cs} {c0 c1 c2 c3 c4 : Int} (hc : i64 c0 = true ∧ 0 < c1 ∧ c1 < 4294967296 ∧ 0 < c2 ∧ 0 < c4 ∧ c4 < 1073741824) : Q_take (runFd C (t_law_take c0 c1 c2 c3 c4)) := by
  intro r m st hp hm hm2
  obtain ⟨k0, k1, k2, k3, k4, k5⟩ := hc
  refine run_wp rfl ?_
  obtain ⟨a, b, c, hn⟩ := id hp
  have hd := deref_pool hn
  by_cases ha : 0 < a
  · simp [t_law_take, hd, ha, divmod_int hm hm2, (set3 _ r a b c (a / m) st hn).1, finQ_eq]
    obtain ⟨v, e, hv⟩ := nat_of_mod a hm
    exact ⟨⟨v, e, hv⟩, hp, a / m, b, c, by simp [List.take_of_length_le]⟩
  · have hl := hp.lt
    have e1 := (set3 st.length r a b c (c + 1) st hn).2.2
    have hn1 : (st.set r (pool a b (c + 1)))[r]? = some (pool a b (c + 1)) := List.getElem?_set_self hl
    have hd1 := deref_pool hn1
    have k17 : i64 17 = true := by decide
    generalize hs : (b + c0 * (c + 1)) % c1 = s0
    have ks : i64 s0 = true := by rw [← hs]; exact i64_mod k1 k2
    generalize hx : (s0 * (s0 % c2 + c3) + 17 * (c + 1)) % c1 = x
    have e2 := (set3 st.length r a b (c + 1) x _ hn1).2.1
    have hn2 : ((st.set r (pool a b (c + 1))).set r (pool a x (c + 1)))[r]? = some (pool a x (c + 1)) := List.getElem?_set_self (by simpa using hl)
    have hd2 := deref_pool hn2
    simp only [List.set_set] at e2 hd2
    simp [t_law_take, hd, ha, e1, hd1, mul_int_l k0, mul_int_l k17, mod_int k1, mod_int k3, mod_int hm, fdiv_int k4 k5, hs, mul_int_l ks, hx, e2, hd2, finQ_eq]
    obtain ⟨v, e, hv⟩ := nat_of_mod (x / c4) hm
    exact ⟨⟨v, e, hv⟩, hp, a, x, c + 1, by simp [List.take_of_length_le]⟩
/-! the pool made -/
def Q_pool (F : Fun) : Prop := ∀ (ns : List Int) (k : Nat) (st : Sto), ns.length ≤ 63 → k ≤ 3 → (F [LI ns, .int k] st).wp fun d st' => d = .ref st.length ∧ ∃ a b c, st' = st ++ [pool a b c]
theorem allInts_map : ∀ w : List Int, allInts (w.map .int) = some w
  | [] => rfl
  | x :: xs => by simp [allInts, allInts_map xs]
@[simp] theorem sum_LI (w : List Int) : biD .sum [LI w] = some (.int w.sum) := by
  show (allInts (w.map .int)).map _ = _
  rw [allInts_map]; rfl
theorem pow_int {a b : Int} (h : 0 ≤ b) (h2 : b ≤ 1000000) (h3 : a.natAbs < 18446744073709551616) : binD .pow (.int a) (.int b) = some (.int (a ^ b.toNat)) := by
  have h3 : a.natAbs < 2 ^ 64 := h3
  simp [binD, h, h2, h3]
def wideN : Int := 10 ^ 384
theorem mul_big {a b : Int} (h : a.natAbs < 2 ^ 400000) (h2 : b.natAbs < 2 ^ 400000) : binD .mul (.int a) (.int b) = some (.int (a * b)) := by
  simp only [binD, h, h2, decide_true, Bool.and_self, Bool.or_true, if_true]
theorem wide_ok : (10 : Int) ^ 64 = 10000000000000000000000000000000000000000000000000000000000000000 := by decide
def t64 : Int := 10 ^ 64
theorem big_pow (k : Nat) (hk : k ≤ 6) : ((10 : Int) ^ (64 * k)).natAbs < 2 ^ 400000 := by
  have : ((10 : Int) ^ (64 * k)).natAbs = 10 ^ (64 * k) := by rw [Int.natAbs_pow]; rfl
  rw [this]
  calc 10 ^ (64 * k) ≤ 10 ^ 384 := Nat.pow_le_pow_right (by omega) (by omega)
    _ < 2 ^ 1280 := by decide +kernel
    _ ≤ 2 ^ 400000 := Nat.pow_le_pow_right (by omega) (by omega)
theorem big_mul (j k : Nat) (h : j + k ≤ 6) : binD .mul (.int (10 ^ (64 * j))) (.int (10 ^ (64 * k))) = some (.int (10 ^ (64 * (j + k)))) := by
  rw [mul_big (big_pow j (by omega)) (big_pow k (by omega)), ← Int.pow_add, Nat.mul_add]
theorem ok_law_pool {C : Cs} {c0 c1 c2 c3 : Int} (hc : i64 c1 = true ∧ i64 c2 = true ∧ 0 < c3 ∧ c3 < 4294967296) : Q_pool (runFd C (t_law_pool c0 c1 c2 c3)) := by
  intro ns k st hl hk
  obtain ⟨k1, k2, k3, k4⟩ := hc
  refine run_wp rfl ?_
  have p64 : binD .pow (.int 10) (.int 64) = some (.int (10 ^ (64 * 1))) := by rw [pow_int (by omega) (by omega) (by decide)]; rfl
  have p18 : binD .pow (.int 10) (.int 18) = some (.int (10 ^ 18)) := by rw [pow_int (by omega) (by omega) (by decide)]; rfl
  have k19 : i64 19 = true := by decide
  have wp : (0 : Int) < 10 ^ (64 * 6) := by apply Int.pow_pos; omega
  have b2 := big_mul 1 1 (by omega)
  have b3 := big_mul 2 1 (by omega)
  have b4 := big_mul 3 1 (by omega)
  have b5 := big_mul 4 1 (by omega)
  have b6 := big_mul 5 1 (by omega)
  simp only [Nat.reduceAdd] at b2 b3 b4 b5 b6
  generalize hw : (10 : Int) ^ (64 * 6) = wide at b6 wp
  generalize (10 : Int) ^ (64 * 1) = t1 at *
  generalize (10 : Int) ^ (64 * 2) = t2 at *
  generalize (10 : Int) ^ (64 * 3) = t3 at *
  generalize (10 : Int) ^ (64 * 4) = t4 at *
  generalize (10 : Int) ^ (64 * 5) = t5 at *
  generalize (10 : Int) ^ 18 = e18 at *
  simp [t_law_pool, mul_int_l k1, p64, b2, b3, b4, b5, b6]
  refine forM_ind (fun _ ρ st' => st' = st ∧ ∃ x y o, ρ = ⟨[some (LI ns), some (.int k), some (.int x), some (.int y), some (.int wide), o], [], st.length⟩) ⟨rfl, _, _, none, rfl⟩ ?_ ?_
  · rintro i x ρ st' hx ⟨rfl, u, v, o, rfl⟩
    simp [mul_int_r k2, mod_int k3, mul_int_r k19]
  · rintro ρ st' ⟨rfl, u, v, o, rfl⟩
    have fin : ∀ x : Int, finQ true st'.length (fun d st'_1 => d = D.ref (List.length st') ∧ ∃ a b c, st'_1 = st' ++ [pool a b c]) (.ref st'.length) (st' ++ [.lst [.int x, .int v, .int 0]]) := fun x => by
      refine finQ_keep (get_top _ _) (Nat.le_refl _) (by simp) ?_
      simp
      exact ⟨_, _, _, rfl⟩
    by_cases h1 : u < 0
    · simp [h1, mod_int wp]
      exact fin _
    · by_cases h2 : e18 ≤ u
      · simp [h1, h2, p18, mod_int wp]
        exact fin _
      · simp [h1, h2, p18]
        exact fin _
/-! one of some things -/
def Q_of (F : Fun) : Prop := ∀ (r : Nat) (xs : List D) (st : Sto), PoolAt r st → 0 < xs.length → xs.length ≤ 100000 → D.nrs xs = true → (F [.ref r, .lst xs] st).wp fun d st' => d ∈ xs ∧ Dr r st st'
theorem ok_law_of {C : Cs} {c0 : Nat} (h0 : Q_take (C.fn c0)) : Q_of (runFd C (t_law_of c0)) := by
  intro r xs st hp hl hl2 hx
  refine run_wp rfl ?_
  simp [t_law_of]
  refine Res.wp_mono (h0 r xs.length st hp (by omega) (by omega)) ?_
  rintro d st' ⟨⟨v, rfl, hv⟩, hd⟩
  have e : idxD (.lst xs) (.int (v : Int)) = some (xs.getD v .non) := idx_xn (by omega)
  have hm : xs.getD v .non ∈ xs := by
    rw [List.getD_eq_getElem?_getD, List.getElem?_eq_getElem (by omega)]
    exact List.getElem_mem _
  have hn : (xs.getD v .non).nr = true := by
    rw [nrs_all] at hx
    exact List.all_eq_true.mp hx _ hm
  simp only [List.getD_eq_getElem?_getD] at e hm hn
  simp [e, finQ_eq hn]
  exact ⟨hm, by rw [hd.take]; exact hd⟩
/-! ascending lots drawn -/
theorem asc_of : ∀ {w : List Int}, w.Pairwise (· < ·) → asc w = true
  | [], _ => rfl
  | [_], _ => rfl
  | a :: b :: r, h => by
    rw [List.pairwise_cons] at h
    simp only [asc, Bool.and_eq_true, decide_eq_true_eq]
    exact ⟨h.1 b (by simp), asc_of h.2⟩
theorem okLot_sub {n : Nat} {w : List Nat} (h : w.Sublist (List.range n)) (hw : w ≠ []) : okLot ((n : Int) - 1) (w.map Nat.cast) = true := by
  have hp : w.Pairwise (· < ·) := (List.pairwise_lt_range (n := n)).sublist h
  have ha : (w.map (Nat.cast : Nat → Int)).Pairwise (· < ·) := by
    rw [List.pairwise_map]
    exact hp.imp fun h => by omega
  simp only [okLot, Bool.and_eq_true, asc_of ha, and_true]
  refine ⟨by simp [hw], ?_⟩
  simp only [List.all_map, List.all_eq_true, Function.comp_apply, Bool.and_eq_true, decide_eq_true_eq]
  intro x hx
  have := List.mem_range.mp (h.subset hx)
  omega
def Q_lot (F : Fun) : Prop := ∀ (r n : Nat) (m : Int) (st : Sto), PoolAt r st → 0 < n → n ≤ 1000 → 0 < m → m < 1073741824 → (F [.ref r, .int n, .int m] st).wp fun d st' => (∃ w, d = W w ∧ okLot ((n : Int) - 1) w = true) ∧ Dr r st st'
theorem sub_snoc {n : Nat} {w : List Nat} (h : w.Sublist (List.range n)) : (w ++ [n]).Sublist (List.range (n + 1)) := by
  rw [List.range_succ]; exact List.Sublist.append h (List.Sublist.refl _)
theorem sub_keep {n : Nat} {w : List Nat} (h : w.Sublist (List.range n)) : w.Sublist (List.range (n + 1)) := by
  rw [List.range_succ]; exact h.trans (List.sublist_append_left _ _)
theorem ok_law_lot {C : Cs} {c0 : Nat} (h0 : Q_take (C.fn c0)) : Q_lot (runFd C (t_law_lot c0)) := by
  intro r n m st hp hn hn2 hm hm2
  refine run_wp rfl ?_
  have hi : i62 (n : Int) = true := i62_of (by omega) (by omega)
  simp [t_law_lot, hi]
  refine loopM_ind (fun i acc st' => Dr r st st' ∧ ∃ w : List Nat, acc = w.map (fun (j : Nat) => D.int (j : Int)) ∧ w.Sublist (List.range i)) ⟨.refl hp, [], rfl, by simp⟩ ?_ ?_
  · rintro i x acc st' hx ⟨hd, w, rfl, hw⟩
    obtain ⟨hx, rfl⟩ := range_get hx
    simp [tru_wp]
    refine Res.wp_mono (h0 r m st' hd.pool hm hm2) ?_
    rintro d st'' ⟨⟨v, rfl, hv⟩, hd2⟩
    by_cases h : 0 < v
    · simp [h]
      exact ⟨hd.trans hd2, w ++ [x], by simp, sub_snoc hw⟩
    · simp [h]
      exact ⟨hd.trans hd2, w, rfl, sub_keep hw⟩
  · rintro acc st' ⟨hd, w, rfl, hw⟩
    rw [List.length_range] at hw
    have hl := hw.length_le
    simp at hl
    rw [mkLs_f (line_of (by simp; omega))]
    by_cases h : w = []
    · subst h
      simp
      refine Res.wp_mono (h0 r n st' hd.pool (by omega) (by omega)) ?_
      rintro d st'' ⟨⟨v, rfl, hv⟩, hd2⟩
      simp [finQ_eq]
      have h3 := hd.trans hd2
      rw [h3.take]
      refine ⟨⟨[(v : Int)], by rw [← tup_int1]; rfl, ?_⟩, h3⟩
      simp [okLot, asc]; omega
    · simp [h, finQ_eq]
      rw [hd.take]
      exact ⟨⟨_, rfl, okLot_sub hw h⟩, hd⟩
def Q_one (F : Fun) : Prop := ∀ (r : Nat) (s : Int) (st : Sto), PoolAt r st → 2 ≤ s → s ≤ 3 → (F [.ref r, .int s] st).wp fun d st' => (∃ c, d = L c ∧ okLaw s c = true) ∧ Dr r st st'
theorem ok_law_one {C : Cs} {c0 c1 : Nat} (h0 : Q_take (C.fn c0)) (h1 : Q_lot (C.fn c1)) : Q_one (runFd C (t_law_one c0 c1)) := by
  intro r s st hp hs hs2
  refine run_wp rfl ?_
  have hi : i62 s = true := i62_of (by omega) (by omega)
  obtain ⟨n, rfl⟩ : ∃ n : Nat, s = n := ⟨s.toNat, by omega⟩
  simp [t_law_one, hi]
  refine Res.wp_mono (h0 r n st hp (by omega) (by omega)) ?_
  rintro d st1 ⟨⟨t, rfl, ht⟩, hd1⟩
  simp [hi]
  refine loopM_ind (fun i acc st' => Dr r st st' ∧ ∃ w : List Nat, acc = w.map (fun (j : Nat) => D.int (j : Int)) ∧ w.Sublist (List.range i) ∧ t ∉ w) ⟨hd1, [], rfl, by simp, by simp⟩ ?_ ?_
  · rintro i x acc st' hx ⟨hd, w, rfl, hw, hnt⟩
    obtain ⟨hx, rfl⟩ := range_get hx
    simp [tru_wp]
    by_cases hxt : x = t
    · subst hxt
      simp
      exact ⟨hd, w, rfl, sub_keep hw, hnt⟩
    · have hxt' : ¬ (x : Int) = (t : Int) := by omega
      simp [hxt, hxt']
      refine Res.wp_mono (h0 r 3 st' hd.pool (by omega) (by omega)) ?_
      rintro d st'' ⟨⟨v, rfl, hv⟩, hd2⟩
      by_cases h : 0 < v
      · simp [h]
        exact ⟨hd.trans hd2, w ++ [x], by simp, sub_snoc hw, by simp [hnt]; omega⟩
      · simp [h]
        exact ⟨hd.trans hd2, w, rfl, sub_keep hw, hnt⟩
  · rintro acc st' ⟨hd, w, rfl, hw, hnt⟩
    rw [List.length_range] at hw
    have hl := hw.length_le
    simp at hl
    rw [mkLs_f (line_of (by simp; omega))]
    have hcond : ∃ w' : List Int, okLot ((n : Int) - 1) w' = true ∧ (t : Int) ∉ w' ∧ ((w = [] ∧ w' = [((t : Int) + 1) % n]) ∨ (w ≠ [] ∧ w' = w.map Nat.cast)) := by
      by_cases h : w = []
      · refine ⟨_, ?_, ?_, .inl ⟨h, rfl⟩⟩
        · have a := Int.emod_nonneg ((t : Int) + 1) (by omega : (n : Int) ≠ 0)
          have b := Int.emod_lt_of_pos ((t : Int) + 1) (by omega : (0 : Int) < n)
          simp [okLot, asc]; omega
        · simp
          intro e
          by_cases hh : (t : Int) + 1 < n
          · rw [Int.emod_eq_of_lt (by omega) hh] at e; omega
          · have : (t : Int) + 1 = n := by omega
            rw [this, Int.emod_self] at e; omega
      · refine ⟨_, okLot_sub hw h, ?_, .inr ⟨h, rfl⟩⟩
        simp
        intro x hx e
        have : x = t := by omega
        exact hnt (this ▸ hx)
    obtain ⟨w', hw1, hw2, hc⟩ := hcond
    have e1 : (((n + 1 : Nat) : Int) - 1) = n := by omega
    have q1 := fun (st2 : Sto) (hd : PoolAt r st2) => h1 r (n + 1) 3 st2 hd (by omega) (by omega) (by omega) (by omega)
    rw [e1] at q1
    simp only [Int.natCast_add, Int.cast_ofNat_Int] at q1
    rcases hc with ⟨h, hc⟩ | ⟨h, hc⟩
    · simp [h, mod_int (show (0 : Int) < n by omega)]
      rw [show D.tup [D.int (((t : Int) + 1) % n)] = W w' from by rw [hc]; rfl]
      refine Res.wp_mono (q1 st' hd.pool) ?_
      rintro d st2 ⟨⟨wa, rfl, ha⟩, hd2⟩
      simp
      refine Res.wp_mono (q1 st2 hd2.pool) ?_
      rintro d st3 ⟨⟨wb, rfl, hb⟩, hd3⟩
      have h3 := (hd.trans hd2).trans hd3
      simp [finQ_eq, h3.take]
      exact ⟨⟨⟨w', t, wa, wb⟩, rfl, by simp [okLaw, hw1, hw2, ha, hb]; omega⟩, h3⟩
    · simp [h]
      rw [← hc]
      refine Res.wp_mono (q1 st' hd.pool) ?_
      rintro d st2 ⟨⟨wa, rfl, ha⟩, hd2⟩
      simp
      refine Res.wp_mono (q1 st2 hd2.pool) ?_
      rintro d st3 ⟨⟨wb, rfl, hb⟩, hd3⟩
      have h3 := (hd.trans hd2).trans hd3
      simp [finQ_eq, h3.take]
      exact ⟨⟨⟨w', t, wa, wb⟩, rfl, by simp [okLaw, hw1, hw2, ha, hb]; omega⟩, h3⟩
def Q_book (F : Fun) : Prop := ∀ (r : Nat) (s m : Int) (st : Sto), PoolAt r st → 2 ≤ s → s ≤ 3 → 0 ≤ m → m ≤ 3 → (F [.ref r, .int s, .int m] st).wp fun d st' => (∃ b : List Lw, d = B b ∧ (b.length : Int) ≤ m ∧ b.all (okLaw s) = true) ∧ Dr r st st'
theorem ok_law_book {C : Cs} {c0 c1 : Nat} (h0 : Q_take (C.fn c0)) (h1 : Q_one (C.fn c1)) : Q_book (runFd C (t_law_book c0 c1)) := by
  intro r s m st hp hs hs2 hm hm2
  refine run_wp rfl ?_
  simp [t_law_book]
  refine Res.wp_mono (h0 r (m + 1) st hp (by omega) (by omega)) ?_
  rintro d st1 ⟨⟨t, rfl, ht⟩, hd1⟩
  have hi : i62 (t : Int) = true := i62_of (by omega) (by omega)
  simp [hi]
  refine loopM_ind (fun i acc st' => Dr r st st' ∧ ∃ b : List Lw, acc = b.map L ∧ b.length = i ∧ b.all (okLaw s) = true) ⟨hd1, [], rfl, rfl, rfl⟩ ?_ ?_
  · rintro i x acc st' hx ⟨hd, b, rfl, hl, hb⟩
    simp
    refine Res.wp_mono (h1 r s st' hd.pool hs hs2) ?_
    rintro d st'' ⟨⟨c, rfl, hc⟩, hd2⟩
    simp
    refine ⟨hd.trans hd2, b ++ [c], by simp, by simp [hl], ?_⟩
    simp only [List.mem_append, List.mem_singleton]
    rintro x (hx | rfl)
    · exact List.all_eq_true.mp hb x hx
    · exact hc
  · rintro acc st' ⟨hd, b, rfl, hl, hb⟩
    simp at hl
    rw [mkLs_f (line_of (by simp; omega))]
    simp [finQ_eq]
    rw [hd.take]
    exact ⟨⟨b, rfl, by omega, by simpa using hb⟩, hd⟩
theorem okBook_of {s m : Int} {b : List Lw} (hm : m ≤ 3) (h : (b.length : Int) ≤ m) (h2 : b.all (okLaw s) = true) : okBook s b = true := by
  simp only [okBook, h2, Bool.and_true, decide_eq_true_eq]; omega
/-! the law's own words -/
def Q_law_words (F : Fun) : Prop := ∀ (s : Int) (n : Nat) (st : Sto), 0 ≤ s → s ≤ 3 → n ≤ 9 → F [.int s, .int n] st = .ok (LW (wds s n)) st
theorem ok_law_words {C : Cs} : Q_law_words (runFd C t_law_words) := by
  intro s n st hs hs2 hn
  tm_at "run"
  have h1 : i62 (n : Int) = true := i62_of (by omega) (by omega)
  have h2 : i62 s = true := i62_of (by omega) (by omega)
  simp [t_law_words, h1, -forS_fix, -forM_map]
  have hb : ∀ k, k ≤ n → (wds s k).length * s.toNat ≤ 59049 := fun k hk => by
    rw [wds_len, ← Nat.pow_succ]
    calc s.toNat ^ (k + 1) ≤ 3 ^ (k + 1) := Nat.pow_le_pow_left (by omega) _
      _ ≤ 3 ^ 10 := Nat.pow_le_pow_right (by omega) (by omega)
      _ = 59049 := by decide
  refine forS_ind (fun k ρ st' => ∃ x o3 o4 o5 o6, st <+: st' ∧ ρ = ⟨[some (.int s), some (.int n), some x, o3, o4, o5, o6], [], st.length⟩ ∧ IsLst st' st.length x ((wds s k).map W)) (.inl rfl) ⟨_, none, none, none, none, List.prefix_refl _, rfl, .inl rfl⟩ ?_ ?_
  · rintro k x ρ st' hx ⟨d, o3, o4, o5, o6, hpre, rfl, hd⟩
    have hk : k < n := by
      have := (List.getElem?_eq_some_iff.mp hx).1
      simpa using this
    have hkb := hb k (by omega)
    simp
    obtain ⟨src, es, hsrc⟩ := (hd.app [Cell.lst []]).src
    rw [es]
    simp only [Res.of_some, Res.wp_ok]
    have hlen := pre_len hpre
    refine forS_ind (xs := (wds s k).map W) (fun i ρ st'' => ∃ o5 o6, ρ = ⟨[some (.int s), some (.int n), some d, some x, some (.ref st'.length), o5, o6], [], st.length⟩ ∧ st'' = st' ++ [.lst (((wds s k).take i).flatMap fun w => (List.range s.toNat).map fun (j : Nat) => W (w ++ [(j : Int)]))]) ?_ ⟨o5, o6, rfl, by simp⟩ ?_ ?_
    · rcases hsrc with h | ⟨m, h1, h2, h3⟩
      · exact .inl h
      · refine .inr ⟨m, h1, ?_⟩
        rintro i ρ st'' ⟨o5, o6, rfl, rfl⟩
        rcases hd with rfl | ⟨m', rfl, hm, he⟩
        · simp at es; rw [h1] at es; cases es
        · have hlt := (List.getElem?_eq_some_iff.mp he).1
          rw [srcD_ref (xs := (wds s k).map W) (by rw [List.getElem?_append_left hlt]; exact he), h1] at es
          cases es
          rw [List.getElem?_append_left hlt]; exact he
    · rintro i y ρ st'' hy ⟨o5, o6, rfl, rfl⟩
      rw [List.getElem?_map] at hy
      obtain ⟨w, hw, rfl⟩ := Option.map_eq_some_iff.mp hy
      have hwl := mem_wds_len (List.mem_of_getElem? hw)
      have hti : ((wds s k).take i).length * s.toNat + s.toNat ≤ 59049 := by
        have h3 : i + 1 ≤ (wds s k).length := (List.getElem?_eq_some_iff.mp hw).1
        have : (i + 1) * s.toNat ≤ (wds s k).length * s.toNat := Nat.mul_le_mul_right _ h3
        rw [Nat.add_mul] at this
        have h4 : ((wds s k).take i).length = i := by simp; omega
        rw [h4]; omega
      generalize hacc : (((wds s k).take i).flatMap fun w => (List.range s.toNat).map fun (j : Nat) => W (w ++ [(j : Int)])) = acc
      have hal : acc.length = ((wds s k).take i).length * s.toNat := by
        rw [← hacc]; simp [List.length_flatMap, List.map_const']
      simp [isL_ref (get_top st' (.lst acc)), h2]
      refine wp_map (fun (j : Nat) => W (w ++ [(j : Int)])) (fun j hj => ?_) ?_
      · have := line_of (show w.length + 1 ≤ 16777216 by omega)
        have e : binD .add (W w) (.tup [.int (j : Int)]) = some (W (w ++ [(j : Int)])) := by
          rw [← tup_int1]; simp [binD, this]
        simp [e]
      · rw [mkLs_f (line_of (by simp; omega))]
        simp only [Res.wp_ok, deref_lst]
        rw [ext_ref (get_top st' (.lst acc)) hlen (line_of (by simp; omega))]
        simp
        have : (wds s k).take (i + 1) = (wds s k).take i ++ [w] := by rw [List.take_add_one, hw]; rfl
        rw [this, List.flatMap_append, hacc]
        simp
    · rintro ρ st'' ⟨o5, o6, rfl, rfl⟩
      simp
      refine ⟨pre_app hpre _, .inr ⟨st'.length, rfl, hlen, ?_⟩⟩
      simp [wds, List.map_flatMap, Function.comp_def]
  · rintro ρ st' ⟨d, o3, o4, o5, o6, hpre, rfl, hd⟩
    simp
    refine hd.fin (by simp) ?_
    simp [pre_take hpre]
/-! the law's own doing -/
theorem getD_app_l {a b : List Int} {p : Nat} (h : p < a.length) : gi (a ++ b) p = gi a p := by
  simp [gi, List.getD_eq_getElem?_getD, List.getElem?_append_left h]
theorem gi_wide (s : Int) (w : List Int) (p : Nat) (hp : p < w.length) : gi ([s] ++ w ++ [s]) p = aheadOf s w p ∧ gi ([s] ++ w ++ [s]) (p + 2) = behindOf s w p := by
  constructor
  · cases p with
    | zero => simp [gi, aheadOf]
    | succ q =>
      have : q < w.length := by omega
      simp [gi, aheadOf, List.getElem?_append_left this]
  · unfold behindOf
    by_cases h : p + 1 < w.length
    · simp [gi, h, List.getElem?_append_left h]
    · have : p + 1 = w.length := by omega
      simp [gi, h, this]
def Q_law_places (F : Fun) : Prop := ∀ (s : Int) (c : Lw) (w : List Int) (st : Sto), w.length ≤ 100000 → F [.int s, L c, W w] st = .ok (LI ((actsOf s c w).map Nat.cast)) st
theorem ok_law_places {C : Cs} : Q_law_places (runFd C t_law_places) := by
  intro s c w st hw
  tm_at "run"
  have h1 : i62 (w.length : Int) = true := i62_of (by omega) (by omega)
  have e1 : binD .add (.tup [.int s]) (W w) = some (W ([s] ++ w)) := by
    rw [← tup_int1, ← tup_int1]; simp [binD, line_of (show 1 + w.length ≤ 16777216 by omega)]
  have e2 : binD .add (W ([s] ++ w)) (.tup [.int s]) = some (W ([s] ++ w ++ [s])) := by
    rw [← tup_int1, ← tup_int1]; simp [binD, line_of (show w.length + 1 + 1 ≤ 16777216 by omega)]
  simp only [List.cons_append, List.nil_append] at e1 e2
  simp [t_law_places, e1, e2, h1]
  refine forM_ind (fun k ρ st' => ∃ o, ρ = ⟨[some (.int s), some (L c), some (W w), some (W (s :: (w ++ [s]))), some (.ref st.length), o], [], st.length⟩ ∧ st' = st ++ [.lst (((List.range k).filter (actsAt s c w)).map fun (j : Nat) => .int (j : Int))]) ⟨none, rfl, by simp⟩ ?_ ?_
  · rintro k x ρ st' hx ⟨o, rfl, rfl⟩
    obtain ⟨hk, rfl⟩ := range_get hx
    obtain ⟨g1, g2⟩ := gi_wide s w x hk
    simp only [List.cons_append, List.nil_append] at g1 g2
    have i1 : idxD (W (s :: (w ++ [s]))) (.int (x : Int)) = some (.int (aheadOf s w x)) := by rw [idx_Wn (by simp; omega), g1]
    have i2 : idxD (W (s :: (w ++ [s]))) (.int ((x : Int) + 2)) = some (.int (behindOf s w x)) := by
      have := idx_Wn (w := s :: (w ++ [s])) (p := x + 2) (by simp; omega)
      rw [g2] at this; exact this
    have key : (tru (evE C ⟨[some (.int s), some (L c), some (W w), some (W (s :: (w ++ [s]))), some (.ref st.length), some (.int (x : Int))], [], st.length⟩ (.and (.cmp .inn (.idx (.var 2) (.var 5)) (.idx (.var 1) (.lit (.int 0)))) (.and (.cmp .inn (.idx (.var 3) (.var 5)) (.idx (.var 1) (.lit (.int 2)))) (.cmp .inn (.idx (.var 3) (.bin .add (.var 5) (.lit (.int 2)))) (.idx (.var 1) (.lit (.int 3)))))) (st ++ [.lst (((List.range x).filter (actsAt s c w)).map fun (j : Nat) => .int (j : Int))]))) = .ok (actsAt s c w x) (st ++ [.lst (((List.range x).filter (actsAt s c w)).map fun (j : Nat) => .int (j : Int))]) := by
      refine Res.eq_of_wp ?_
      by_cases a1 : gi w x ∈ c.fr
      · by_cases a2 : aheadOf s w x ∈ c.ah <;> simp [idx_Wn hk, i1, i2, actsAt, a1, a2]
      · simp [idx_Wn hk, i1, i2, actsAt, a1]
    simp only [forB_eq, bP_name, bndF_some, ss_cons, s_iff, List.set_cons_succ, List.set_cons_zero]
    rw [key]
    have hfl := List.length_filter_le (actsAt s c w) (List.range x)
    simp at hfl
    cases ha : actsAt s c w x with
    | true =>
      simp [isL_ref (get_top st _)]
      rw [app_ref (get_top st _) (Nat.le_refl _) (line_of (by simp; omega))]
      simp [List.range_succ, List.filter_append, ha]
    | false => simp [List.range_succ, List.filter_append, ha]
  · rintro ρ st' ⟨o, rfl, rfl⟩
    simp
    refine finQ_fresh (get_top st _) (Nat.le_refl _) (by simp) ?_
    simp [actsOf, ← lst_int1, -lst_int1, Function.comp_def]
def Q_law_done (F : Fun) : Prop := ∀ (s : Int) (b : List Lw) (w : List Int) (st : Sto), w.length ≤ 100000 → F [.int s, B b, W w] st = .ok (W (doneB s b w)) st
theorem in_acts {s : Int} {c : Lw} {w : List Int} {p : Nat} (hp : p < w.length) : decide ((p : Int) ∈ (actsOf s c w).map Nat.cast) = actsAt s c w p := by
  rw [Bool.eq_iff_iff, decide_eq_true_iff, List.mem_map]
  refine ⟨fun ⟨a, ha, e⟩ => ?_, fun h => ⟨p, ?_, rfl⟩⟩
  · have e : a = p := Int.ofNat.inj e
    subst e
    exact (List.mem_filter.mp ha).2
  · exact List.mem_filter.mpr ⟨List.mem_range.mpr hp, h⟩
theorem ok_law_done {C : Cs} {c0 : Nat} (h0 : Q_law_places (C.fn c0)) : Q_law_done (runFd C (t_law_done c0)) := by
  intro s b w st hw
  tm_at "run"
  simp [t_law_done]
  refine forM_ind (fun k ρ st' => st' = st ∧ ∃ o o2 o3, ρ = ⟨[some (.int s), some (B b), some (W (doneB s (b.take k) w)), o, o2, o3], [], st.length⟩) ⟨rfl, none, none, none, by simp [doneB]⟩ ?_ ?_
  · rintro k c ρ st' hx ⟨rfl, o, o2, o3, rfl⟩
    have e : doneB s (b.take (k + 1)) w = work s c (doneB s (b.take k) w) := by
      rw [List.take_add_one, hx, doneB_append]; rfl
    have hl : (doneB s (b.take k) w).length = w.length := by simp
    generalize doneB s (b.take k) w = v at *
    have h1 : i62 (v.length : Int) = true := i62_of (by omega) (by omega)
    simp [h0 s c v _ (by omega), h1]
    refine wp_map (fun (p : Nat) => .int (if actsAt s c v p then c.to else gi v p)) (fun p hp => ?_) ?_
    · simp at hp
      simp [-List.mem_map, in_acts hp, idx_Wn hp]
      cases actsAt s c v p <;> simp [idx_Wn hp]
    · rw [mkLs_f (line_of (by simp; omega))]
      simp [work, e]
  · rintro ρ st' ⟨rfl, o, o2, o3, rfl⟩
    simp [finQ_eq]
end Y
end
section
set_option maxRecDepth 100000
set_option Elab.async false
set_option linter.all false
namespace Y
open PySem
/-! ### texts of data are not too long -/
def Sh (k : Nat) (d : D) : Prop := d.py.showable = true ∧ d.py.shown.length ≤ k
theorem Sh.mono {k k' : Nat} {d : D} (h : Sh k d) (hk : k ≤ k') : Sh k' d := ⟨h.1, Nat.le_trans h.2 hk⟩
theorem two_pow_le : (2 : Nat) ^ 7 ≤ 2 ^ 1920 := Nat.pow_le_pow_right (Nat.succ_pos 1) (by omega)
theorem Sh.int {i : Int} (h : i.natAbs ≤ 100) : Sh 102 (.int i) := by
  constructor
  · have : i.natAbs.log2 < 1920 := by
      by_cases h0 : i.natAbs = 0
      · rw [h0]; decide
      · have b : (100 : Nat) < 2 ^ 7 := by decide
        have c : (2 : Nat) ^ 7 ≤ 2 ^ 1920 := two_pow_le
        exact (Nat.log2_lt h0).mpr (Nat.lt_of_le_of_lt h (Nat.lt_of_lt_of_le b c))
    simp [D.py, PyData.showable, this]
  · have := PyProof.Rows.len_str_of_int i
    have e : (D.int i).py.shown = Str.ofString (toString i) := by simp only [D.py, PyData.shown]
    rw [e]; omega
theorem Sh.non : Sh 102 .non := ⟨by simp [D.py, PyData.showable], by simp only [D.py, PyData.shown]; decide⟩
theorem Sh.bl (b : Bool) : Sh 102 (.bl b) := ⟨by simp [D.py, PyData.showable], by simp only [D.py, PyData.shown]; cases b <;> decide⟩
theorem pys_map : ∀ xs : List D, D.pys xs = xs.map D.py
  | [] => by simp [D.pys]
  | x :: xs => by simp [D.pys, pys_map xs]
theorem showableAll_map : ∀ xs : List PyData, PyData.showableAll xs = xs.all PyData.showable
  | [] => by simp [PyData.showableAll]
  | x :: xs => by simp [PyData.showableAll, showableAll_map xs]
theorem shownAll_map : ∀ xs : List PyData, PyData.shownAll xs = xs.map PyData.shown
  | [] => by simp [PyData.shownAll]
  | x :: xs => by simp [PyData.shownAll, shownAll_map xs]
theorem sum_le {α : Type} (f : α → Nat) (k : Nat) : ∀ xs : List α, (∀ x ∈ xs, f x ≤ k) → (xs.map f).sum ≤ xs.length * k
  | [], _ => by simp
  | x :: xs, h => by
    have h1 := h x (by simp)
    have h2 := sum_le f k xs (fun y hy => h y (List.mem_cons_of_mem _ hy))
    simp only [List.map_cons, List.sum_cons, List.length_cons, Nat.add_mul, Nat.one_mul]
    omega
theorem Sh.tup {k n : Nat} {xs : List D} (h : ∀ x ∈ xs, Sh k x) (hn : xs.length ≤ n) : Sh (n * (k + 2) + 3) (.tup xs) := by
  constructor
  · simp only [D.py, PyData.showable, pys_map, showableAll_map, List.all_map, List.all_eq_true, Function.comp_apply]
    exact fun x hx => (h x hx).1
  · have e : (D.tup xs).py.shown = tupleText (xs.map fun x => x.py.shown) := by simp only [D.py, PyData.shown, pys_map, shownAll_map, List.map_map]; rfl
    rw [e]
    have h1 := tupleText_len_le (xs.map fun x => x.py.shown)
    have h2 := sum_le (fun x : D => x.py.shown.length) k xs (fun x hx => (h x hx).2)
    have h3 : xs.length * (k + 2) ≤ n * (k + 2) := Nat.mul_le_mul_right _ hn
    simp only [List.map_map, Function.comp_def, List.length_map] at h1
    rw [Nat.mul_add] at h3
    omega
theorem Sh.lst {k n : Nat} {xs : List D} (h : ∀ x ∈ xs, Sh k x) (hn : xs.length ≤ n) : Sh (n * (k + 2) + 3) (.lst xs) := by
  constructor
  · simp only [D.py, PyData.showable, pys_map, showableAll_map, List.all_map, List.all_eq_true, Function.comp_apply]
    exact fun x hx => (h x hx).1
  · have e : (D.lst xs).py.shown = listText (xs.map fun x => x.py.shown) := by simp only [D.py, PyData.shown, pys_map, shownAll_map, List.map_map]; rfl
    rw [e]
    have h1 := listText_len_le (xs.map fun x => x.py.shown)
    have h2 := sum_le (fun x : D => x.py.shown.length) k xs (fun x hx => (h x hx).2)
    have h3 : xs.length * (k + 2) ≤ n * (k + 2) := Nat.mul_le_mul_right _ hn
    simp only [List.map_map, Function.comp_def, List.length_map] at h1
    rw [Nat.mul_add] at h3
    omega
theorem repr_ok {k : Nat} {d : D} (hp : D.plN 40 d = true) (h : Sh k d) (hk : k ≤ 16777216) : biD .repr [d] = some (.str d.py.shown) := by
  have : line d.py.shown.length = true := line_of (Nat.le_trans h.2 hk)
  have h1 := h.1
  simp [biD, bRepr, hp, h.1, this]
theorem Sh.W {w : List Int} {n : Nat} (h : ∀ i ∈ w, i.natAbs ≤ 100) (hn : w.length ≤ n) : Sh (n * 104 + 3) (W w) := by
  rw [← tup_int1]
  refine Sh.tup (k := 102) ?_ (by simpa using hn)
  simp only [List.mem_map]
  rintro x ⟨i, hi, rfl⟩
  exact Sh.int (h i hi)
theorem Sh.TW {ws : List (List Int)} {n m : Nat} (h : ∀ w ∈ ws, w.length ≤ n ∧ ∀ i ∈ w, i.natAbs ≤ 100) (hn : ws.length ≤ m) : Sh (m * (n * 104 + 5) + 3) (TW ws) := by
  rw [← tup_W1]
  refine Sh.tup (k := n * 104 + 3) ?_ (by simpa using hn)
  simp only [List.mem_map]
  rintro x ⟨w, hw, rfl⟩
  exact Sh.W (h w hw).2 (h w hw).1
/-! words of a length: their sounds -/
theorem wds_mem {s : Int} {n : Nat} {w : List Int} (h : w ∈ wds s n) : ∀ i ∈ w, 0 ≤ i ∧ i ≤ s - 1 := by
  induction n generalizing w with
  | zero => simp [wds] at h; simp [h]
  | succ n ih =>
    simp only [wds, List.mem_flatMap, List.mem_map, List.mem_range] at h
    obtain ⟨v, hv, k, hk, rfl⟩ := h
    intro i hi
    rcases List.mem_append.mp hi with hi | hi
    · exact ih hv i hi
    · simp at hi; omega
theorem wds_ok {s : Int} {n : Nat} {w : List Int} (hn : 1 ≤ n) (hn2 : n ≤ 7) (h : w ∈ wds s n) : okWord s w = true := by
  have := mem_wds_len h
  have h2 := wds_mem h
  simp only [okWord, Bool.and_eq_true, decide_eq_true_eq, List.all_eq_true]
  exact ⟨by omega, fun i hi => h2 i hi⟩
theorem okLaw_work {s : Int} {c : Lw} {w : List Int} (hc : okLaw s c = true) (hw : ∀ i ∈ w, 0 ≤ i ∧ i ≤ s - 1) : ∀ i ∈ work s c w, 0 ≤ i ∧ i ≤ s - 1 := by
  simp only [okLaw, Bool.and_eq_true, decide_eq_true_eq] at hc
  intro i hi
  simp only [work, List.mem_map, List.mem_range] at hi
  obtain ⟨p, hp, rfl⟩ := hi
  split
  · exact hc.1.1.1.2
  · rw [gi, List.getD_eq_getElem?_getD, List.getElem?_eq_getElem hp]
    exact hw _ (List.getElem_mem hp)
theorem doneB_ok {s : Int} {b : List Lw} {w : List Int} (hb : b.all (okLaw s) = true) (hw : ∀ i ∈ w, 0 ≤ i ∧ i ≤ s - 1) : ∀ i ∈ doneB s b w, 0 ≤ i ∧ i ≤ s - 1 := by
  induction b generalizing w with
  | nil => exact hw
  | cons c b ih =>
    simp only [List.all_cons, Bool.and_eq_true] at hb
    exact ih hb.2 (okLaw_work hb.1 hw)
theorem doneB_word {s : Int} {b : List Lw} {w : List Int} (hb : b.all (okLaw s) = true) (hw : okWord s w = true) : okWord s (doneB s b w) = true := by
  simp only [okWord, Bool.and_eq_true, decide_eq_true_eq, List.all_eq_true] at hw ⊢
  exact ⟨by simpa using hw.1, fun i hi => by simpa using doneB_ok hb (fun i hi => by simpa using hw.2 i hi) i hi⟩
end Y
end
section
set_option maxRecDepth 100000
set_option Elab.async false
set_option linter.all false
namespace Y
open PySem
/-! ### defs at a depth of calls -/
def At (P : Prog) (d i : Nat) (Q : Fun → Prop) : Prop := ∀ n, d ≤ n → Q ((calls P n).fn i)
theorem fn_eq {P : Prog} {i : Nat} {fd : Fd} (hi : P.fds[i]? = some fd) (n : Nat) : (calls P (n + 1)).fn i = runFd (calls P n) fd := by
  funext args st
  simp only [calls, hi]
theorem clo_eq {P : Prog} {l : Nat} {lm : Lm} (hl : P.lms[l]? = some lm) (n : Nat) : (calls P (n + 1)).clo l = fun cs args st => runLm (calls P n) lm cs args st := by
  funext cs args st
  simp only [calls, hl]
theorem At.mk {P : Prog} {d i : Nat} {fd : Fd} {Q : Fun → Prop} (hi : P.fds[i]? = some fd) (h : ∀ n, d ≤ n → Q (runFd (calls P n) fd)) : At P (d + 1) i Q := by
  intro n hn
  obtain ⟨m, rfl⟩ : ∃ m, n = m + 1 := ⟨n - 1, by omega⟩
  rw [fn_eq hi]
  exact h m (by omega)
theorem At.le {P : Prog} {d d' i : Nat} {Q : Fun → Prop} (h : At P d i Q) (hd : d ≤ d') : At P d' i Q := fun n hn => h n (by omega)
theorem at_wrong_law {P : Prog} {d i c0 c1 c2 : Nat} (hi : P.fds[i]? = some (t_wrong_law c0 c1)) (hf : P.fds[c0]? = some t_first_wrong) (hl : P.lms[c1]? = some (k_wrong_law c2)) (h2 : At P d c2 Q_is_law) : At P (d + 3) i Q_wrong_law := by
  intro n hn
  obtain ⟨m, rfl⟩ : ∃ m, n = m + 3 := ⟨n - 3, by omega⟩
  rw [fn_eq hi]
  refine ok_wrong_law (calls P (m + 1)) ?_ ?_
  · rw [fn_eq hf]; exact ok_first_wrong
  · intro s x y st n hn hx
    rw [clo_eq hl]
    exact ok_k_wrong_law (h2 m (by omega)) s x y st n hn hx
/-- what a law's def tells, at a depth -/
theorem plain_of {P : Prog} {d i k : Nat} {fd : Fd} (hi : P.fds[i]? = some fd) (h : At P d i (fun F => ∀ (ns : List Int) (st : Sto), ns.length ≤ 63 → (F [LI ns] st).wp fun v _ => v = .bl true)) (hk : d ≤ k + 1) (ns : List Int) (hn : ns.length ≤ 63) : ∃ st', runFd (calls P k) fd [.lst (ns.map .int)] [] = .ok (.bl true) st' := by
  have := h (k + 1) hk ns [] hn
  rw [fn_eq hi] at this
  obtain ⟨a, st', e, rfl⟩ := this
  exact ⟨st', e⟩
theorem okD_of {prog : Program} {g : CfG} {ds : List DD} (h : (List.range ds.length).all (fun i => (ds.getD i ⟨0, "", [], [], [], false⟩).ok prog g i) = true) (f : Nat) (d : DD) (e : ds[f]? = some d) : d.ok prog g f = true := by
  have hf := (List.getElem?_eq_some_iff.mp e).1
  have z := List.all_eq_true.mp h f (List.mem_range.mpr hf)
  simp only [List.getD_eq_getElem?_getD, e, Option.getD_some] at z
  exact z
theorem okL_of {g : CfG} {ds : List DD} (h : g.fps.length = ds.length) (f : Nat) (ps : List Str) (e : g.fps[f]? = some ps) : ∃ d, ds[f]? = some d := by
  have hf := (List.getElem?_eq_some_iff.mp e).1
  exact ⟨ds[f]'(by omega), List.getElem?_eq_getElem _⟩
end Y
end
section
set_option maxRecDepth 100000
set_option Elab.async false
set_option linter.all false
namespace Y
open PySem
/-! ### dicts with rows of ints as keys -/
def dk (kvs : List (List Int × D)) : DK := .rw (kvs.map Prod.fst)
def dv (kvs : List (List Int × D)) : List D := kvs.map Prod.snd
/-- frozen; in the store -/
def DW (kvs : List (List Int × D)) : D := .dct (dk kvs) (dv kvs)
def CW (kvs : List (List Int × D)) : Cell := .dct (dk kvs) (dv kvs)
def getA (kvs : List (List Int × D)) (w : List Int) : Option D := match kvs with
  | [] => none
  | (a, x) :: r => if a = w then some x else getA r w
def putA (kvs : List (List Int × D)) (w : List Int) (v : D) : List (List Int × D) :=
  if kvs.any (fun p => decide (p.1 = w)) then kvs.map (fun p => if p.1 = w then (p.1, v) else p) else kvs ++ [(w, v)]
theorem ints_W (w : List Int) : ints? (w.map .int) = some w := by
  induction w with
  | nil => rfl
  | cons x w ih => simp [ints?, ih]
theorem find_A (w : List Int) : ∀ kvs : List (List Int × D), findK w (kvs.map Prod.fst) (kvs.map Prod.snd) = getA kvs w
  | [] => rfl
  | (a, x) :: r => by simp only [List.map_cons, findK, getA, find_A w r]
theorem get_A (kvs : List (List Int × D)) (w : List Int) : (dk kvs).get (dv kvs) (W w) = some (getA kvs w) := by
  show (ints? (w.map .int)).map _ = _
  rw [ints_W]; exact congrArg some (find_A w kvs)
theorem put_A (kvs : List (List Int × D)) (w : List Int) (v : D) : (dk kvs).put (dv kvs) (W w) v = some (dk (putA kvs w v), dv (putA kvs w v)) := by
  show (ints? (w.map .int)).map _ = _
  rw [ints_W]
  simp only [Option.map_some, Option.some.injEq, Prod.mk.injEq, dk, dv, DK.rw.injEq, putA, putKs, List.any_map, Function.comp_def]
  by_cases h : (kvs.any fun p => decide (p.1 = w)) = true
  · rw [if_pos h, if_pos h]
    refine ⟨?_, ?_⟩
    · rw [List.map_map]
      refine List.map_congr_left fun p _ => ?_
      by_cases q : p.1 = w <;> simp [q]
    · clear h
      induction kvs with
      | nil => rfl
      | cons p r ih =>
        simp only [List.map_cons, List.zipWith_cons_cons, ih]
        by_cases q : p.1 = w <;> simp [q] <;> (intro a b _; by_cases q2 : a = w <;> simp [q2])
  · rw [if_neg h, if_neg h]; simp
section
variable {C : Cs} {sl : List (Option D)} {bx : List Nat} {bs : Nat} {st : Sto}
@[simp] theorem e_dnewT : evE C ⟨sl, bx, bs⟩ (.dnew true) st = .ok (.ref st.length) (st ++ [CW []]) := by simp only [evE]; try rfl
@[simp] theorem e_dget (d k x : E) : evE C ⟨sl, bx, bs⟩ (.dget d k x) st = (evE C ⟨sl, bx, bs⟩ d st).bind fun a st => Res.cond (isDc (deref st a)) ((evE C ⟨sl, bx, bs⟩ k st).bind fun y st => (evE C ⟨sl, bx, bs⟩ x st).bind fun z st => .of (dgetD (deref st a) y z) st) .no := by
  simp only [evE]; congr 1
@[simp] theorem deref_DW (st : Sto) (kvs : List (List Int × D)) : deref st (DW kvs) = DW kvs := id rfl
@[simp] theorem isDc_DW (kvs : List (List Int × D)) : isDc (DW kvs) = true := id rfl
@[simp] theorem dget_DW (kvs : List (List Int × D)) (w : List Int) (z : D) : dgetD (DW kvs) (W w) z = some ((getA kvs w).getD z) := by
  show ((dk kvs).get (dv kvs) (W w)).map _ = _
  rw [get_A]; rfl
@[simp] theorem in_DW (kvs : List (List Int × D)) (w : List Int) : cmpD .inn (W w) (DW kvs) = some (getA kvs w).isSome := by
  show ((dk kvs).get (dv kvs) (W w)).map _ = _
  rw [get_A]; rfl
@[simp] theorem notin_DW (kvs : List (List Int × D)) (w : List Int) : cmpD .notin (W w) (DW kvs) = some (getA kvs w).isNone := by
  show ((dk kvs).get (dv kvs) (W w)).map _ = _
  rw [get_A]; rfl
theorem idx_DW {kvs : List (List Int × D)} {w : List Int} {x : D} (h : getA kvs w = some x) : idxD (DW kvs) (W w) = some x := by
  show ((dk kvs).get (dv kvs) (W w)).join = _
  rw [get_A, h]; rfl
theorem deref_CW {n : Nat} {kvs : List (List Int × D)} (h : st[n]? = some (CW kvs)) : deref st (.ref n) = DW kvs := by
  unfold CW at h; simp only [deref, h]; rfl
theorem set_CW {base n : Nat} {kvs : List (List Int × D)} {w : List Int} {v : D} (h : st[n]? = some (CW kvs)) (hb : base ≤ n) (hl : kvs.length < 16777216) : setI base (.ref n) (W w) v st = .ok () (st.set n (CW (putA kvs w v))) := by
  unfold CW at h
  have hz : (dv kvs).length < sizeLine := by
    have := line_of (n := kvs.length + 1) (by omega)
    unfold line at this
    have := of_decide_eq_true this
    simp only [dv, List.length_map]; omega
  simp only [setI, h, put_A]
  simp [wrOk, hb, hz, CW]
theorem finQ_dct {base n : Nat} {kvs : List (List Int × D)} {Q : D → Sto → Prop} (h : st[n]? = some (CW kvs)) (hb : base ≤ n) (hx : ∀ p ∈ kvs, p.2.nr = true) (hq : Q (DW kvs) (st.take base)) : finQ false base Q (.ref n) st := by
  have hn : D.nrs (dv kvs) = true := by
    unfold dv
    clear h hq
    induction kvs with
    | nil => rfl
    | cons p r ih => simp only [List.map_cons, D.nrs, hx p (by simp), ih (fun q hq => hx q (by simp [hq])), Bool.and_self]
  unfold CW at h
  unfold finQ fin
  have hlt : ¬ n < base := by omega
  simp only [Bool.false_eq_true, if_false, D.nr, frz, hlt, h, hn, if_true]
  rw [Res.wp_ok]; exact hq
end
/-! ### what a dict holds -/
theorem any_getA (w : List Int) : ∀ kvs : List (List Int × D), (kvs.any fun p => decide (p.1 = w)) = (getA kvs w).isSome
  | [] => rfl
  | (a, x) :: r => by
    by_cases h : a = w <;> simp [getA, h, any_getA w r]
theorem getA_map (w : List Int) (v : D) (u : List Int) : ∀ kvs : List (List Int × D), getA (kvs.map fun p => if p.1 = w then (p.1, v) else p) u = if w = u then (getA kvs u).map fun _ => v else getA kvs u
  | [] => by simp [getA]
  | (a, x) :: r => by
    have ih := getA_map w v u r
    by_cases h : a = w
    · subst h
      by_cases q : a = u
      · subst q; simp [getA]
      · simp only [List.map_cons, if_true, getA, if_neg q, ih]
    · by_cases q : a = u
      · subst q
        have : ¬ w = a := fun z => h z.symm
        simp [getA, h, this]
      · simp only [List.map_cons, if_neg h, getA, if_neg q, ih]
theorem getA_app (w : List Int) (v : D) (u : List Int) : ∀ kvs : List (List Int × D), getA (kvs ++ [(w, v)]) u = match getA kvs u with
    | some x => some x
    | none => if w = u then some v else none
  | [] => by simp [getA]
  | (a, x) :: r => by
    by_cases h : a = u
    · simp [getA, h]
    · simp only [List.cons_append, getA, if_neg h, getA_app w v u r]
theorem getA_put (kvs : List (List Int × D)) (w : List Int) (v : D) (u : List Int) : getA (putA kvs w v) u = if w = u then some v else getA kvs u := by
  unfold putA
  rw [any_getA]
  by_cases h : (getA kvs w).isSome = true
  · rw [if_pos h, getA_map]
    by_cases q : w = u
    · subst q
      obtain ⟨x, hx⟩ := Option.isSome_iff_exists.mp h
      simp [hx]
    · simp [q]
  · rw [if_neg h, getA_app]
    by_cases q : w = u
    · subst q
      have : getA kvs w = none := by simpa using h
      simp [this]
    · simp only [if_neg q]
      cases getA kvs u <;> rfl
theorem putA_len (kvs : List (List Int × D)) (w : List Int) (v : D) : (putA kvs w v).length ≤ kvs.length + 1 := by
  unfold putA
  split <;> simp
theorem putA_mem {kvs : List (List Int × D)} {w : List Int} {v : D} {p : List Int × D} (h : p ∈ putA kvs w v) : p ∈ kvs ∨ p.2 = v := by
  unfold putA at h
  split at h
  · obtain ⟨q, hq, rfl⟩ := List.mem_map.mp h
    by_cases z : q.1 = w
    · simp [z]
    · simp [z]; exact .inl hq
  · rcases List.mem_append.mp h with h | h
    · exact .inl h
    · simp at h; exact .inr (by rw [h])
/-- the keys, each once, in the order in which they came -/
def keysA (kvs : List (List Int × D)) : List (List Int) := kvs.map Prod.fst
theorem keysA_put (kvs : List (List Int × D)) (w : List Int) (v : D) : keysA (putA kvs w v) = if w ∈ keysA kvs then keysA kvs else keysA kvs ++ [w] := by
  have e : (kvs.any fun p => decide (p.1 = w)) = decide (w ∈ keysA kvs) := by
    rw [Bool.eq_iff_iff, decide_eq_true_eq]; simp [keysA]
  unfold putA
  rw [e]
  by_cases h : w ∈ keysA kvs
  · simp only [h, decide_true, if_true]
    unfold keysA
    rw [List.map_map]
    refine List.map_congr_left fun p _ => ?_
    simp only [Function.comp]
    split <;> rfl
  · simp only [h, decide_false, Bool.false_eq_true, if_false]
    simp [keysA]
theorem mem_keysA (kvs : List (List Int × D)) (w : List Int) : w ∈ keysA kvs ↔ (getA kvs w).isSome = true := by
  rw [← any_getA]; simp [keysA]
theorem nodup_put {kvs : List (List Int × D)} (w : List Int) (v : D) (h : (keysA kvs).Nodup) : (keysA (putA kvs w v)).Nodup := by
  rw [keysA_put]
  split
  · exact h
  · rename_i hw
    rw [List.nodup_append]
    refine ⟨h, by simp, fun a ha b hb => ?_⟩
    simp at hb
    subst hb
    exact fun e => hw (e ▸ ha)
@[simp] theorem len_DW (kvs : List (List Int × D)) : biD .len [DW kvs] = some (.int kvs.length) := by
  simp [biD, bLen, DW, dk, dv, DK.len]
/-! ### dict(pairs) -/
def putsA (ps kvs : List (List Int × D)) : List (List Int × D) := ps.foldl (fun k p => putA k p.1 p.2) kvs
theorem dofL_A : ∀ (ps kvs : List (List Int × D)), dofL (dk kvs) (dv kvs) (ps.map fun p => .tup [W p.1, p.2]) = some (dk (putsA ps kvs), dv (putsA ps kvs))
  | [], kvs => rfl
  | p :: ps, kvs => by
    simp only [List.map_cons, dofL, put_A]
    exact dofL_A ps (putA kvs p.1 p.2)
def dctO (o : Option (DK × List D)) (st : Sto) : Res D := match o with
  | some (k, ys) => .ok (.ref st.length) (st ++ [.dct k ys])
  | none => .no
@[simp] theorem e_dof {C : Cs} {sl : List (Option D)} {bx : List Nat} {bs : Nat} {st : Sto} (es : Es) : evE C ⟨sl, bx, bs⟩ (.dof es) st = (evEs C ⟨sl, bx, bs⟩ es st).bind fun xs st => dctO (dofD (xs.map (deref st))) st := by
  simp only [evE, dctO]; try rfl
theorem dof_A {st : Sto} {ds : List D} (ps : List (List Int × D)) (h : ds = ps.map fun p => .tup [W p.1, p.2]) : dctO (dofD [.lst ds]) st = .ok (.ref st.length) (st ++ [CW (putsA ps [])]) := by
  subst h
  have := dofL_A ps []
  simp only [dctO, dofD]
  have e : dofL (.rw []) [] (ps.map fun p => .tup [W p.1, p.2]) = some (dk (putsA ps []), dv (putsA ps [])) := this
  rw [e]; rfl
theorem puts_keys : ∀ (ps kvs : List (List Int × D)) (w : List Int), (getA (putsA ps kvs) w).isSome = ((getA kvs w).isSome || decide (w ∈ ps.map Prod.fst))
  | [], kvs, w => by simp [putsA]
  | p :: ps, kvs, w => by
    have := puts_keys ps (putA kvs p.1 p.2) w
    simp only [putsA, List.foldl_cons] at this ⊢
    rw [this, getA_put]
    by_cases h : p.1 = w
    · simp [h]
    · have h2 : ¬ w = p.1 := fun z => h z.symm
      have e : decide (w ∈ List.map Prod.fst (p :: ps)) = decide (w ∈ List.map Prod.fst ps) := by
        rw [Bool.eq_iff_iff, decide_eq_true_eq, decide_eq_true_eq, List.map_cons, List.mem_cons]
        exact ⟨fun z => z.resolve_left h2, .inr⟩
      rw [if_neg h, e]
theorem puts_nodup : ∀ (ps kvs : List (List Int × D)), (keysA kvs).Nodup → (keysA (putsA ps kvs)).Nodup
  | [], _, h => h
  | p :: ps, kvs, h => puts_nodup ps _ (nodup_put p.1 p.2 h)
end Y
end
section
set_option maxRecDepth 100000
set_option Elab.async false
set_option linter.all false
namespace Y
open PySem
def t_check_law_worded (c0 : Nat) (c1 : Nat) (c2 : Nat) : Fd := ⟨3, 3, [], false, (.cons (.ex (.call c0 (.cons (.var 0) .nil) .nil none)) (.cons (.ex (.call c1 (.cons (.var 0) (.cons (.var 1) .nil)) .nil none)) (.cons (.ex (.call c2 (.cons (.var 0) (.cons (.var 2) .nil)) .nil none)) .nil)))⟩  -- check_sounds check_law check_word
def t_put_at : Fd := ⟨3, 3, [], false, (.cons (.ret (.tup (.star (.sl (.var 0) .none (.some (.var 1))) (.cons (.var 2) (.star (.sl (.var 0) (.some (.bin .add (.var 1) (.lit (.int 1)))) .none) .nil))))) .nil)⟩
def t_steps_by (c0 : Nat) : Fd := ⟨3, 5, [], false, (.cons (.asg (.name 3) (.tup (.cons (.var 2) .nil))) (.cons (.for_ (.name 4) (.val (.var 1)) (.cons (.asg (.name 3) (.tup (.star (.var 3) (.cons (.call c0 (.cons (.var 0) (.cons (.var 4) (.cons (.idx (.var 3) (.neg (.lit (.int 1)))) .nil))) .nil none) .nil)))) .nil)) (.cons (.ret (.var 3)) .nil)))⟩  -- work_by
def t_led_through (c0 : Nat) (c1 : Nat) : Fd := ⟨4, 6, [], false, (.cons (.asg (.name 4) (.var 2)) (.cons (.for_ (.name 5) (.val (.var 3)) (.cons (.iff (.call c0 (.cons (.var 0) (.cons (.var 1) (.cons (.var 4) (.cons (.var 5) .nil)))) .nil none) (.cons (.asg (.name 4) (.call c1 (.cons (.var 4) (.cons (.var 5) (.cons (.idx (.var 1) (.lit (.int 1))) .nil))) .nil none)) .nil) .nil) .nil)) (.cons (.ret (.var 4)) .nil)))⟩  -- does_act put_at
def t_forwards_by (c0 : Nat) : Fd := ⟨3, 3, [], false, (.cons (.ret (.call c0 (.cons (.var 0) (.cons (.var 1) (.cons (.var 2) (.cons (.bi .listrange (.cons (.bi .len (.cons (.var 2) .nil)) .nil)) .nil)))) .nil none)) .nil)⟩  -- led_through
def t_backwards_by (c0 : Nat) : Fd := ⟨3, 3, [], false, (.cons (.ret (.call c0 (.cons (.var 0) (.cons (.var 1) (.cons (.var 2) (.cons (.rev (.bi .listrange (.cons (.bi .len (.cons (.var 2) .nil)) .nil))) .nil)))) .nil none)) .nil)⟩  -- led_through
def t_acts (c0 : Nat) (c1 : Nat) : Fd := ⟨3, 3, [], false, (.cons (.ex (.call c0 (.cons (.var 0) (.cons (.var 1) (.cons (.var 2) .nil))) .nil none)) (.cons (.ret (.bi .tuple (.cons (.call c1 (.cons (.var 0) (.cons (.var 1) (.cons (.var 2) .nil))) .nil none) .nil))) .nil))⟩  -- check_law_worded acts_by
def t_all_words (c0 : Nat) (c1 : Nat) (c2 : Nat) : Fd := ⟨2, 2, [], false, (.cons (.ex (.call c0 (.cons (.var 0) .nil) .nil none)) (.cons (.iff (.not (.call c1 (.cons (.var 1) (.cons (.lit (.int 1)) (.cons (.gl "MOST_WORD" (.int 7)) .nil))) .nil none)) (.cons (.raise 0 .nil) .nil) .nil) (.cons (.ret (.bi .tuple (.cons (.call c2 (.cons (.var 0) (.cons (.var 1) .nil)) .nil none) .nil))) .nil)))⟩  -- check_sounds is_between words_by
def t_law_pool_2 (c0 : Int) (c1 : Int) (c2 : Int) (c3 : Int) (c4 : Int) (c5 : Int) : Fd := ⟨2, 5, [], true, (.cons (.asg (.tup (.cons (.name 2) (.cons (.name 3) .nil))) (.tup (.cons (.ite (.cmp .lt (.var 1) (.bi .len (.cons (.var 0) .nil))) (.bi .int (.cons (.idx (.var 0) (.var 1)) .nil)) (.bin .add (.bin .mul (.lit (.int c0)) (.var 1)) (.lit (.int 89)))) (.cons (.bin .add (.lit (.int c1)) (.bin .mul (.lit (.int c2)) (.var 1))) .nil)))) (.cons (.for_ (.name 4) (.val (.sl (.var 0) .none (.some (.lit (.int 6))))) (.cons (.asg (.name 3) (.bin .mod (.bi .int (.cons (.bin .add (.bin .add (.bin .mul (.var 3) (.lit (.int c3))) (.bin .mod (.bi .int (.cons (.var 4) .nil)) (.lit (.int c4)))) (.lit (.int 43))) .nil)) (.lit (.int c4)))) .nil)) (.cons (.ret (.lst true (.cons (.bin .mod (.bi .int (.cons (.bin .add (.var 3) (.bin .mul (.var 2) (.lit (.int c5)))) .nil)) (.lit (.int c4))) (.cons (.ite (.or (.cmp .lt (.var 2) (.lit (.int 0))) (.cmp .ge (.var 2) (.bin .pow (.lit (.int 10)) (.lit (.int 18))))) (.bi .abs (.cons (.var 2) .nil)) (.lit (.int 0))) (.cons (.lit (.int 0)) .nil))))) .nil)))⟩  -- #70001 #61027 #6029 #48271 #2147482937 #1033
def t_law_draw (c0 : Int) (c1 : Int) (c2 : Int) (c3 : Int) (c4 : Int) : Fd := ⟨2, 4, [], false, (.cons (.iff (.cmp .gt (.idx (.var 0) (.lit (.int 1))) (.lit (.int 0))) (.cons (.asg (.tup (.cons (.sub (.var 0) (.lit (.int 1))) (.cons (.name 2) .nil))) (.bi .divmod (.cons (.idx (.var 0) (.lit (.int 1))) (.cons (.var 1) .nil)))) (.cons (.ret (.var 2)) .nil)) .nil) (.cons (.asg (.sub (.var 0) (.lit (.int 2))) (.bin .add (.idx (.var 0) (.lit (.int 2))) (.lit (.int 1)))) (.cons (.asg (.name 3) (.bi .int (.cons (.idx (.var 0) (.lit (.int 0))) .nil))) (.cons (.asg (.sub (.var 0) (.lit (.int 0))) (.bin .mod (.bi .int (.cons (.bin .add (.bin .add (.bin .mul (.var 3) (.bin .add (.bin .mod (.var 3) (.lit (.int c0))) (.lit (.int c1)))) (.bin .mul (.lit (.int c2)) (.idx (.var 0) (.lit (.int 2))))) (.lit (.int 9))) .nil)) (.lit (.int c3)))) (.cons (.ret (.bin .mod (.bi .int (.cons (.bin .fdiv (.idx (.var 0) (.lit (.int 0))) (.lit (.int c4))) .nil)) (.var 1))) .nil)))))⟩  -- #20011 #30011 #70001 #2147482937 #128
def t_law_lots : Fd := ⟨1, 4, [], false, (.cons (.asg (.name 1) (.lst false (.cons (.tup .nil) .nil))) (.cons (.for_ (.name 2) (.val (.var 0)) (.cons (.asg (.name 1) (.bin .add (.var 1) (.comp false [3] (.val (.var 1)) (.name 3) .nil (.fin (.bin .add (.var 3) (.tup (.cons (.var 2) .nil))))))) .nil)) (.cons (.ret (.bi .sorted (.cons (.var 1) .nil))) .nil)))⟩
def t_law_some (c0 : Nat) (c1 : Nat) : Fd := ⟨2, 3, [], false, (.cons (.ret (.call c0 (.cons (.var 0) (.cons (.comp false [2] (.val (.call c1 (.cons (.bi .listrange (.cons (.var 1) .nil)) .nil) .nil none)) (.name 2) (.cons (.cmp .ne (.var 2) (.tup .nil)) .nil) (.fin (.var 2))) .nil)) .nil none)) .nil)⟩  -- _law_pick _law_lots
def t_law_change (c0 : Nat) (c1 : Nat) (c2 : Nat) (c3 : Nat) : Fd := ⟨2, 7, [], false, (.cons (.asg (.name 2) (.call c0 (.cons (.var 0) (.cons (.var 1) .nil)) .nil none)) (.cons (.asg (.name 3) (.comp false [5] (.rng (.var 1)) (.name 5) (.cons (.cmp .ne (.var 5) (.var 2)) .nil) (.fin (.var 5)))) (.cons (.asg (.name 4) (.call c1 (.cons (.var 0) (.cons (.comp false [6] (.val (.call c2 (.cons (.var 3) .nil) .nil none)) (.name 6) (.cons (.cmp .ne (.var 6) (.tup .nil)) .nil) (.fin (.var 6))) .nil)) .nil none)) (.cons (.ret (.tup (.cons (.var 4) (.cons (.var 2) (.cons (.call c3 (.cons (.var 0) (.cons (.bin .add (.var 1) (.lit (.int 1))) .nil)) .nil none) (.cons (.call c3 (.cons (.var 0) (.cons (.bin .add (.var 1) (.lit (.int 1))) .nil)) .nil none) .nil)))))) .nil))))⟩  -- _law_draw _law_pick _law_lots _law_some
def t_law_sounds (c0 : Nat) : Fd := ⟨1, 1, [], false, (.cons (.ret (.ite (.cmp .eq (.call c0 (.cons (.var 0) (.cons (.lit (.int 3)) .nil)) .nil none) (.lit (.int 0))) (.lit (.int 3)) (.lit (.int 2)))) .nil)⟩  -- _law_draw
def t_law_word (c0 : Nat) : Fd := ⟨3, 4, [], false, (.cons (.ret (.bi .tuple (.cons (.comp false [3] (.rng (.bin .add (.lit (.int 1)) (.call c0 (.cons (.var 0) (.cons (.var 2) .nil)) .nil none))) (.name 3) .nil (.fin (.call c0 (.cons (.var 0) (.cons (.var 1) .nil)) .nil none))) .nil))) .nil)⟩  -- _law_draw
def t_law_at : Fd := ⟨3, 3, [], false, (.cons (.ret (.ite (.cmp2 .le .lt (.lit (.int 0)) (.var 2) (.bi .len (.cons (.var 1) .nil))) (.idx (.var 1) (.var 2)) (.var 0))) .nil)⟩
def t_law_does (c0 : Nat) : Fd := ⟨4, 4, [], false, (.cons (.iff (.or (.cmp .notin (.idx (.var 2) (.var 3)) (.idx (.var 1) (.lit (.int 0)))) (.cmp .notin (.call c0 (.cons (.var 0) (.cons (.var 2) (.cons (.bin .sub (.var 3) (.lit (.int 1))) .nil))) .nil none) (.idx (.var 1) (.lit (.int 2))))) (.cons (.ret (.lit (.bl false))) .nil) .nil) (.cons (.ret (.cmp .inn (.call c0 (.cons (.var 0) (.cons (.var 2) (.cons (.bin .add (.var 3) (.lit (.int 1))) .nil))) .nil none) (.idx (.var 1) (.lit (.int 3))))) .nil))⟩  -- _law_at
def t_law_acts (c0 : Nat) : Fd := ⟨3, 4, [], false, (.cons (.ret (.bi .tuple (.cons (.comp false [3] (.rng (.bi .len (.cons (.var 2) .nil))) (.name 3) (.cons (.call c0 (.cons (.var 0) (.cons (.var 1) (.cons (.var 2) (.cons (.var 3) .nil)))) .nil none) .nil) (.fin (.var 3))) .nil))) .nil)⟩  -- _law_does
def t_law_made (c0 : Nat) : Fd := ⟨3, 4, [], false, (.cons (.ret (.bi .tuple (.cons (.comp false [3] (.rng (.bi .len (.cons (.var 2) .nil))) (.name 3) .nil (.fin (.ite (.call c0 (.cons (.var 0) (.cons (.var 1) (.cons (.var 2) (.cons (.var 3) .nil)))) .nil none) (.idx (.var 1) (.lit (.int 1))) (.idx (.var 2) (.var 3))))) .nil))) .nil)⟩  -- _law_does
def t_law_words_2 : Fd := ⟨2, 7, [], false, (.cons (.asg (.name 2) (.lst false (.cons (.tup .nil) .nil))) (.cons (.for_ (.name 3) (.rng (.var 1)) (.cons (.asg (.name 4) (.lst false .nil)) (.cons (.for_ (.name 5) (.val (.var 2)) (.cons (.asg (.name 4) (.bin .add (.var 4) (.comp false [6] (.rng (.var 0)) (.name 6) .nil (.fin (.bin .add (.var 5) (.tup (.cons (.var 6) .nil))))))) .nil)) (.cons (.asg (.name 2) (.var 4)) .nil)))) (.cons (.ret (.var 2)) .nil)))⟩
def t_law_by_place (c0 : Nat) : Fd := ⟨4, 6, [], false, (.cons (.asg (.name 4) (.lstm (.cons (.var 2) .nil))) (.cons (.for_ (.name 5) (.val (.var 3)) (.cons (.iff (.call c0 (.cons (.var 0) (.cons (.var 1) (.cons (.var 4) (.cons (.var 5) .nil)))) .nil none) (.cons (.asg (.sub (.var 4) (.var 5)) (.idx (.var 1) (.lit (.int 1)))) .nil) .nil) .nil)) (.cons (.ret (.bi .tuple (.cons (.var 4) .nil))) .nil)))⟩  -- _law_does
def t_law_right_2 (c0 : Nat) (c1 : Nat) (c2 : Nat) (c3 : Nat) (c4 : Nat) (c5 : Nat) (c6 : Nat) (c7 : Nat) (c8 : Nat) (c9 : Nat) (c10 : Nat) (c11 : Nat) (c12 : Nat) (c13 : Nat) (c14 : Nat) : Fd := ⟨1, 13, [], false, (.cons (.for_ (.name 1) (.rng (.lit (.int 6))) (.cons (.asg (.name 2) (.call c0 (.cons (.var 0) .nil) .nil none)) (.cons (.asg (.tup (.cons (.name 3) (.cons (.name 4) (.cons (.name 5) .nil)))) (.tup (.cons (.call c1 (.cons (.var 0) (.cons (.var 2) .nil)) .nil none) (.cons (.call c2 (.cons (.var 0) (.cons (.var 2) (.cons (.lit (.int 3)) .nil))) .nil none) (.cons (.call c3 (.cons (.var 0) (.cons (.var 2) (.cons (.lit (.int 7)) .nil))) .nil none) .nil))))) (.cons (.iff (.cmp .ne (.call c4 (.cons (.var 2) (.cons (.var 3) (.cons (.var 5) .nil))) .nil none) (.call c5 (.cons (.var 2) (.cons (.var 3) (.cons (.var 5) .nil))) .nil none)) (.cons (.ret (.lit (.bl false))) .nil) .nil) (.cons (.iff (.cmp .ne (.call c4 .nil (.cons (.var 5) (.cons (.var 3) (.cons (.var 2) .nil))) (some [2, 1, 0])) (.call c4 (.cons (.var 2) (.cons (.var 3) (.cons (.var 5) .nil))) .nil none)) (.cons (.ret (.lit (.bl false))) .nil) .nil) (.cons (.asg (.name 6) (.lst true (.cons (.var 5) .nil))) (.cons (.for_ (.name 7) (.val (.var 4)) (.cons (.ex (.app (.var 6) (.call c6 (.cons (.var 2) (.cons (.var 7) (.cons (.idx (.var 6) (.neg (.lit (.int 1)))) .nil))) .nil none))) .nil)) (.cons (.iff (.or (.cmp .ne (.call c7 (.cons (.var 2) (.cons (.var 4) (.cons (.var 5) .nil))) .nil none) (.idx (.var 6) (.neg (.lit (.int 1))))) (.cmp .ne (.call c7 .nil (.cons (.var 4) (.cons (.var 5) (.cons (.var 2) .nil))) (some [2, 0, 1])) (.idx (.var 6) (.neg (.lit (.int 1)))))) (.cons (.ret (.lit (.bl false))) .nil) .nil) (.cons (.iff (.or (.cmp .ne (.call c8 (.cons (.var 2) (.cons (.var 4) (.cons (.var 5) .nil))) .nil none) (.bi .tuple (.cons (.var 6) .nil))) (.cmp .ne (.call c8 .nil (.cons (.var 5) (.cons (.var 4) (.cons (.var 2) .nil))) (some [2, 1, 0])) (.bi .tuple (.cons (.var 6) .nil)))) (.cons (.ret (.lit (.bl false))) .nil) .nil) (.cons (.asg (.name 8) (.bi .listrange (.cons (.bi .len (.cons (.var 5) .nil)) .nil))) (.cons (.asg (.tup (.cons (.name 9) (.cons (.name 10) .nil))) (.tup (.cons (.call c9 (.cons (.var 2) (.cons (.var 3) (.cons (.var 5) (.cons (.var 8) .nil)))) .nil none) (.cons (.call c9 (.cons (.var 2) (.cons (.var 3) (.cons (.var 5) (.cons (.rev (.var 8)) .nil)))) .nil none) .nil)))) (.cons (.iff (.cmp .ne (.lst false (.cons (.call c10 (.cons (.var 2) (.cons (.var 3) (.cons (.var 5) .nil))) .nil none) (.cons (.call c11 (.cons (.var 2) (.cons (.var 3) (.cons (.var 5) .nil))) .nil none) .nil))) (.lst false (.cons (.var 9) (.cons (.var 10) .nil)))) (.cons (.ret (.lit (.bl false))) .nil) .nil) (.cons (.iff (.cmp .ne (.call c10 .nil (.cons (.var 5) (.cons (.var 2) (.cons (.var 3) .nil))) (some [1, 2, 0])) (.var 9)) (.cons (.ret (.lit (.bl false))) .nil) .nil) (.cons (.iff (.cmp .ne (.call c11 .nil (.cons (.var 3) (.cons (.var 5) (.cons (.var 2) .nil))) (some [2, 0, 1])) (.var 10)) (.cons (.ret (.lit (.bl false))) .nil) .nil) .nil)))))))))))))) (.cons (.asg (.tup (.cons (.name 2) (.cons (.name 11) .nil))) (.tup (.cons (.call c0 (.cons (.var 0) .nil) .nil none) (.cons (.bin .add (.lit (.int 1)) (.call c12 (.cons (.var 0) (.cons (.lit (.int 5)) .nil)) .nil none)) .nil)))) (.cons (.asg (.name 12) (.bi .tuple (.cons (.call c13 (.cons (.var 2) (.cons (.var 11) .nil)) .nil none) .nil))) (.cons (.ret (.and (.cmp .eq (.call c14 (.cons (.var 2) (.cons (.var 11) .nil)) .nil none) (.var 12)) (.cmp .eq (.call c14 .nil (.cons (.var 11) (.cons (.var 2) .nil)) (some [1, 0])) (.var 12)))) .nil))))⟩  -- _law_sounds _law_change _law_book _law_word acts _law_acts _law_made done steps _law_by_place forwards backwards _law_draw _law_words all_words
def t_law_2 (c0 : Nat) (c1 : Nat) : Fd := ⟨1, 2, [], false, (.cons (.ret (.bi .all (.cons (.comp false [1] (.rng (.bi .max2 (.cons (.lit (.int 2)) (.cons (.bi .min2 (.cons (.bi .len (.cons (.var 0) .nil)) (.cons (.lit (.int 3)) .nil))) .nil)))) (.name 1) .nil (.fin (.call c0 (.cons (.call c1 (.cons (.var 0) (.cons (.var 1) .nil)) .nil none) .nil) .nil none))) .nil))) .nil)⟩  -- _law_right _law_pool
def t_is_length (c0 : Nat) : Fd := ⟨1, 1, [], false, (.cons (.ret (.call c0 (.cons (.var 0) (.cons (.lit (.int 1)) (.cons (.gl "MOST_LENGTH" (.int 6)) .nil))) .nil none)) .nil)⟩  -- is_between
def t_words_upto (c0 : Nat) : Fd := ⟨2, 4, [], false, (.cons (.asg (.name 2) (.lst true .nil)) (.cons (.for_ (.name 3) (.rng2 (.lit (.int 1)) (.bin .add (.var 1) (.lit (.int 1)))) (.cons (.ex (.ext (.var 2) (.call c0 (.cons (.var 0) (.cons (.var 3) .nil)) .nil none))) .nil)) (.cons (.ret (.var 2)) .nil)))⟩  -- words_by
def t_has_all : Fd := ⟨2, 3, [], false, (.cons (.ret (.bi .all (.cons (.comp false [2] (.val (.var 1)) (.name 2) .nil (.fin (.cmp .inn (.var 2) (.var 0)))) .nil))) .nil)⟩
def t_is_wider_by (c0 : Nat) : Fd := ⟨2, 2, [], false, (.cons (.ret (.and (.call c0 (.cons (.idx (.var 0) (.lit (.int 0))) (.cons (.idx (.var 1) (.lit (.int 0))) .nil)) .nil none) (.and (.call c0 (.cons (.idx (.var 0) (.lit (.int 2))) (.cons (.idx (.var 1) (.lit (.int 2))) .nil)) .nil none) (.call c0 (.cons (.idx (.var 0) (.lit (.int 3))) (.cons (.idx (.var 1) (.lit (.int 3))) .nil)) .nil none)))) .nil)⟩  -- has_all
def t_both_by (c0 : Nat) (c1 : Nat) : Fd := ⟨3, 5, [], false, (.cons (.for_ (.name 3) (.val (.call c0 (.cons (.var 0) (.cons (.gl "SHORT" (.int 3)) .nil)) .nil none)) (.cons (.iff (.bi .any (.cons (.comp false [4] (.val (.call c1 (.cons (.var 0) (.cons (.var 1) (.cons (.var 3) .nil))) .nil none)) (.name 4) .nil (.fin (.cmp .inn (.var 4) (.call c1 (.cons (.var 0) (.cons (.var 2) (.cons (.var 3) .nil))) .nil none)))) .nil)) (.cons (.ret (.var 3)) .nil) .nil) .nil)) (.cons (.ret (.lit .non)) .nil))⟩  -- words_upto acts_by
def t_most_by (c0 : Nat) (c1 : Nat) : Fd := ⟨3, 4, [], false, (.cons (.ret (.bi .max (.cons (.comp false [3] (.val (.call c0 (.cons (.var 0) (.cons (.var 2) .nil)) .nil none)) (.name 3) .nil (.fin (.bi .len (.cons (.call c1 (.cons (.var 0) (.cons (.var 1) (.cons (.var 3) .nil))) .nil none) .nil)))) .nil))) .nil)⟩  -- words_by acts_by
def t_acting_by (c0 : Nat) (c1 : Nat) : Fd := ⟨3, 4, [], false, (.cons (.ret (.bi .len (.cons (.comp false [3] (.val (.call c0 (.cons (.var 0) (.cons (.var 2) .nil)) .nil none)) (.name 3) (.cons (.cmp .ne (.call c1 (.cons (.var 0) (.cons (.var 1) (.cons (.var 3) .nil))) .nil none) (.lst false .nil)) .nil) (.fin (.lit (.int 1)))) .nil))) .nil)⟩  -- words_by acts_by
def t_check_two_laws (c0 : Nat) (c1 : Nat) : Fd := ⟨3, 3, [], false, (.cons (.ex (.call c0 (.cons (.var 0) .nil) .nil none)) (.cons (.ex (.call c1 (.cons (.var 0) (.cons (.var 1) .nil)) .nil none)) (.cons (.ex (.call c1 (.cons (.var 0) (.cons (.var 2) .nil)) .nil none)) .nil)))⟩  -- check_sounds check_law
def t_check_acting (c0 : Nat) (c1 : Nat) (c2 : Nat) : Fd := ⟨3, 3, [], false, (.cons (.ex (.call c0 (.cons (.var 0) .nil) .nil none)) (.cons (.ex (.call c1 (.cons (.var 0) (.cons (.var 1) .nil)) .nil none)) (.cons (.ex (.call c2 (.cons (.var 2) .nil) .nil none)) .nil)))⟩  -- check_sounds check_law check_length
def t_is_wider (c0 : Nat) (c1 : Nat) : Fd := ⟨3, 3, [], false, (.cons (.ex (.call c0 (.cons (.var 0) (.cons (.var 1) (.cons (.var 2) .nil))) .nil none)) (.cons (.ret (.call c1 (.cons (.var 1) (.cons (.var 2) .nil)) .nil none)) .nil))⟩  -- check_two_laws is_wider_by
def t_law_up_to (c0 : Nat) : Fd := ⟨2, 4, [], false, (.cons (.asg (.name 2) (.lst false .nil)) (.cons (.for_ (.name 3) (.rng2 (.lit (.int 1)) (.bin .add (.var 1) (.lit (.int 1)))) (.cons (.asg (.name 2) (.bin .add (.var 2) (.call c0 (.cons (.var 0) (.cons (.var 3) .nil)) .nil none))) .nil)) (.cons (.ret (.var 2)) .nil)))⟩  -- _law_words
def t_law_holds : Fd := ⟨2, 4, [], false, (.cons (.ret (.cmp .eq (.comp false [2] (.val (.lst false (.cons (.lit (.int 0)) (.cons (.lit (.int 2)) (.cons (.lit (.int 3)) .nil))))) (.name 2) (.cons (.cmp .ne (.comp false [3] (.val (.idx (.var 1) (.var 2))) (.name 3) (.cons (.cmp .notin (.var 3) (.idx (.var 0) (.var 2))) .nil) (.fin (.var 3))) (.lst false .nil)) .nil) (.fin (.var 2))) (.lst false .nil))) .nil)⟩
def t_law_near (c0 : Nat) : Fd := ⟨3, 6, [], false, (.cons (.asg (.name 3) (.lstm (.cons (.var 2) .nil))) (.cons (.for_ (.name 4) (.val (.lst false (.cons (.lit (.int 0)) (.cons (.lit (.int 2)) (.cons (.lit (.int 3)) .nil))))) (.cons (.iff (.and (.cmp .gt (.bi .len (.cons (.idx (.var 2) (.var 4)) .nil)) (.lit (.int 1))) (.cmp .eq (.call c0 (.cons (.var 0) (.cons (.lit (.int 2)) .nil)) .nil none) (.lit (.int 0)))) (.cons (.asg (.name 5) (.call c0 (.cons (.var 0) (.cons (.bi .len (.cons (.idx (.var 2) (.var 4)) .nil)) .nil)) .nil none)) (.cons (.asg (.sub (.var 3) (.var 4)) (.bin .add (.sl (.idx (.var 2) (.var 4)) .none (.some (.var 5))) (.sl (.idx (.var 2) (.var 4)) (.some (.bin .add (.var 5) (.lit (.int 1)))) .none))) .nil)) .nil) .nil)) (.cons (.ret (.bi .tuple (.cons (.var 3) .nil))) .nil)))⟩  -- _law_draw
def t_law_right_3 (c0 : Nat) (c1 : Nat) (c2 : Nat) (c3 : Nat) (c4 : Nat) (c5 : Nat) (c6 : Nat) (c7 : Nat) (c8 : Nat) (c9 : Nat) (c10 : Nat) (c11 : Nat) (c12 : Nat) (c13 : Nat) : Fd := ⟨1, 16, [], false, (.cons (.for_ (.name 1) (.rng (.lit (.int 6))) (.cons (.asg (.name 2) (.call c0 (.cons (.var 0) .nil) .nil none)) (.cons (.asg (.name 3) (.call c1 (.cons (.var 0) (.cons (.var 2) .nil)) .nil none)) (.cons (.asg (.name 4) (.ite (.cmp .eq (.call c2 (.cons (.var 0) (.cons (.lit (.int 2)) .nil)) .nil none) (.lit (.int 0))) (.call c3 (.cons (.var 0) (.cons (.var 2) (.cons (.var 3) .nil))) .nil none) (.call c1 (.cons (.var 0) (.cons (.var 2) .nil)) .nil none))) (.cons (.for_ (.tup [5, 6]) (.val (.lst false (.cons (.tup (.cons (.var 3) (.cons (.var 4) .nil))) (.cons (.tup (.cons (.var 4) (.cons (.var 3) .nil))) (.cons (.tup (.cons (.var 3) (.cons (.var 3) .nil))) .nil))))) (.cons (.asg (.tup (.cons (.name 7) (.cons (.name 8) .nil))) (.tup (.cons (.lst false .nil) (.cons (.lit .non) .nil)))) (.cons (.for_ (.name 9) (.val (.call c4 (.cons (.var 2) (.cons (.lit (.int 3)) .nil)) .nil none)) (.cons (.asg (.name 10) (.lst false (.cons (.call c5 (.cons (.var 2) (.cons (.var 5) (.cons (.var 9) .nil))) .nil none) (.cons (.call c5 (.cons (.var 2) (.cons (.var 6) (.cons (.var 9) .nil))) .nil none) .nil)))) (.cons (.asg (.name 7) (.bin .add (.var 7) (.comp false [14] (.val (.idx (.var 10) (.lit (.int 1)))) (.name 14) (.cons (.cmp .notin (.var 14) (.idx (.var 10) (.lit (.int 0)))) .nil) (.fin (.var 14))))) (.cons (.iff (.and (.cmp .is (.var 8) (.lit .non)) (.cmp .ne (.comp false [14] (.val (.idx (.var 10) (.lit (.int 0)))) (.name 14) (.cons (.cmp .inn (.var 14) (.idx (.var 10) (.lit (.int 1)))) .nil) (.fin (.var 14))) (.lst false .nil))) (.cons (.asg (.name 8) (.var 9)) .nil) .nil) .nil)))) (.cons (.iff (.or (.cmp .ne (.call c6 (.cons (.var 2) (.cons (.var 5) (.cons (.var 6) .nil))) .nil none) (.cmp .eq (.var 7) (.lst false .nil))) (.cmp .ne (.cmp .eq (.var 7) (.lst false .nil)) (.call c7 (.cons (.var 5) (.cons (.var 6) .nil)) .nil none))) (.cons (.ret (.lit (.bl false))) .nil) .nil) (.cons (.iff (.cmp .ne (.call c6 .nil (.cons (.var 6) (.cons (.var 5) (.cons (.var 2) .nil))) (some [2, 1, 0])) (.cmp .eq (.var 7) (.lst false .nil))) (.cons (.ret (.lit (.bl false))) .nil) .nil) (.cons (.iff (.cmp .ne (.bi .repr (.cons (.call c8 (.cons (.var 2) (.cons (.var 5) (.cons (.var 6) .nil))) .nil none) .nil)) (.bi .repr (.cons (.var 8) .nil))) (.cons (.ret (.lit (.bl false))) .nil) .nil) (.cons (.iff (.cmp .ne (.bi .repr (.cons (.call c8 .nil (.cons (.var 6) (.cons (.var 5) (.cons (.var 2) .nil))) (some [2, 1, 0])) .nil)) (.bi .repr (.cons (.var 8) .nil))) (.cons (.ret (.lit (.bl false))) .nil) .nil) .nil))))))) (.cons (.iff (.and (.call c6 (.cons (.var 2) (.cons (.var 3) (.cons (.var 4) .nil))) .nil none) (.call c6 (.cons (.var 2) (.cons (.var 4) (.cons (.var 3) .nil))) .nil none)) (.cons (.asg (.name 9) (.call c9 (.cons (.var 0) (.cons (.var 2) (.cons (.lit (.int 7)) .nil))) .nil none)) (.cons (.iff (.cmp .ne (.call c10 (.cons (.var 2) (.cons (.var 3) (.cons (.var 9) .nil))) .nil none) (.call c10 (.cons (.var 2) (.cons (.var 4) (.cons (.var 9) .nil))) .nil none)) (.cons (.ret (.lit (.bl false))) .nil) .nil) .nil)) .nil) (.cons (.asg (.name 11) (.bin .add (.lit (.int 1)) (.call c2 (.cons (.var 0) (.cons (.ite (.cmp .eq (.var 2) (.lit (.int 2))) (.lit (.int 5)) (.lit (.int 4))) .nil)) .nil none))) (.cons (.asg (.name 10) (.comp false [9] (.val (.call c11 (.cons (.var 2) (.cons (.var 11) .nil)) .nil none)) (.name 9) .nil (.fin (.bi .len (.cons (.call c5 (.cons (.var 2) (.cons (.var 3) (.cons (.var 9) .nil))) .nil none) .nil))))) (.cons (.asg (.name 12) (.lst false (.cons (.bi .max (.cons (.var 10) .nil)) (.cons (.bi .len (.cons (.comp false [15] (.val (.var 10)) (.name 15) (.cons (.cmp .gt (.var 15) (.lit (.int 0))) .nil) (.fin (.var 15))) .nil)) .nil)))) (.cons (.iff (.cmp .ne (.lst false (.cons (.call c12 (.cons (.var 2) (.cons (.var 3) (.cons (.var 11) .nil))) .nil none) (.cons (.call c13 (.cons (.var 2) (.cons (.var 3) (.cons (.var 11) .nil))) .nil none) .nil))) (.var 12)) (.cons (.ret (.lit (.bl false))) .nil) .nil) (.cons (.asg (.name 13) (.lst false (.cons (.call c12 .nil (.cons (.var 11) (.cons (.var 3) (.cons (.var 2) .nil))) (some [2, 1, 0])) .nil))) (.cons (.iff (.cmp .ne (.bin .add (.var 13) (.lst false (.cons (.call c13 .nil (.cons (.var 11) (.cons (.var 3) (.cons (.var 2) .nil))) (some [2, 1, 0])) .nil))) (.var 12)) (.cons (.ret (.lit (.bl false))) .nil) .nil) .nil)))))))))))) (.cons (.ret (.lit (.bl true))) .nil))⟩  -- _law_sounds _law_change _law_draw _law_near _law_up_to _law_acts is_wider _law_holds first_both _law_word acts _law_words most_acts count_acting
end Y
end
section
set_option maxRecDepth 100000
set_option Elab.async false
set_option linter.all false
namespace Y
open PySem
local macro_rules | `(tactic| tm_at "run") => `(tactic| refine Res.eq_of_wp (run_wp rfl ?_))
/-! ### all words up to a length -/
def upto (s : Int) (n : Nat) : List (List Int) := (List.range n).flatMap fun k => wds s (k + 1)
theorem upto_succ (s : Int) (n : Nat) : upto s (n + 1) = upto s n ++ wds s (n + 1) := by simp [upto, List.range_succ]
theorem wds_le {s : Int} {n : Nat} (hs : s ≤ 3) (hn : n ≤ 9) : (wds s n).length ≤ 19683 := by
  rw [wds_len]
  calc s.toNat ^ n ≤ 3 ^ n := Nat.pow_le_pow_left (by omega) _
    _ ≤ 3 ^ 9 := Nat.pow_le_pow_right (by omega) hn
    _ = 19683 := by decide
theorem upto_le {s : Int} (hs : s ≤ 3) : ∀ n, n ≤ 9 → (upto s n).length ≤ n * 19683
  | 0, _ => by simp [upto]
  | n + 1, h => by
    have h1 := upto_le hs n (by omega)
    have h2 := wds_le hs h
    rw [upto_succ, List.length_append]; omega
theorem upto_mem {s : Int} {n : Nat} {w : List Int} (h : w ∈ upto s n) : 1 ≤ w.length ∧ w.length ≤ n ∧ ∀ i ∈ w, 0 ≤ i ∧ i ≤ s - 1 := by
  simp only [upto, List.mem_flatMap, List.mem_range] at h
  obtain ⟨k, hk, hw⟩ := h
  have := mem_wds_len hw
  exact ⟨by omega, by omega, wds_mem hw⟩
def Q_words_upto (F : Fun) : Prop := ∀ (s : Int) (n : Nat) (st : Sto), 0 ≤ s → s ≤ 3 → n ≤ 9 → F [.int s, .int n] st = .ok (LW (upto s n)) st
theorem ok_words_upto {C : Cs} {c0 : Nat} (h0 : Q_words_by (C.fn c0)) : Q_words_upto (runFd C (t_words_upto c0)) := by
  intro s n st hs hs2 hn
  tm_at "run"
  have h1 : i62 ((n : Int) + 1) = true := i62_of (by omega) (by omega)
  have hz : i62 1 = true := by decide
  have e1 : ((n : Int) + 1 - 1).toNat = n := by omega
  simp [t_words_upto, h1, hz]
  refine forM_ind (fun k ρ st' => st' = st ++ [.lst ((upto s k).map W)] ∧ ∃ o3, ρ = ⟨[some (.int s), some (.int n), some (.ref st.length), o3], [], st.length⟩) ⟨by simp [upto], none, rfl⟩ ?_ ?_
  · rintro k x ρ st' hx ⟨rfl, o3, rfl⟩
    obtain ⟨hk, hj⟩ := range_get hx
    subst hj
    obtain ⟨j, rfl⟩ : ∃ j, j = x := ⟨x, rfl⟩
    have e : (1 + (j : Int)) = ((j + 1 : Nat) : Int) := by omega
    have hl1 := upto_le hs2 j (by omega)
    have hl2 := wds_le (s := s) (n := j + 1) hs2 (by omega)
    have hl3 : j * 19683 ≤ 9 * 19683 := Nat.mul_le_mul_right _ (by omega)
    have hw := fun st => h0 s (j + 1) st hs hs2 (by omega)
    rw [← e] at hw
    have hx' := ext_ref (base := st.length) (ys := (wds s (j + 1)).map W) (get_top st (.lst ((upto s j).map W))) (Nat.le_refl _) (line_of (by simp; omega))
    simp only [lst_W1] at hx'
    simp [hw, hx', upto_succ, isL_ref (get_top st _)]
  · rintro ρ st' ⟨rfl, o3, rfl⟩
    have e2 : ((List.range n).map fun (k : Nat) => D.int (1 + (k : Int))).length = n := by simp
    simp
    exact finQ_fresh (get_top _ _) (Nat.le_refl _) (by simp) (by simp)
end Y
end
section
set_option maxRecDepth 100000
set_option Elab.async false
set_option linter.all false
namespace Y
open PySem
/-! ### the words of a length: all of them, each once -/
theorem mem_wds {s : Int} : ∀ (n : Nat) (w : List Int), w.length = n → (∀ i ∈ w, 0 ≤ i ∧ i ≤ s - 1) → w ∈ wds s n
  | 0, w, hl, _ => by
    have : w = [] := List.length_eq_zero_iff.mp hl
    simp [this, wds]
  | n + 1, w, hl, h => by
    have hne : w ≠ [] := by intro e; simp [e] at hl
    have e := List.dropLast_concat_getLast hne
    have hlast := h _ (List.getLast_mem hne)
    have ih := mem_wds n w.dropLast (by simp [hl]) (fun i hi => h i (List.dropLast_subset w hi))
    simp only [wds, List.mem_flatMap, List.mem_map, List.mem_range]
    refine ⟨_, ih, (w.getLast hne).toNat, by omega, ?_⟩
    rw [show (((w.getLast hne).toNat : Nat) : Int) = w.getLast hne by omega]
    exact e
theorem wds_nodup (s : Int) : ∀ n : Nat, (wds s n).Nodup
  | 0 => by simp [wds]
  | n + 1 => by
    unfold wds List.Nodup
    rw [List.pairwise_flatMap]
    refine ⟨fun w _ => ?_, ?_⟩
    · rw [List.pairwise_map]
      refine List.Pairwise.imp ?_ (List.nodup_range (n := s.toNat))
      intro a b h e
      have := List.append_cancel_left e
      simp at this
      exact h (by omega)
    · refine List.Pairwise.imp ?_ (wds_nodup s n)
      intro a b h x hx y hy e
      obtain ⟨k, _, rfl⟩ := List.mem_map.mp hx
      obtain ⟨j, _, rfl⟩ := List.mem_map.mp hy
      exact h (List.append_inj_left' e rfl)
theorem wds_iff {s : Int} {n : Nat} {w : List Int} : w ∈ wds s n ↔ w.length = n ∧ ∀ i ∈ w, 0 ≤ i ∧ i ≤ s - 1 := ⟨fun h => ⟨mem_wds_len h, wds_mem h⟩, fun h => mem_wds n w h.1 h.2⟩
theorem doneB_wds {s : Int} {b : List Lw} {n : Nat} {w : List Int} (hb : b.all (okLaw s) = true) (h : w ∈ wds s n) : doneB s b w ∈ wds s n := by
  rw [wds_iff] at h ⊢
  exact ⟨by simpa using h.1, doneB_ok hb h.2⟩
theorem nodup_filter {α : Type} {p : α → Bool} {l : List α} (h : l.Nodup) : (l.filter p).Nodup := List.Pairwise.filter p h
end Y
end
section
set_option maxRecDepth 100000
set_option Elab.async false
set_option linter.all false
namespace Y
open PySem
/-! ### what becomes of a sound depends on what stands near -/
theorem gi_work {s : Int} {c : Lw} {w : List Int} {p : Nat} (h : p < w.length) : gi (work s c w) p = if actsAt s c w p then c.to else gi w p := by
  unfold work
  rw [gi, List.getD_eq_getElem?_getD, List.getElem?_map, List.getElem?_range h]; rfl
/-- v is a part of w, from i on; it is told between lo and hi. L: v begins as w does, R: it ends as w does -/
structure Part (w v : List Int) (i lo hi : Nat) (L R : Bool) : Prop where
  hv : hi ≤ v.length
  hw : i + v.length ≤ w.length
  same : ∀ q, lo ≤ q → q < hi → gi v q = gi w (q + i)
  left : L = true → i = 0 ∧ lo = 0
  right : R = true → hi = v.length ∧ i + v.length = w.length
theorem Part.step {s : Int} {c : Lw} {w v : List Int} {i lo hi : Nat} {L R : Bool} (P : Part w v i lo hi L R) : Part (work s c w) (work s c v) i (if L then 0 else lo + 1) (if R then hi else hi - 1) L R := by
  have hv := P.hv
  have hw := P.hw
  refine ⟨?_, by simpa using P.hw, fun q h1 h2 => ?_, fun h => ?_, fun h => ?_⟩
  · rw [work_len]; split <;> omega
  · have hlo : lo ≤ q := by
      cases L with
      | true => have := P.left rfl; omega
      | false => simp at h1; omega
    have hhi : q < hi := by
      cases R with
      | true => simpa using h2
      | false => simp at h2; omega
    have e0 := P.same q hlo hhi
    have ea : aheadOf s v q = aheadOf s w (q + i) := by
      unfold aheadOf
      by_cases hq : q = 0
      · subst hq
        cases L with
        | true => obtain ⟨rfl, _⟩ := P.left rfl; simp
        | false => simp at h1
      · have hqi : ¬ q + i = 0 := by omega
        rw [if_neg hq, if_neg hqi]
        have hlo' : lo ≤ q - 1 := by
          cases L with
          | true => have := P.left rfl; omega
          | false => simp at h1; omega
        rw [P.same (q - 1) hlo' (by omega)]
        congr 1; omega
    have eb : behindOf s v q = behindOf s w (q + i) := by
      unfold behindOf
      by_cases hq : q + 1 < v.length
      · have hqi : q + i + 1 < w.length := by omega
        rw [if_pos hq, if_pos hqi]
        have hhi' : q + 1 < hi := by
          cases R with
          | true => have := P.right rfl; omega
          | false => simp at h2; omega
        rw [P.same (q + 1) (by omega) hhi']
        congr 1; omega
      · have hqi : ¬ q + i + 1 < w.length := by
          cases R with
          | true => have := P.right rfl; omega
          | false => simp at h2; omega
        rw [if_neg hq, if_neg hqi]
    have eact : actsAt s c v q = actsAt s c w (q + i) := by unfold actsAt; rw [e0, ea, eb]
    rw [gi_work (by omega), gi_work (by omega), eact, e0]
  · obtain ⟨h1, h2⟩ := P.left h
    simp [h, h1]
  · obtain ⟨h1, h2⟩ := P.right h
    simp [h, h1, h2]
theorem Part.done {s : Int} : ∀ {b : List Lw} {w v : List Int} {i lo hi : Nat} {L R : Bool}, Part w v i lo hi L R → Part (doneB s b w) (doneB s b v) i (if L then 0 else lo + b.length) (if R then hi else hi - b.length) L R
  | [], w, v, i, lo, hi, L, R, P => by
    have e1 : (if L = true then 0 else lo + ([] : List Lw).length) = lo := by
      cases L with
      | true => have := P.left rfl; simp [this]
      | false => simp
    have e2 : (if R = true then hi else hi - ([] : List Lw).length) = hi := by cases R <;> simp
    rw [e1, e2]; exact P
  | c :: b, w, v, i, lo, hi, L, R, P => by
    have h := (P.step (s := s) (c := c)).done (b := b) (s := s)
    have e1 : (if L = true then 0 else (if L = true then 0 else lo + 1) + b.length) = (if L = true then 0 else lo + (c :: b).length) := by cases L <;> simp; omega
    have e2 : (if R = true then (if R = true then hi else hi - 1) else (if R = true then hi else hi - 1) - b.length) = (if R = true then hi else hi - (c :: b).length) := by cases R <;> simp; omega
    rw [e1, e2] at h
    exact h
/-- the part of w that n places ahead of p and n places behind q show -/
def cutW (w : List Int) (p q n : Nat) : List Int := (w.drop (p - n)).take (q + 1 + n - (p - n))
theorem gi_cut {w : List Int} {i m q : Nat} (h : q < m) (h2 : i + q < w.length) : gi ((w.drop i).take m) q = gi w (q + i) := by
  simp [gi, h, h2, Nat.add_comm]
/-- what stands from p to q behind a book's laws, in the whole word and in the part -/
theorem cut_done {s : Int} {b : List Lw} {w : List Int} {p q n : Nat} (hn : b.length ≤ n) (hpq : p ≤ q) (hq : q < w.length) : ∀ k, p ≤ k → k ≤ q → gi (doneB s b (cutW w p q n)) (k - (p - n)) = gi (doneB s b w) k ∧ k - (p - n) < (cutW w p q n).length := by
  intro k hk hk2
  have hl : (cutW w p q n).length = min (q + 1 + n - (p - n)) (w.length - (p - n)) := by simp [cutW]
  have P : Part w (cutW w p q n) (p - n) 0 (cutW w p q n).length (decide (p ≤ n)) (decide (w.length ≤ q + 1 + n)) := by
    refine ⟨Nat.le_refl _, by rw [hl]; omega, fun j _ hj => ?_, fun h => ?_, fun h => ?_⟩
    · rw [hl] at hj
      exact gi_cut (by omega) (by omega)
    · rw [decide_eq_true_eq] at h; omega
    · rw [decide_eq_true_eq] at h
      rw [hl]; omega
  have D := P.done (s := s) (b := b)
  have hlt : k - (p - n) < (cutW w p q n).length := by rw [hl]; omega
  refine ⟨?_, hlt⟩
  have := D.same (k - (p - n)) ?_ ?_
  · rw [this]; congr 1; omega
  · by_cases h : p ≤ n
    · simp [h]
    · simp [h]; omega
  · by_cases h : w.length ≤ q + 1 + n
    · simp [h]; exact hlt
    · simp [h]; rw [hl]; omega
theorem cut_len {w : List Int} {p q n : Nat} (hpq : p ≤ q) (hq : q < w.length) : 1 ≤ (cutW w p q n).length ∧ (cutW w p q n).length ≤ q - p + 1 + 2 * n := by
  simp only [cutW, List.length_take, List.length_drop]; omega
theorem cut_mem {w : List Int} {p q n : Nat} {i : Int} (h : i ∈ cutW w p q n) : i ∈ w := List.drop_subset _ _ (List.take_subset _ _ h)
end Y
end
section
set_option maxRecDepth 100000
set_option Elab.async false
set_option linter.all false
namespace Y
open PySem
def t_works_of : Fd := ⟨2, 7, [], false, (.cons (.asg (.name 2) (.dnew true)) (.cons (.for_ (.name 3) (.rng (.bin .add (.var 0) (.lit (.int 1)))) (.cons (.for_ (.name 4) (.rng (.var 0)) (.cons (.for_ (.name 5) (.rng (.bin .add (.var 0) (.lit (.int 1)))) (.cons (.asg (.name 6) (.and (.cmp .inn (.var 4) (.idx (.var 1) (.lit (.int 0)))) (.and (.cmp .inn (.var 3) (.idx (.var 1) (.lit (.int 2)))) (.cmp .inn (.var 5) (.idx (.var 1) (.lit (.int 3))))))) (.cons (.asg (.sub (.var 2) (.tup (.cons (.var 3) (.cons (.var 4) (.cons (.var 5) .nil))))) (.ite (.var 6) (.idx (.var 1) (.lit (.int 1))) (.var 4))) .nil))) .nil)) .nil)) (.cons (.ret (.var 2)) .nil)))⟩
def t_all_works (c0 : Nat) : Fd := ⟨2, 3, [], false, (.cons (.ret (.comp false [2] (.val (.var 1)) (.name 2) .nil (.fin (.call c0 (.cons (.var 0) (.cons (.var 2) .nil)) .nil none)))) .nil)⟩  -- works_of
def t_worked : Fd := ⟨3, 6, [], false, (.cons (.asg (.name 3) (.var 2)) (.cons (.for_ (.name 4) (.val (.var 1)) (.cons (.asg (.name 3) (.bi .tuple (.cons (.comp false [5] (.zip3 (.tup (.cons (.var 0) (.star (.var 3) .nil))) (.var 3) (.tup (.star (.sl (.var 3) (.some (.lit (.int 1))) .none) (.cons (.var 0) .nil)))) (.name 5) .nil (.fin (.idx (.var 4) (.var 5)))) .nil))) .nil)) (.cons (.ret (.var 3)) .nil)))⟩
def t_far_of : Fd := ⟨1, 1, [], false, (.cons (.ret (.bin .add (.bin .mul (.lit (.int 2)) (.var 0)) (.lit (.int 1)))) .nil)⟩
def t_parting_by (c0 : Nat) (c1 : Nat) (c2 : Nat) (c3 : Nat) : Fd := ⟨3, 6, [], false, (.cons (.asg (.tup (.cons (.name 3) (.cons (.name 4) .nil))) (.tup (.cons (.call c0 (.cons (.var 0) (.cons (.var 1) .nil)) .nil none) (.cons (.call c0 (.cons (.var 0) (.cons (.var 2) .nil)) .nil none) .nil)))) (.cons (.for_ (.name 5) (.val (.call c1 (.cons (.var 0) (.cons (.call c2 (.cons (.bi .max2 (.cons (.bi .len (.cons (.var 1) .nil)) (.cons (.bi .len (.cons (.var 2) .nil)) .nil))) .nil) .nil none) .nil)) .nil none)) (.cons (.iff (.cmp .ne (.call c3 (.cons (.var 0) (.cons (.var 3) (.cons (.var 5) .nil))) .nil none) (.call c3 (.cons (.var 0) (.cons (.var 4) (.cons (.var 5) .nil))) .nil none)) (.cons (.ret (.var 5)) .nil) .nil) .nil)) (.cons (.ret (.lit .non)) .nil)))⟩  -- all_works words_upto far_of worked
def t_without : Fd := ⟨2, 2, [], false, (.cons (.ret (.tup (.star (.sl (.var 0) .none (.some (.var 1))) (.star (.sl (.var 0) (.some (.bin .add (.var 1) (.lit (.int 1)))) .none) .nil)))) .nil)⟩
def t_idle_by (c0 : Nat) (c1 : Nat) : Fd := ⟨2, 3, [], false, (.cons (.ret (.bi .tuple (.cons (.comp false [2] (.rng (.bi .len (.cons (.var 1) .nil))) (.name 2) (.cons (.cmp .is (.call c0 (.cons (.var 0) (.cons (.call c1 (.cons (.var 1) (.cons (.var 2) .nil)) .nil none) (.cons (.var 1) .nil))) .nil none) (.lit .non)) .nil) (.fin (.var 2))) .nil))) .nil)⟩  -- parting_by without
def t_acts_ever (c0 : Nat) (c1 : Nat) (c2 : Nat) (c3 : Nat) (c4 : Nat) : Fd := ⟨3, 5, [], false, (.cons (.asg (.name 3) (.call c0 (.cons (.var 0) (.cons (.sl (.var 1) .none (.some (.var 2))) .nil)) .nil none)) (.cons (.for_ (.name 4) (.val (.call c1 (.cons (.var 0) (.cons (.call c2 (.cons (.bin .add (.var 2) (.lit (.int 1))) .nil) .nil none) .nil)) .nil none)) (.cons (.iff (.cmp .ne (.call c3 (.cons (.var 0) (.cons (.idx (.var 1) (.var 2)) (.cons (.call c4 (.cons (.var 0) (.cons (.var 3) (.cons (.var 4) .nil))) .nil none) .nil))) .nil none) (.lst false .nil)) (.cons (.ret (.lit (.bl true))) .nil) .nil) .nil)) (.cons (.ret (.lit (.bl false))) .nil)))⟩  -- all_works words_upto far_of acts_by worked
def t_still_by (c0 : Nat) : Fd := ⟨2, 3, [], false, (.cons (.ret (.bi .tuple (.cons (.comp false [2] (.rng (.bi .len (.cons (.var 1) .nil))) (.name 2) (.cons (.not (.call c0 (.cons (.var 0) (.cons (.var 1) (.cons (.var 2) .nil))) .nil none)) .nil) (.fin (.var 2))) .nil))) .nil)⟩  -- acts_ever
def t_are_alike (c0 : Nat) (c1 : Nat) : Fd := ⟨3, 3, [], false, (.cons (.ex (.call c0 (.cons (.var 0) (.cons (.var 1) (.cons (.var 2) .nil))) .nil none)) (.cons (.ret (.cmp .is (.call c1 (.cons (.var 0) (.cons (.var 1) (.cons (.var 2) .nil))) .nil none) (.lit .non))) .nil))⟩  -- check_two_books parting_by
def t_law_well (c0 : Int) (c1 : Int) (c2 : Int) (c3 : Int) (c4 : Int) : Fd := ⟨2, 5, [], true, (.cons (.asg (.name 2) (.ite (.cmp .lt (.var 1) (.bi .len (.cons (.var 0) .nil))) (.bi .int (.cons (.idx (.var 0) (.var 1)) .nil)) (.lit (.int 0)))) (.cons (.asg (.name 3) (.bin .add (.lit (.int c0)) (.bin .mul (.lit (.int c1)) (.var 1)))) (.cons (.for_ (.name 4) (.val (.bin .add (.sl (.var 0) .none (.some (.lit (.int 9)))) (.lst false (.cons (.var 2) .nil)))) (.cons (.asg (.name 3) (.bin .mod (.bi .int (.cons (.bin .add (.bin .add (.bin .mul (.var 3) (.lit (.int c2))) (.bin .mod (.bi .int (.cons (.var 4) .nil)) (.lit (.int c3)))) (.lit (.int 13))) .nil)) (.lit (.int c4)))) .nil)) (.cons (.ret (.lst true (.cons (.ite (.or (.cmp .lt (.var 2) (.lit (.int 0))) (.cmp .ge (.var 2) (.bin .pow (.lit (.int 10)) (.lit (.int 18))))) (.bi .abs (.cons (.var 2) .nil)) (.lit (.int 0))) (.cons (.var 3) (.cons (.lit (.int 0)) .nil))))) .nil))))⟩  -- #40503 #7919 #48271 #2147483579 #2147483629
def t_law_take_2 (c0 : Int) (c1 : Int) (c2 : Int) (c3 : Int) : Fd := ⟨2, 3, [], false, (.cons (.iff (.cmp .gt (.idx (.var 0) (.lit (.int 0))) (.lit (.int 0))) (.cons (.asg (.tup (.cons (.sub (.var 0) (.lit (.int 0))) (.cons (.name 2) .nil))) (.bi .divmod (.cons (.idx (.var 0) (.lit (.int 0))) (.cons (.var 1) .nil)))) (.cons (.ret (.var 2)) .nil)) .nil) (.cons (.asg (.sub (.var 0) (.lit (.int 2))) (.bin .add (.idx (.var 0) (.lit (.int 2))) (.lit (.int 1)))) (.cons (.asg (.sub (.var 0) (.lit (.int 1))) (.bin .mod (.bi .int (.cons (.bin .add (.bin .add (.bin .mul (.idx (.var 0) (.lit (.int 1))) (.lit (.int c0))) (.bin .mul (.idx (.var 0) (.lit (.int 2))) (.lit (.int c1)))) (.lit (.int 7))) .nil)) (.lit (.int c2)))) (.cons (.ret (.bin .mod (.bi .int (.cons (.bin .add (.bin .fdiv (.idx (.var 0) (.lit (.int 1))) (.lit (.int c3))) (.idx (.var 0) (.lit (.int 2)))) .nil)) (.var 1))) .nil))))⟩  -- #69621 #30011 #2147483587 #256
def t_law_change_2 (c0 : Nat) : Fd := ⟨2, 10, [], false, (.cons (.asg (.tup (.cons (.name 2) (.cons (.name 3) .nil))) (.tup (.cons (.call c0 (.cons (.var 0) (.cons (.var 1) .nil)) .nil none) (.cons (.lst true .nil) .nil)))) (.cons (.asg (.name 4) (.comp false [9] (.rng (.var 1)) (.name 9) (.cons (.cmp .ne (.var 9) (.var 2)) .nil) (.fin (.var 9)))) (.cons (.asg (.name 5) (.call c0 (.cons (.var 0) (.cons (.bi .len (.cons (.var 4) .nil)) .nil)) .nil none)) (.cons (.asg (.name 6) (.comp false [9] (.val (.var 4)) (.name 9) (.cons (.or (.cmp .eq (.var 9) (.idx (.var 4) (.var 5))) (.cmp .eq (.call c0 (.cons (.var 0) (.cons (.lit (.int 3)) .nil)) .nil none) (.lit (.int 0)))) .nil) (.fin (.var 9)))) (.cons (.for_ (.name 7) (.rng (.lit (.int 2))) (.cons (.asg (.name 8) (.call c0 (.cons (.var 0) (.cons (.bin .add (.var 1) (.lit (.int 1))) .nil)) .nil none)) (.cons (.ex (.app (.var 3) (.bi .tuple (.cons (.comp false [9] (.rng (.bin .add (.var 1) (.lit (.int 1)))) (.name 9) (.cons (.or (.cmp .eq (.var 9) (.var 8)) (.cmp .gt (.call c0 (.cons (.var 0) (.cons (.lit (.int 3)) .nil)) .nil none) (.lit (.int 0)))) .nil) (.fin (.var 9))) .nil)))) .nil))) (.cons (.ret (.tup (.cons (.bi .tuple (.cons (.var 6) .nil)) (.cons (.var 2) (.cons (.idx (.var 3) (.lit (.int 0))) (.cons (.idx (.var 3) (.lit (.int 1))) .nil)))))) .nil))))))⟩  -- _law_take
def t_law_acts_2 : Fd := ⟨3, 7, [], false, (.cons (.asg (.tup (.cons (.name 3) (.cons (.name 4) .nil))) (.tup (.cons (.tup .nil) (.cons (.bin .add (.bin .add (.tup (.cons (.var 0) .nil)) (.var 2)) (.tup (.cons (.var 0) .nil))) .nil)))) (.cons (.for_ (.tup [5, 6]) (.enum (.var 2)) (.cons (.iff (.and (.cmp .inn (.var 6) (.idx (.var 1) (.lit (.int 0)))) (.and (.cmp .inn (.idx (.var 4) (.var 5)) (.idx (.var 1) (.lit (.int 2)))) (.cmp .inn (.idx (.var 4) (.bin .add (.var 5) (.lit (.int 2)))) (.idx (.var 1) (.lit (.int 3)))))) (.cons (.asg (.name 3) (.bin .add (.var 3) (.tup (.cons (.var 5) .nil)))) .nil) .nil) .nil)) (.cons (.ret (.var 3)) .nil)))⟩
def t_law_done_2 (c0 : Nat) : Fd := ⟨3, 7, [], false, (.cons (.for_ (.name 3) (.val (.var 1)) (.cons (.asg (.name 4) (.call c0 (.cons (.var 0) (.cons (.var 3) (.cons (.var 2) .nil))) .nil none)) (.cons (.asg (.name 2) (.bi .tuple (.cons (.comp false [5, 6] (.enum (.var 2)) (.tup [5, 6]) .nil (.fin (.ite (.cmp .inn (.var 5) (.var 4)) (.idx (.var 3) (.lit (.int 1))) (.var 6)))) .nil))) .nil))) (.cons (.ret (.var 2)) .nil))⟩  -- _law_acts
end Y
end
section
set_option maxRecDepth 100000
set_option Elab.async false
set_option linter.all false
namespace Y
open PySem
local macro_rules | `(tactic| tm_at "run") => `(tactic| refine Res.eq_of_wp (run_wp rfl ?_))
/-! ### F2: what a law does, told by what stands near -/
theorem puts_get (f : List Int → D) : ∀ (ps kvs : List (List Int × D)), (∀ p ∈ ps, p.2 = f p.1) → ∀ w, getA (putsA ps kvs) w = if w ∈ ps.map Prod.fst then some (f w) else getA kvs w
  | [], kvs, _, w => by simp [putsA]
  | p :: ps, kvs, h, w => by
    have ih := puts_get f ps (putA kvs p.1 p.2) (fun q hq => h q (by simp [hq])) w
    simp only [putsA, List.foldl_cons] at ih ⊢
    rw [ih, getA_put, h p (by simp)]
    by_cases h1 : w ∈ ps.map Prod.fst
    · rw [if_pos h1, if_pos (by simp only [List.map_cons, List.mem_cons]; exact .inr h1)]
    · rw [if_neg h1]
      by_cases h2 : p.1 = w
      · rw [if_pos h2, if_pos (by simp [h2]), h2]
      · rw [if_neg h2, if_neg (by simp only [List.map_cons, List.mem_cons, not_or]; exact ⟨fun z => h2 z.symm, h1⟩)]
theorem puts_len : ∀ (ps kvs : List (List Int × D)), (putsA ps kvs).length ≤ kvs.length + ps.length
  | [], kvs => by simp [putsA]
  | p :: ps, kvs => by
    have h1 := puts_len ps (putA kvs p.1 p.2)
    have h2 := putA_len kvs p.1 p.2
    simp only [putsA, List.foldl_cons, List.length_cons] at h1 ⊢
    omega
theorem puts_snoc (ps : List (List Int × D)) (p : List Int × D) : putA (putsA ps []) p.1 p.2 = putsA (ps ++ [p]) [] := by
  unfold putsA
  rw [List.foldl_append]; rfl
theorem puts_vals : ∀ (ps kvs : List (List Int × D)) (q : List Int × D), q ∈ putsA ps kvs → q ∈ kvs ∨ ∃ p ∈ ps, q.2 = p.2
  | [], kvs, q, h => .inl h
  | p :: ps, kvs, q, h => by
    rcases puts_vals ps (putA kvs p.1 p.2) q h with h | ⟨r, hr, e⟩
    · rcases putA_mem h with h | h
      · exact .inl h
      · exact .inr ⟨p, by simp, h⟩
    · exact .inr ⟨r, by simp [hr], e⟩
theorem nr_DW {kvs : List (List Int × D)} (h : ∀ p ∈ kvs, p.2.nr = true) : (DW kvs).nr = true := by
  show D.nrs (dv kvs) = true
  unfold dv
  induction kvs with
  | nil => rfl
  | cons p r ih => simp only [List.map_cons, D.nrs, h p (by simp), ih (fun q hq => h q (by simp [hq])), Bool.and_self]
/-- what becomes of a sound -/
def resW (c : Lw) (a o h : Int) : Int := if decide (o ∈ c.fr) && (decide (a ∈ c.ah) && decide (h ∈ c.be)) then c.to else o
def rowB (c : Lw) (a o : Int) (j : Nat) : List (List Int × D) := (List.range j).map fun (h : Nat) => ([a, o, (h : Int)], D.int (resW c a o h))
def rowO (s : Nat) (c : Lw) (a : Int) (j : Nat) : List (List Int × D) := (List.range j).flatMap fun (o : Nat) => rowB c a o (s + 1)
def rowA (s : Nat) (c : Lw) (j : Nat) : List (List Int × D) := (List.range j).flatMap fun (a : Nat) => rowO s c a s
theorem rowB_succ (c : Lw) (a o : Int) (j : Nat) : rowB c a o (j + 1) = rowB c a o j ++ [([a, o, (j : Int)], D.int (resW c a o j))] := by simp [rowB, List.range_succ]
theorem rowO_succ (s : Nat) (c : Lw) (a : Int) (j : Nat) : rowO s c a (j + 1) = rowO s c a j ++ rowB c a j (s + 1) := by simp [rowO, List.range_succ]
theorem rowA_succ (s : Nat) (c : Lw) (j : Nat) : rowA s c (j + 1) = rowA s c j ++ rowO s c j s := by simp [rowA, List.range_succ]
theorem rowB_len (c : Lw) (a o : Int) (j : Nat) : (rowB c a o j).length = j := by simp [rowB]
theorem rowO_len (s : Nat) (c : Lw) (a : Int) : ∀ j, (rowO s c a j).length = j * (s + 1)
  | 0 => by simp [rowO]
  | j + 1 => by rw [rowO_succ, List.length_append, rowO_len s c a j, rowB_len, Nat.succ_mul]
theorem rowA_len (s : Nat) (c : Lw) : ∀ j, (rowA s c j).length = j * (s * (s + 1))
  | 0 => by simp [rowA]
  | j + 1 => by rw [rowA_succ, List.length_append, rowA_len s c j, rowO_len, Nat.succ_mul]
theorem mem_rowA {s : Nat} {c : Lw} {j : Nat} {p : List Int × D} : p ∈ rowA s c j ↔ ∃ a o h : Nat, a < j ∧ o < s ∧ h < s + 1 ∧ p = ([(a : Int), (o : Int), (h : Int)], D.int (resW c a o h)) := by
  simp only [rowA, rowO, rowB, List.mem_flatMap, List.mem_map, List.mem_range]
  exact ⟨fun ⟨a, ha, o, ho, h, hh, e⟩ => ⟨a, o, h, ha, ho, hh, e.symm⟩, fun ⟨a, o, h, ha, ho, hh, e⟩ => ⟨a, ha, o, ho, h, hh, e.symm⟩⟩
def worksK (s : Int) (c : Lw) : List (List Int × D) := putsA (rowA s.toNat c (s.toNat + 1)) []
def worksD (s : Int) (c : Lw) : D := DW (worksK s c)
theorem works_get {s : Int} {c : Lw} {a o h : Int} (ha : 0 ≤ a ∧ a ≤ s) (ho : 0 ≤ o ∧ o ≤ s - 1) (hh : 0 ≤ h ∧ h ≤ s) : getA (worksK s c) [a, o, h] = some (.int (resW c a o h)) := by
  unfold worksK
  rw [puts_get (fun w => .int (resW c (gi w 0) (gi w 1) (gi w 2))) _ _ (fun p hp => by
    obtain ⟨a, o, h, _, _, _, rfl⟩ := mem_rowA.mp hp
    rfl)]
  rw [if_pos]
  · rfl
  · refine List.mem_map.mpr ⟨_, mem_rowA.mpr ⟨a.toNat, o.toNat, h.toNat, by omega, by omega, by omega, rfl⟩, ?_⟩
    show [(a.toNat : Int), (o.toNat : Int), (h.toNat : Int)] = _
    rw [show (a.toNat : Int) = a by omega, show (o.toNat : Int) = o by omega, show (h.toNat : Int) = h by omega]
theorem works_nr (s : Int) (c : Lw) : ∀ p ∈ worksK s c, p.2.nr = true := by
  intro p hp
  rcases puts_vals _ _ _ hp with h | ⟨q, hq, e⟩
  · simp at h
  · obtain ⟨a, o, h, _, _, _, rfl⟩ := mem_rowA.mp hq
    rw [e]; rfl
@[simp] theorem nr_worksD (s : Int) (c : Lw) : (worksD s c).nr = true := nr_DW (works_nr s c)
def Q_works_of (F : Fun) : Prop := ∀ (s : Int) (c : Lw) (st : Sto), 2 ≤ s → s ≤ 3 → F [.int s, L c] st = .ok (worksD s c) st
theorem ok_works_of {C : Cs} : Q_works_of (runFd C t_works_of) := by
  intro s c st hs hs2
  tm_at "run"
  obtain ⟨n, rfl⟩ : ∃ n : Nat, s = n := ⟨s.toNat, by omega⟩
  have hn : n ≤ 3 := by omega
  have i1 : i62 ((n : Int) + 1) = true := i62_of (by omega) (by omega)
  have i2 : i62 (n : Int) = true := i62_of (by omega) (by omega)
  have e1 : ((n : Int) + 1).toNat = n + 1 := by omega
  have hA := rowA_len n c (n + 1)
  have hb : (n + 1) * (n * (n + 1)) ≤ 48 := by
    rcases (by omega : n = 2 ∨ n = 3) with rfl | rfl <;> decide
  have zoo : ∀ (ps : List (List Int × D)) (a o h : Nat), ps.length ≤ 48 → setI st.length (.ref st.length) (.tup [.int a, .int o, .int h]) (.int (resW c a o h)) (st ++ [CW (putsA ps [])]) = .ok () (st ++ [CW (putsA (ps ++ [([(a : Int), (o : Int), (h : Int)], D.int (resW c a o h))]) [])]) := by
    intro ps a o h hp
    have hl := puts_len ps []
    have hset := set_CW (base := st.length) (n := st.length) (w := [(a : Int), (o : Int), (h : Int)]) (v := .int (resW c a o h)) (get_top st (CW (putsA ps []))) (Nat.le_refl _) (by simp at hl; omega)
    rw [set_top, puts_snoc ps ([(a : Int), (o : Int), (h : Int)], D.int (resW c a o h))] at hset
    exact hset
  simp [t_works_of, i1, i2, e1]
  refine forM_ind (fun i ρ st' => ∃ o3 o4 o5 o6, st' = st ++ [CW (putsA (rowA n c i) [])] ∧ ρ = ⟨[some (.int (n : Int)), some (L c), some (.ref st.length), o3, o4, o5, o6], [], st.length⟩) ⟨none, none, none, none, by simp [rowA, putsA], rfl⟩ ?_ ?_
  · rintro i a ρ st' hx ⟨o3, o4, o5, o6, rfl, rfl⟩
    obtain ⟨hi, rfl⟩ := range_get hx
    have hle1 : (rowA n c (a + 1)).length ≤ 48 := by
      rw [rowA_len]; exact Nat.le_trans (Nat.mul_le_mul_right _ (by omega)) hb
    rw [rowA_succ, List.length_append] at hle1
    obtain ⟨LA, hLA⟩ : ∃ l, rowA n c a = l := ⟨_, rfl⟩
    rw [hLA] at hle1 ⊢
    simp [i2]
    refine forM_ind (fun j ρ st' => ∃ o4 o5 o6, st' = st ++ [CW (putsA (LA ++ rowO n c a j) [])] ∧ ρ = ⟨[some (.int (n : Int)), some (L c), some (.ref st.length), some (.int (a : Int)), o4, o5, o6], [], st.length⟩) ⟨o4, o5, o6, by simp [rowO], rfl⟩ ?_ ?_
    · rintro j o ρ st' hx ⟨o4, o5, o6, rfl, rfl⟩
      obtain ⟨hj, rfl⟩ := range_get hx
      have hle2 : (rowO n c a (o + 1)).length ≤ (rowO n c a n).length := by
        rw [rowO_len, rowO_len]; exact Nat.mul_le_mul_right _ (by omega)
      rw [rowO_succ, List.length_append] at hle2
      obtain ⟨LO, hLO⟩ : ∃ l, rowO n c a o = l := ⟨_, rfl⟩
      rw [hLO] at hle2 ⊢
      simp [i1, e1]
      refine forM_ind (fun k ρ st' => ∃ o5 o6, st' = st ++ [CW (putsA (LA ++ (LO ++ rowB c a o k)) [])] ∧ ρ = ⟨[some (.int (n : Int)), some (L c), some (.ref st.length), some (.int (a : Int)), some (.int (o : Int)), o5, o6], [], st.length⟩) ⟨o5, o6, by simp [rowB], rfl⟩ ?_ ?_
      · rintro k h ρ st' hx ⟨o5, o6, rfl, rfl⟩
        obtain ⟨hk, rfl⟩ := range_get hx
        have hz := zoo (LA ++ (LO ++ rowB c a o h)) a o h (by
          rw [rowB_len] at hle2
          simp only [List.length_append, rowB_len]; omega)
        rw [rowB_succ]
        by_cases q1 : (o : Int) ∈ c.fr
        · by_cases q2 : (a : Int) ∈ c.ah
          · by_cases q3 : (h : Int) ∈ c.be
            · have er : resW c a o h = c.to := by simp [resW, q1, q2, q3]
              rw [er] at hz ⊢
              simp [q1, q2, q3, hz]
            · have er : resW c a o h = o := by simp [resW, q3]
              rw [er] at hz ⊢
              simp [q1, q2, q3, hz]
          · have er : resW c a o h = o := by simp [resW, q2]
            rw [er] at hz ⊢
            simp [q1, q2, hz]
        · have er : resW c a o h = o := by simp [resW, q1]
          rw [er] at hz ⊢
          simp [q1, hz]
      · rintro ρ st' ⟨o5, o6, rfl, rfl⟩
        simp [rowO_succ, hLO]
    · rintro ρ st' ⟨o4, o5, o6, rfl, rfl⟩
      simp [rowA_succ, hLA]
  · rintro ρ st' ⟨o3, o4, o5, o6, rfl, rfl⟩
    simp
    have hk : putsA (rowA n c (n + 1)) [] = worksK (n : Int) c := by simp [worksK]
    rw [hk]
    refine finQ_dct (get_top _ _) (Nat.le_refl _) (works_nr _ c) ⟨rfl, by simp⟩
def Q_all_works (F : Fun) : Prop := ∀ (s : Int) (b : List Lw) (st : Sto), 2 ≤ s → s ≤ 3 → b.length ≤ 100 → F [.int s, B b] st = .ok (.lst (b.map (worksD s))) st
theorem ok_all_works {C : Cs} {c0 : Nat} (h0 : Q_works_of (C.fn c0)) : Q_all_works (runFd C (t_all_works c0)) := by
  intro s b st hs hs2 hb
  tm_at "run"
  simp [t_all_works]
  refine wp_map (worksD s) (fun c _ => ?_) ?_
  · simp [h0 s c _ hs hs2]
  · rw [mkLs_f (line_of (by simp only [List.length_map]; omega))]
    have hn : (D.lst (b.map (worksD s))).nr = true := by
      simp only [D.nr]
      induction b with
      | nil => rfl
      | cons c b ih => simp only [List.map_cons, D.nrs, nr_worksD, Bool.true_and]; exact ih (by simp at hb; omega)
    simp [finQ_eq hn]
end Y
end
section
set_option maxRecDepth 100000
set_option Elab.async false
set_option linter.all false
namespace Y
open PySem
local macro_rules | `(tactic| tm_at "run") => `(tactic| refine Res.eq_of_wp (run_wp rfl ?_))
/-! ### zip of three -/
def zip3D (x y z : D) : Option (List D) := match litems x, litems y, litems z with
  | some xs, some ys, some zs => some (zipT3 xs ys zs)
  | _, _, _ => none
@[simp] theorem i_zip3 {C : Cs} {sl : List (Option D)} {bx : List Nat} {bs : Nat} {st : Sto} (a b c : E) : evI C ⟨sl, bx, bs⟩ (.zip3 a b c) st = (evE C ⟨sl, bx, bs⟩ a st).bind fun x st => (evE C ⟨sl, bx, bs⟩ b st).bind fun y st => (evE C ⟨sl, bx, bs⟩ c st).bind fun z st => .of ((zip3D x y z).map .fix) st := by
  simp only [evI]; congr 1; funext x s; congr 1; funext y s; congr 1; funext z s
  unfold zip3D
  cases litems x <;> cases litems y <;> cases litems z <;> rfl
theorem zipT3_get : ∀ (xs ys zs : List D) (i : Nat) (x y z : D), xs[i]? = some x → ys[i]? = some y → zs[i]? = some z → (zipT3 xs ys zs)[i]? = some (.tup [x, y, z])
  | [], _, _, _, _, _, _, h, _, _ => by simp at h
  | _ :: _, [], _, _, _, _, _, _, h, _ => by simp at h
  | _ :: _, _ :: _, [], _, _, _, _, _, _, h => by simp at h
  | a :: xs, b :: ys, c :: zs, 0, x, y, z, h1, h2, h3 => by
    simp at h1 h2 h3; subst h1 h2 h3; rfl
  | a :: xs, b :: ys, c :: zs, i + 1, x, y, z, h1, h2, h3 => by
    simp only [zipT3, List.getElem?_cons_succ] at *
    exact zipT3_get xs ys zs i x y z h1 h2 h3
theorem zipT3_length : ∀ (xs ys zs : List D), (zipT3 xs ys zs).length = min (min xs.length ys.length) zs.length
  | [], _, _ => by simp [zipT3]
  | _ :: _, [], _ => by simp [zipT3]
  | _ :: _, _ :: _, [] => by simp [zipT3]
  | _ :: xs, _ :: ys, _ :: zs => by simp [zipT3, zipT3_length xs ys zs]
/-- a word's places, with what stands ahead and behind -/
theorem near3 (s : Int) (w : List Int) : zipT3 ((s :: w).map .int) (w.map .int) ((w.drop 1 ++ [s]).map .int) = (List.range w.length).map fun p => W [aheadOf s w p, gi w p, behindOf s w p] := by
  refine List.ext_getElem? fun i => ?_
  by_cases h : i < w.length
  · rw [List.getElem?_map, List.getElem?_range h]
    have h1 : ((s :: w).map D.int)[i]? = some (.int (aheadOf s w i)) := by
      rw [List.getElem?_map]
      unfold aheadOf
      cases i with
      | zero => rfl
      | succ i => simp [gi, show i < w.length by omega]
    have h2 : (w.map D.int)[i]? = some (.int (gi w i)) := by
      rw [List.getElem?_map]; simp [gi, h]
    have h3 : ((w.drop 1 ++ [s]).map D.int)[i]? = some (.int (behindOf s w i)) := by
      rw [List.getElem?_map]
      unfold behindOf
      by_cases q : i + 1 < w.length
      · rw [if_pos q, List.getElem?_append_left (by simp; omega), List.getElem?_drop]
        simp [gi, Nat.add_comm 1 i, q]
      · rw [if_neg q, List.getElem?_append_right (by simp; omega)]
        have : i - (w.drop 1).length = 0 := by simp; omega
        rw [this]; rfl
    rw [zipT3_get _ _ _ i _ _ _ h1 h2 h3]
    rfl
  · rw [List.getElem?_eq_none (by rw [zipT3_length]; simp; omega), List.getElem?_eq_none (by simp; omega)]
theorem ahead_bd {s : Int} {w : List Int} {p : Nat} (hs : 0 ≤ s) (hp : p < w.length) (h : ∀ i ∈ w, 0 ≤ i ∧ i ≤ s - 1) : 0 ≤ aheadOf s w p ∧ aheadOf s w p ≤ s := by
  unfold aheadOf
  split
  · omega
  · have : gi w (p - 1) ∈ w := by
      have h1 : p - 1 < w.length := by omega
      simp only [gi, List.getD_eq_getElem?_getD, List.getElem?_eq_getElem h1, Option.getD_some]
      exact List.getElem_mem h1
    have := h _ this; omega
theorem behind_bd {s : Int} {w : List Int} {p : Nat} (hs : 0 ≤ s) (h : ∀ i ∈ w, 0 ≤ i ∧ i ≤ s - 1) : 0 ≤ behindOf s w p ∧ behindOf s w p ≤ s := by
  unfold behindOf
  split
  · rename_i hp
    have : gi w (p + 1) ∈ w := by
      simp only [gi, List.getD_eq_getElem?_getD, List.getElem?_eq_getElem hp, Option.getD_some]
      exact List.getElem_mem hp
    have := h _ this; omega
  · omega
theorem gi_in {w : List Int} {p : Nat} (hp : p < w.length) : gi w p ∈ w := by
  simp only [gi, List.getD_eq_getElem?_getD, List.getElem?_eq_getElem hp, Option.getD_some]
  exact List.getElem_mem hp
theorem res_work {s : Int} {c : Lw} {w : List Int} (p : Nat) : resW c (aheadOf s w p) (gi w p) (behindOf s w p) = if actsAt s c w p then c.to else gi w p := by
  unfold resW actsAt
  rw [Bool.and_assoc]
def Q_worked (F : Fun) : Prop := ∀ (s : Int) (b : List Lw) (w : List Int) (st : Sto), 2 ≤ s → s ≤ 3 → b.all (okLaw s) = true → w.length ≤ 100000 → (∀ i ∈ w, 0 ≤ i ∧ i ≤ s - 1) → F [.int s, .lst (b.map (worksD s)), W w] st = .ok (W (doneB s b w)) st
theorem ok_worked {C : Cs} : Q_worked (runFd C t_worked) := by
  intro s b w st hs hs2 hb hl hw
  tm_at "run"
  simp [t_worked]
  refine forM_ind (fun i ρ st' => st' = st ∧ ∃ o4 o5, ρ = ⟨[some (.int s), some (.lst (b.map (worksD s))), some (W w), some (W (doneB s (b.take i) w)), o4, o5], [], st.length⟩) ⟨rfl, none, none, rfl⟩ ?_ ?_
  · rintro i c ρ st' hx ⟨rfl, o4, o5, rfl⟩
    have hcm := List.mem_of_getElem? hx
    have et : b.take (i + 1) = b.take i ++ [c] := by rw [List.take_add_one, hx]; rfl
    have hbt : (b.take i).all (okLaw s) = true := by
      rw [List.all_eq_true] at hb ⊢
      exact fun x hx => hb x (List.take_subset _ _ hx)
    have hv := doneB_ok hbt hw
    have hvl : (doneB s (b.take i) w).length ≤ 100000 := by simpa using hl
    rw [et, doneB_append]
    generalize doneB s (b.take i) w = v at hv hvl
    have l1 : line (1 + v.length) = true := line_of (by omega)
    have l2 : line (v.length + 1) = true := line_of (by omega)
    have l3 : line (v.length - 1 + 1) = true := line_of (by omega)
    have hc : cutL v (some 1) none = v.drop 1 := by rw [cutL_from _ _ (by omega)]; rfl
    have ez : zip3D (W (s :: v)) (W v) (.tup ((v.map D.int).tail ++ [.int s])) = some ((List.range v.length).map fun p => W [aheadOf s v p, gi v p, behindOf s v p]) := by
      have e : (v.map D.int).tail ++ [D.int s] = (v.drop 1 ++ [s]).map D.int := by simp
      rw [e]
      show some (zipT3 ((s :: v).map .int) (v.map .int) ((v.drop 1 ++ [s]).map .int)) = _
      rw [near3]
    simp [l1, l2, l3, hc, ez]
    refine wp_map (fun p => D.int (if actsAt s c v p then c.to else gi v p)) (fun p hp => ?_) ?_
    · rw [List.mem_range] at hp
      have hg := works_get (c := c) (ahead_bd (by omega) hp hv) (hv _ (gi_in hp)) (behind_bd (p := p) (by omega) hv)
      rw [res_work] at hg
      have hi := idx_DW hg
      simp [worksD, hi]
    · rw [mkLs_f (line_of (by simp only [List.length_map, List.length_range]; omega))]
      have e : D.lst ((List.range v.length).map fun p => D.int (if actsAt s c v p then c.to else gi v p)) = LI (work s c v) := by unfold LI work; rw [List.map_map]; rfl
      rw [e]
      simp [doneB]
  · rintro ρ st' ⟨rfl, o4, o5, rfl⟩
    simp [finQ_eq]
end Y
end
section
set_option maxRecDepth 100000
set_option Elab.async false
set_option linter.all false
namespace Y
open PySem
local macro_rules | `(tactic| tm_at "run") => `(tactic| refine Res.eq_of_wp (run_wp rfl ?_))
/-! ### books alike, idle laws, still laws -/
def optW : Option (List Int) → D
  | none => .non
  | some w => W w
@[simp] theorem nr_optW (o : Option (List Int)) : (optW o).nr = true := by cases o <;> simp [optW]
/-- the first word up to a length to which two books do unlike things -/
def parts (s : Int) (b d : List Lw) (m : Nat) : Option (List Int) := (upto s m).find? fun w => !decide (doneB s b w = doneB s d w)
def far (b d : List Lw) : Nat := 2 * max b.length d.length + 1
theorem find_at {α : Type} {p : α → Bool} {xs : List α} {i : Nat} {x : α} (h : xs[i]? = some x) (hx : p x = true) (hb : ∀ y ∈ xs.take i, p y = false) : xs.find? p = some x := by
  have e : xs = xs.take i ++ x :: xs.drop (i + 1) := by
    obtain ⟨hi, e⟩ := List.getElem?_eq_some_iff.mp h
    have : xs.drop i = x :: xs.drop (i + 1) := by rw [List.drop_eq_getElem_cons hi, e]
    rw [← this, List.take_append_drop]
  have h1 : (xs.take i).find? p = none := List.find?_eq_none.mpr fun y hy => by simp [hb y hy]
  rw [e, List.find?_append, h1]
  simp [List.find?_cons, hx]
def Q_far_of (F : Fun) : Prop := ∀ (n : Nat) (st : Sto), n ≤ 100 → F [.int n] st = .ok (.int (2 * (n : Int) + 1)) st
theorem ok_far_of {C : Cs} : Q_far_of (runFd C t_far_of) := by
  intro n st hn
  tm_at "run"
  have hm : binD .mul (.int 2) (.int (n : Int)) = some (.int (2 * (n : Int))) := by simp [binD, i64]
  simp [t_far_of, hm, finQ_eq]
def Q_parting_by (F : Fun) : Prop := ∀ (s : Int) (b d : List Lw) (st : Sto), 2 ≤ s → s ≤ 3 → b.all (okLaw s) = true → d.all (okLaw s) = true → b.length ≤ 4 → d.length ≤ 4 → F [.int s, B b, B d] st = .ok (optW (parts s b d (far b d))) st
theorem ok_parting_by {C : Cs} {c0 c1 c2 c3 : Nat} (h0 : Q_all_works (C.fn c0)) (h1 : Q_words_upto (C.fn c1)) (h2 : Q_far_of (C.fn c2)) (h3 : Q_worked (C.fn c3)) : Q_parting_by (runFd C (t_parting_by c0 c1 c2 c3)) := by
  intro s b d st hs hs2 hb hd hbl hdl
  tm_at "run"
  obtain ⟨M, hM⟩ : ∃ M, M = max b.length d.length := ⟨_, rfl⟩
  have em : (if b.length < d.length then (d.length : Int) else (b.length : Int)) = (M : Int) := by
    by_cases h : b.length < d.length
    · rw [if_pos h, hM, Nat.max_eq_right (Nat.le_of_lt h)]
    · rw [if_neg h, hM, Nat.max_eq_left (Nat.le_of_not_lt h)]
  have hf := fun st => h2 M st (by omega)
  have hfar : far b d = 2 * M + 1 := by unfold far; rw [hM]
  have hw := fun st => h1 s (2 * M + 1) st (by omega) hs2 (by omega)
  rw [show ((2 * M + 1 : Nat) : Int) = 2 * (M : Int) + 1 by omega, ← hfar] at hw
  simp [t_parting_by, h0 s b _ hs hs2 (by omega), h0 s d _ hs hs2 (by omega), em, hf, hw]
  refine forM_ind (fun i ρ st' => (∀ w ∈ (upto s (far b d)).take i, doneB s b w = doneB s d w) ∧ st' = st ∧ ∃ o5, ρ = ⟨[some (.int s), some (B b), some (B d), some (.lst (b.map (worksD s))), some (.lst (d.map (worksD s))), o5], [], st.length⟩) ⟨by simp, rfl, none, rfl⟩ ?_ ?_
  · rintro i w ρ st' hx ⟨hall, rfl, o5, rfl⟩
    have hm := upto_mem (List.mem_of_getElem? hx)
    have hwl : w.length ≤ 100000 := by rw [hfar] at hm; omega
    simp [h3 s b w _ hs hs2 hb hwl hm.2.2, h3 s d w _ hs hs2 hd hwl hm.2.2]
    by_cases h : doneB s b w = doneB s d w
    · simp [h]
      intro v hv
      have et : (upto s (far b d)).take (i + 1) = (upto s (far b d)).take i ++ [w] := by
        rw [List.take_add_one, hx]; rfl
      rw [et, List.mem_append] at hv
      rcases hv with hv | hv
      · exact hall v hv
      · simp at hv; subst hv; exact h
    · simp [h, finQ_eq]
      have : parts s b d (far b d) = some w := by
        unfold parts
        refine find_at (i := i) hx (by simp [h]) (fun y hy => by simp [hall y hy])
      rw [this]; rfl
  · rintro ρ st' ⟨hall, rfl, o5, rfl⟩
    have : parts s b d (far b d) = none := by
      unfold parts
      refine List.find?_eq_none.mpr fun y hy => ?_
      have := hall y (by rw [List.take_of_length_le (by simp)]; exact hy)
      simp [this]
    simp [finQ_eq, this, optW]
def wo (b : List Lw) (i : Nat) : List Lw := b.take i ++ b.drop (i + 1)
theorem wo_len {b : List Lw} {i : Nat} (h : i < b.length) : (wo b i).length = b.length - 1 := by simp [wo]; omega
theorem wo_all {s : Int} {b : List Lw} {i : Nat} (h : b.all (okLaw s) = true) : (wo b i).all (okLaw s) = true := by
  rw [List.all_eq_true] at h ⊢
  intro x hx
  rcases List.mem_append.mp hx with hx | hx
  · exact h x (List.take_subset _ _ hx)
  · exact h x (List.drop_subset _ _ hx)
def Q_without (F : Fun) : Prop := ∀ (b : List Lw) (i : Nat) (st : Sto), b.length ≤ 100 → i < b.length → F [B b, .int i] st = .ok (B (wo b i)) st
theorem ok_without {C : Cs} : Q_without (runFd C t_without) := by
  intro b i st hb hi
  tm_at "run"
  have c1 : cutL b none (some (i : Int)) = b.take i := by rw [cutL_to _ _ (by omega)]; simp
  have c2 : cutL b (some ((i : Int) + 1)) none = b.drop (i + 1) := by rw [cutL_from _ _ (by omega)]; congr 1
  have hl : line (min i b.length + (b.length - (i + 1))) = true := line_of (by omega)
  have e : D.tup (List.take i (List.map L b) ++ List.drop (i + 1) (List.map L b)) = B (wo b i) := by unfold B wo; rw [List.map_append, List.map_take, List.map_drop]
  simp [t_without, c1, c2, hl, e, finQ_eq]
def idleL (s : Int) (b : List Lw) : List Nat := (List.range b.length).filter fun i => decide (parts s (wo b i) b (2 * b.length + 1) = none)
def Q_idle_by (F : Fun) : Prop := ∀ (s : Int) (b : List Lw) (st : Sto), 2 ≤ s → s ≤ 3 → b.all (okLaw s) = true → b.length ≤ 4 → F [.int s, B b] st = .ok (W ((idleL s b).map Nat.cast)) st
theorem ok_idle_by {C : Cs} {c0 c1 : Nat} (h0 : Q_parting_by (C.fn c0)) (h1 : Q_without (C.fn c1)) : Q_idle_by (runFd C (t_idle_by c0 c1)) := by
  intro s b st hs hs2 hb hbl
  tm_at "run"
  have hi : i62 (b.length : Int) = true := i62_of (by omega) (by omega)
  simp [t_idle_by, hi]
  refine wp_filter (fun i => decide (parts s (wo b i) b (2 * b.length + 1) = none)) (fun i => D.int (i : Int)) (fun i hx => ?_) ?_
  · rw [List.mem_range] at hx
    have hf : far (wo b i) b = 2 * b.length + 1 := by unfold far; rw [wo_len hx]; omega
    have hp := fun st => h0 s (wo b i) b st hs hs2 (wo_all hb) hb (by rw [wo_len hx]; omega) hbl
    rw [hf] at hp
    simp [h1 b i _ (by omega) hx, hp]
    cases parts s (wo b i) b (2 * b.length + 1) <;> simp [optW]
  · have := List.length_filter_le (fun i => decide (parts s (wo b i) b (2 * b.length + 1) = none)) (List.range b.length)
    rw [List.length_range] at this
    rw [mkLs_f (line_of (by simp only [List.length_map]; omega))]
    have e : D.lst ((idleL s b).map fun (i : Nat) => D.int (i : Int)) = LI ((idleL s b).map Nat.cast) := by unfold LI; rw [List.map_map]; rfl
    unfold idleL at e ⊢
    rw [e]
    simp [finQ_eq]
def everA (s : Int) (b : List Lw) (i : Nat) : Bool := (upto s (2 * i + 3)).any fun w => !decide (actsOf s (gl b i) (doneB s (b.take i) w) = [])
def Q_acts_ever (F : Fun) : Prop := ∀ (s : Int) (b : List Lw) (i : Nat) (st : Sto), 2 ≤ s → s ≤ 3 → b.all (okLaw s) = true → b.length ≤ 3 → i < b.length → F [.int s, B b, .int i] st = .ok (.bl (everA s b i)) st
theorem ok_acts_ever {C : Cs} {c0 c1 c2 c3 c4 : Nat} (h0 : Q_all_works (C.fn c0)) (h1 : Q_words_upto (C.fn c1)) (h2 : Q_far_of (C.fn c2)) (h3 : Q_acts_by (C.fn c3)) (h4 : Q_worked (C.fn c4)) : Q_acts_ever (runFd C (t_acts_ever c0 c1 c2 c3 c4)) := by
  intro s b i st hs hs2 hb hbl hi
  tm_at "run"
  have c1' : cutL b none (some (i : Int)) = b.take i := by rw [cutL_to _ _ (by omega)]; simp
  have hbt : (b.take i).all (okLaw s) = true := by
    rw [List.all_eq_true] at hb ⊢
    exact fun x hx => hb x (List.take_subset _ _ hx)
  have e1 : ((i : Int) + 1) = ((i + 1 : Nat) : Int) := by omega
  have hf := fun st => h2 (i + 1) st (by omega)
  rw [← e1] at hf
  have hw := fun st => h1 s (2 * i + 3) st (by omega) hs2 (by omega)
  rw [show ((2 * i + 3 : Nat) : Int) = 2 * ((i : Int) + 1) + 1 by omega] at hw
  have hbi : idxD (B b) (.int (i : Int)) = some (L (gl b i)) := idx_Bn hi
  simp [t_acts_ever, c1', h0 s (b.take i) _ hs hs2 (by simp; omega), hf, hw]
  refine forM_ind (fun j ρ st' => (∀ w ∈ (upto s (2 * i + 3)).take j, actsOf s (gl b i) (doneB s (b.take i) w) = []) ∧ st' = st ∧ ∃ o4, ρ = ⟨[some (.int s), some (B b), some (.int i), some (.lst (List.take i (List.map (worksD s) b))), o4], [], st.length⟩) ⟨by simp, rfl, none, rfl⟩ ?_ ?_
  · rintro j w ρ st' hx ⟨hall, rfl, o4, rfl⟩
    have hm := upto_mem (List.mem_of_getElem? hx)
    have hwl : w.length ≤ 100000 := by omega
    have h4' := fun st => h4 s (b.take i) w st hs hs2 hbt hwl hm.2.2
    rw [List.map_take] at h4'
    simp [hbi, h4', h3 s (gl b i) (doneB s (b.take i) w) _ (by simpa using hwl)]
    by_cases h : actsOf s (gl b i) (doneB s (b.take i) w) = []
    · simp [h]
      intro v hv
      have et : (upto s (2 * i + 3)).take (j + 1) = (upto s (2 * i + 3)).take j ++ [w] := by rw [List.take_add_one, hx]; rfl
      rw [et, List.mem_append] at hv
      rcases hv with hv | hv
      · exact hall v hv
      · simp at hv; subst hv; exact h
    · simp [h, finQ_eq]
      unfold everA
      refine List.any_eq_true.mpr ?_
      exact ⟨w, List.mem_of_getElem? hx, by simp [h]⟩
  · rintro ρ st' ⟨hall, rfl, o4, rfl⟩
    have : everA s b i = false := by
      unfold everA
      rw [List.any_eq_false]
      intro w hw
      have := hall w (by rw [List.take_of_length_le (by simp)]; exact hw)
      simp [this]
    simp [finQ_eq, this]
def stillL (s : Int) (b : List Lw) : List Nat := (List.range b.length).filter fun i => !everA s b i
def Q_still_by (F : Fun) : Prop := ∀ (s : Int) (b : List Lw) (st : Sto), 2 ≤ s → s ≤ 3 → b.all (okLaw s) = true → b.length ≤ 3 → F [.int s, B b] st = .ok (W ((stillL s b).map Nat.cast)) st
theorem ok_still_by {C : Cs} {c0 : Nat} (h0 : Q_acts_ever (C.fn c0)) : Q_still_by (runFd C (t_still_by c0)) := by
  intro s b st hs hs2 hb hbl
  tm_at "run"
  have hi : i62 (b.length : Int) = true := i62_of (by omega) (by omega)
  simp [t_still_by, hi]
  refine wp_filter (fun i => !everA s b i) (fun i => D.int (i : Int)) (fun i hx => ?_) ?_
  · rw [List.mem_range] at hx
    simp [h0 s b i _ hs hs2 hb hbl hx]
    cases everA s b i <;> simp
  · have := List.length_filter_le (fun i => !everA s b i) (List.range b.length)
    rw [List.length_range] at this
    rw [mkLs_f (line_of (by simp only [List.length_map]; omega))]
    have e : D.lst ((stillL s b).map fun (i : Nat) => D.int (i : Int)) = LI ((stillL s b).map Nat.cast) := by unfold LI; rw [List.map_map]; rfl
    unfold stillL at e ⊢
    rw [e]
    simp [finQ_eq]
end Y
end
section
set_option maxRecDepth 100000
set_option Elab.async false
set_option linter.all false
namespace Y
open PySem
local macro_rules | `(tactic| tm_at "run") => `(tactic| refine Res.eq_of_wp (run_wp rfl ?_))
/-! ### F2: the well, draws, laws, books -/
theorem ok_law_well {C : Cs} {c0 c1 c2 c3 c4 : Int} (hc : i64 c1 = true ∧ i64 c2 = true ∧ 0 < c3 ∧ 0 < c4) : Q_pool (runFd C (t_law_well c0 c1 c2 c3 c4)) := by
  intro ns k st hl hk
  obtain ⟨k1, k2, k3, k4⟩ := hc
  refine run_wp rfl ?_
  have p18 : binD .pow (.int 10) (.int 18) = some (.int (10 ^ 18)) := by rw [pow_int (by omega) (by omega) (by decide)]; rfl
  generalize (10 : Int) ^ 18 = e18 at p18
  have hc9 : cutL ns none (some 9) = ns.take 9 := by rw [cutL_to _ _ (by omega)]; rfl
  have hadd : ∀ u : Int, binD .add (LI (ns.take 9)) (.lst [.int u]) = some (LI (ns.take 9 ++ [u])) := fun u => by
    show (if line _ then _ else _) = _
    rw [if_pos (line_of (by simp; omega))]
    simp [LI]
  have tail : ∀ (u v : Int) (st' : Sto), st' = st → finQ true st.length (fun d st'_1 => d = D.ref (List.length st) ∧ ∃ a b c, st'_1 = st ++ [pool a b c]) (.ref st'.length) (st' ++ [.lst [.int u, .int v, .int 0]]) := fun u v st' e => by
    subst e
    refine finQ_keep (get_top _ _) (Nat.le_refl _) (by simp) ?_
    simp
    exact ⟨_, _, _, rfl⟩
  have key : ∀ own : Int, (forM (forB C (Pt.name 4) (.cons (.asg (.name 3) (.bin .mod (.bi .int (.cons (.bin .add (.bin .add (.bin .mul (.var 3) (.lit (.int c2))) (.bin .mod (.bi .int (.cons (.var 4) .nil)) (.lit (.int c3)))) (.lit (.int 13))) .nil)) (.lit (.int c4)))) .nil)) (List.take 9 (List.map D.int ns) ++ [D.int own]) ⟨[some (LI ns), some (.int k), some (.int own), some (.int (c0 + c1 * k)), none], [], st.length⟩ st).wp
      (fun ρ st' => st' = st ∧ ∃ y o, ρ = ⟨[some (LI ns), some (.int k), some (.int own), some (.int y), o], [], st.length⟩) (fun _ _ => False) := by
    intro own
    refine forM_ind (fun _ ρ st' => st' = st ∧ ∃ y o, ρ = ⟨[some (LI ns), some (.int k), some (.int own), some (.int y), o], [], st.length⟩) ⟨rfl, _, none, rfl⟩ ?_ (fun ρ st' h => h)
    rintro i x ρ st' hx ⟨rfl, y, o, rfl⟩
    have e : List.take 9 (ns.map D.int) ++ [D.int own] = (ns.take 9 ++ [own]).map D.int := by simp [List.map_take]
    rw [e, List.getElem?_map] at hx
    obtain ⟨z, _, rfl⟩ := Option.map_eq_some_iff.mp hx
    simp [mul_int_r k2, mod_int k3, mod_int k4]
  have fin : ∀ own : Int, (forM (forB C (Pt.name 4) (.cons (.asg (.name 3) (.bin .mod (.bi .int (.cons (.bin .add (.bin .add (.bin .mul (.var 3) (.lit (.int c2))) (.bin .mod (.bi .int (.cons (.var 4) .nil)) (.lit (.int c3)))) (.lit (.int 13))) .nil)) (.lit (.int c4)))) .nil)) (List.take 9 (List.map D.int ns) ++ [D.int own]) ⟨[some (LI ns), some (.int k), some (.int own), some (.int (c0 + c1 * k)), none], [], st.length⟩ st).wp
      (fun ρ st' => (evSs C (.cons (.ret (.lst true (.cons (.ite (.or (.cmp .lt (.var 2) (.lit (.int 0))) (.cmp .ge (.var 2) (.bin .pow (.lit (.int 10)) (.lit (.int 18))))) (.bi .abs (.cons (.var 2) .nil)) (.lit (.int 0))) (.cons (.var 3) (.cons (.lit (.int 0)) .nil))))) .nil) ρ st').wp (fun _ st' => finQ true st.length (fun d st'_1 => d = D.ref (List.length st) ∧ ∃ a b c, st'_1 = st ++ [pool a b c]) .non st') (fun d st' => finQ true st.length (fun d st'_1 => d = D.ref (List.length st) ∧ ∃ a b c, st'_1 = st ++ [pool a b c]) d st'))
      (fun d st' => finQ true st.length (fun d st'_1 => d = D.ref (List.length st) ∧ ∃ a b c, st'_1 = st ++ [pool a b c]) d st') := by
    intro own
    refine Fl.wp_mono (key own) ?_ (fun _ _ h => h.elim)
    rintro ρ st' ⟨rfl, y, o, rfl⟩
    by_cases h1 : own < 0
    · simp [h1]
      exact tail _ _ _ rfl
    · by_cases h2 : e18 ≤ own
      · simp [h1, h2, p18]
        exact tail _ _ _ rfl
      · simp [h1, h2, p18]
        exact tail _ _ _ rfl
  by_cases h : k < ns.length
  · have h' : (k : Int) < (ns.length : Int) := by omega
    simp [t_law_well, h, h', idx_LIn h, mul_int_l k1, hc9, hadd]
    exact fin _
  · have h' : ¬ (k : Int) < (ns.length : Int) := by omega
    simp [t_law_well, h, h', mul_int_l k1, hc9, hadd]
    exact fin _
theorem ok_law_take_2 {C : Cs} {c0 c1 c2 c3 : Int} (hc : i64 c0 = true ∧ i64 c1 = true ∧ 0 < c2 ∧ 0 < c3 ∧ c3 < 1073741824) : Q_take (runFd C (t_law_take_2 c0 c1 c2 c3)) := by
  intro r m st hp hm hm2
  obtain ⟨k0, k1, k2, k4, k5⟩ := hc
  refine run_wp rfl ?_
  obtain ⟨a, b, c, hn⟩ := id hp
  have hd := deref_pool hn
  by_cases ha : 0 < a
  · simp [t_law_take_2, hd, ha, divmod_int hm hm2, (set3 _ r a b c (a / m) st hn).1, finQ_eq]
    obtain ⟨v, e, hv⟩ := nat_of_mod a hm
    exact ⟨⟨v, e, hv⟩, hp, a / m, b, c, by simp [List.take_of_length_le]⟩
  · have hl := hp.lt
    have e1 := (set3 st.length r a b c (c + 1) st hn).2.2
    have hn1 : (st.set r (pool a b (c + 1)))[r]? = some (pool a b (c + 1)) := List.getElem?_set_self hl
    have hd1 := deref_pool hn1
    generalize hx : (b * c0 + (c + 1) * c1 + 7) % c2 = x
    have e2 := (set3 st.length r a b (c + 1) x _ hn1).2.1
    have hn2 : ((st.set r (pool a b (c + 1))).set r (pool a x (c + 1)))[r]? = some (pool a x (c + 1)) := List.getElem?_set_self (by simpa using hl)
    have hd2 := deref_pool hn2
    simp only [List.set_set] at e2 hd2
    simp [t_law_take_2, hd, ha, e1, hd1, mul_int_r k0, mul_int_r k1, mod_int k2, mod_int hm, fdiv_int k4 k5, hx, e2, hd2, finQ_eq]
    obtain ⟨v, e, hv⟩ := nat_of_mod (x / c3 + (c + 1)) hm
    exact ⟨⟨v, e, hv⟩, hp, a, x, c + 1, by simp [List.take_of_length_le]⟩
def Q_law_acts2 (F : Fun) : Prop := ∀ (s : Int) (c : Lw) (w : List Int) (st : Sto), w.length ≤ 100000 → F [.int s, L c, W w] st = .ok (W ((actsOf s c w).map Nat.cast)) st
theorem actsTo_succ (s : Int) (c : Lw) (w : List Int) (p : Nat) : ((List.range (p + 1)).filter (actsAt s c w)).map (Nat.cast : Nat → Int) = ((List.range p).filter (actsAt s c w)).map Nat.cast ++ if actsAt s c w p then [(p : Int)] else [] := by
  rw [List.range_succ, List.filter_append, List.map_append]
  by_cases h : actsAt s c w p <;> simp [h]
theorem ok_law_acts2 {C : Cs} : Q_law_acts2 (runFd C t_law_acts_2) := by
  intro s c w st hw
  tm_at "run"
  have b1 : binD .add (.tup [.int s]) (W w) = some (W (s :: w)) := by
    show binD .add (W [s]) (W w) = _
    rw [add_W (by simp; omega)]; rfl
  have b2 : binD .add (W (s :: w)) (.tup [.int s]) = some (W ([s] ++ w ++ [s])) := by
    show binD .add (W (s :: w)) (W [s]) = _
    rw [add_W (by simp; omega)]; rfl
  have e0 : D.tup [] = W [] := rfl
  simp [t_law_acts_2, b1, b2, enumT_W]
  refine forM_ind (fun j ρ st' => st' = st ∧ ∃ o5 o6, ρ = ⟨[some (.int s), some (L c), some (W w), some (W (((List.range j).filter (actsAt s c w)).map Nat.cast)), some (W ([s] ++ w ++ [s])), o5, o6], [], st.length⟩) ⟨rfl, none, none, rfl⟩ ?_ ?_
  · rintro j p ρ st' hp ⟨rfl, o5, o6, rfl⟩
    obtain ⟨hj, rfl⟩ := range_get hp
    obtain ⟨g1, g2⟩ := gi_wide s w p hj
    have i1 : idxD (W ([s] ++ w ++ [s])) (.int (p : Int)) = some (.int (aheadOf s w p)) := by rw [idx_Wn (by simp; omega), g1]
    have i2 : idxD (W ([s] ++ w ++ [s])) (.int ((p : Int) + 2)) = some (.int (behindOf s w p)) := by
      have : ((p : Int) + 2) = ((p + 2 : Nat) : Int) := by omega
      rw [this, idx_Wn (by simp; omega), g2]
    have hle : (((List.range p).filter (actsAt s c w)).map (Nat.cast : Nat → Int)).length ≤ p := by
      have := List.length_filter_le (actsAt s c w) (List.range p)
      simpa using this
    have ha : binD .add (W (((List.range p).filter (actsAt s c w)).map Nat.cast)) (.tup [.int (p : Int)]) = some (W (((List.range p).filter (actsAt s c w)).map Nat.cast ++ [(p : Int)])) := add_W1 (by omega)
    rw [actsTo_succ]
    by_cases q1 : gi w p ∈ c.fr
    · by_cases q2 : aheadOf s w p ∈ c.ah
      · by_cases q3 : behindOf s w p ∈ c.be
        · have ea : actsAt s c w p = true := by simp [actsAt, q1, q2, q3]
          simp only [List.cons_append, List.nil_append] at i1 i2
          simp [q1, q2, q3, i1, i2, ha, ea]
        · have ea : actsAt s c w p = false := by simp [actsAt, q3]
          simp only [List.cons_append, List.nil_append] at i1 i2
          simp [q1, q2, q3, i1, i2, ea]
      · have ea : actsAt s c w p = false := by simp [actsAt, q2]
        simp only [List.cons_append, List.nil_append] at i1 i2
        simp [q1, q2, i1, ea]
    · have ea : actsAt s c w p = false := by simp [actsAt, q1]
      simp [q1, ea]
  · rintro ρ st' ⟨rfl, o5, o6, rfl⟩
    simp [finQ_eq, actsOf]
theorem ok_law_done2 {C : Cs} {c0 : Nat} (h0 : Q_law_acts2 (C.fn c0)) : Q_law_done (runFd C (t_law_done_2 c0)) := by
  intro s b w st hw
  tm_at "run"
  simp [t_law_done_2]
  refine forM_ind (fun i ρ st' => st' = st ∧ ∃ o3 o4 o5 o6, ρ = ⟨[some (.int s), some (B b), some (W (doneB s (b.take i) w)), o3, o4, o5, o6], [], st.length⟩) ⟨rfl, none, none, none, none, rfl⟩ ?_ ?_
  · rintro i c ρ st' hx ⟨rfl, o3, o4, o5, o6, rfl⟩
    have et : b.take (i + 1) = b.take i ++ [c] := by rw [List.take_add_one, hx]; rfl
    have hvl : (doneB s (b.take i) w).length ≤ 100000 := by simpa using hw
    rw [et, doneB_append]
    generalize doneB s (b.take i) w = v at hvl
    simp [h0 s c v _ hvl, enumT_W]
    refine wp_map (fun p => D.int (if actsAt s c v p then c.to else gi v p)) (fun p hp => ?_) ?_
    · rw [List.mem_range] at hp
      have hin := in_acts (s := s) (c := c) hp
      cases h : actsAt s c v p with
      | true => rw [h] at hin; simp [-List.mem_map, hin]
      | false => rw [h] at hin; simp [-List.mem_map, hin]
    · rw [mkLs_f (line_of (by simp only [List.length_map, List.length_range]; omega))]
      have e : D.lst ((List.range v.length).map fun p => D.int (if actsAt s c v p then c.to else gi v p)) = LI (work s c v) := by unfold LI work; rw [List.map_map]; rfl
      rw [e]
      simp [doneB]
  · rintro ρ st' ⟨rfl, o3, o4, o5, o6, rfl⟩
    simp [finQ_eq]
end Y
end
section
set_option maxRecDepth 100000
set_option Elab.async false
set_option linter.all false
namespace Y
open PySem
/-- sorted rows of ints -/
theorem alike_W (a b : List Int) : PySem.W.alike (W a).py (W b).py = true := by
  have e : ∀ w : List Int, (W w).py = .tuple (w.map .int) := fun w => by
    rw [← tup_int1]; simp only [D.py, pys_map, List.map_map]; rfl
  rw [e, e]
  simp only [PySem.W.alike]
  exact PySem.W.alike_ints a b
theorem sorted_of {ws : List (List Int)} (h : (∀ w ∈ ws, w ≠ []) ∨ ∃ r, ws = [] :: r) : biD .sorted [LW ws] = some (LW ((ws.map fun w => w).mergeSort fun a b => leD (W a) (W b))) := by
  have hs : srtB (ws.map W) = true := by
    simp only [srtB, Bool.and_eq_true, Bool.or_eq_true, List.all_map, List.all_eq_true, Function.comp_apply, plN_W, alike_W, implies_true, and_self, true_and]
    rcases h with h | ⟨r, rfl⟩
    · refine .inl (.inl fun w hw => ?_)
      cases w with
      | nil => exact absurd rfl (h _ hw)
      | cons x w => rfl
    · exact .inr ⟨rfl, fun w _ => rfl⟩
  show bSorted [D.lst (ws.map W)] = _
  simp only [bSorted, hs, if_true]
  rw [← List.map_mergeSort (f := W) (r := fun a b => leD (W a) (W b)) (fun _ _ _ _ => rfl)]
  simp
theorem mem_sort {ws : List (List Int)} {le : List Int → List Int → Bool} {w : List Int} : w ∈ ws.mergeSort le ↔ w ∈ ws := List.mem_mergeSort
end Y
end
section
set_option maxRecDepth 100000
set_option Elab.async false
set_option linter.all false
namespace Y
open PySem
local macro_rules | `(tactic| tm_at "run") => `(tactic| refine Res.eq_of_wp (run_wp rfl ?_))
def Ss.tl : Ss → Ss
  | .cons _ r => r
  | .nil => .nil
/-! ### the first family's draws -/
theorem ok_law_pool_2 {C : Cs} {c0 c1 c2 c3 c4 c5 : Int} (hc : i64 c0 = true ∧ i64 c2 = true ∧ i64 c3 = true ∧ i64 c5 = true ∧ 0 < c4 ∧ c4 < 4294967296) : Q_pool (runFd C (t_law_pool_2 c0 c1 c2 c3 c4 c5)) := by
  intro ns k st hl hk
  obtain ⟨k0, k2, k3, k5, k4, k4'⟩ := hc
  refine run_wp rfl ?_
  have p18 : binD .pow (.int 10) (.int 18) = some (.int (10 ^ 18)) := by rw [pow_int (by omega) (by omega) (by decide)]; rfl
  generalize (10 : Int) ^ 18 = e18 at *
  have start : ∀ u : Int, (forM (fun x => forB C (Pt.name 4) (.cons (.asg (.name 3) (.bin .mod (.bi .int (.cons (.bin .add (.bin .add (.bin .mul (.var 3) (.lit (.int c3))) (.bin .mod (.bi .int (.cons (.var 4) .nil)) (.lit (.int c4)))) (.lit (.int 43))) .nil)) (.lit (.int c4)))) .nil) (D.int x)) (cutL ns none (some 6)) ⟨[some (LI ns), some (.int k), some (.int u), some (.int (c1 + c2 * k)), none], [], st.length⟩ st).wp
      (fun ρ st' => st' = st ∧ ∃ y o, ρ = ⟨[some (LI ns), some (.int k), some (.int u), some (.int y), o], [], st.length⟩) (fun _ _ => False) := fun u => by
    refine forM_ind (fun _ ρ st' => st' = st ∧ ∃ y o, ρ = ⟨[some (LI ns), some (.int k), some (.int u), some (.int y), o], [], st.length⟩) ⟨rfl, _, none, rfl⟩ ?_ (fun _ _ h => h)
    rintro i x ρ st' hx ⟨rfl, y, o, rfl⟩
    simp [mul_int_r k3, mod_int k4]
  have fin : ∀ x y : Int, finQ true st.length (fun d st' => d = D.ref (List.length st) ∧ ∃ a b c, st' = st ++ [pool a b c]) (.ref st.length) (st ++ [.lst [.int x, .int y, .int 0]]) := fun x y => by
    refine finQ_keep (get_top _ _) (Nat.le_refl _) (by simp) ?_
    simp
    exact ⟨_, _, _, rfl⟩
  have rest : ∀ u : Int, (evSs C (t_law_pool_2 c0 c1 c2 c3 c4 c5).body.tl ⟨[some (LI ns), some (.int k), some (.int u), some (.int (c1 + c2 * k)), none], [], st.length⟩ st).wp (fun x st' => finQ true st.length (fun d st' => d = D.ref (List.length st) ∧ ∃ a b c, st' = st ++ [pool a b c]) .non st') (fun d st' => finQ true st.length (fun d st' => d = D.ref (List.length st) ∧ ∃ a b c, st' = st ++ [pool a b c]) d st') := fun u => by
    simp [t_law_pool_2, Ss.tl]
    refine Fl.wp_mono (start u) ?_ (fun _ _ h => h.elim)
    rintro ρ st' ⟨rfl, y, o, rfl⟩
    by_cases h1 : u < 0
    · simp [h1, mul_int_r k5, mod_int k4]
      exact fin _ _
    · by_cases h2 : e18 ≤ u
      · simp [h1, h2, p18, mul_int_r k5, mod_int k4]
        exact fin _ _
      · simp [h1, h2, p18, mul_int_r k5, mod_int k4]
        exact fin _ _
  by_cases h : k < ns.length
  · simp [t_law_pool_2, h, idx_LIn h, mul_int_l k2]
    have := rest (gi ns k)
    simpa [t_law_pool_2, Ss.tl] using this
  · simp [t_law_pool_2, h, mul_int_l k0, mul_int_l k2]
    have := rest (c0 * k + 89)
    simpa [t_law_pool_2, Ss.tl] using this
theorem ok_law_draw {C : Cs} {c0 c1 c2 c3 c4 : Int} (hc : (0 < c0 ∧ c0 < 4294967296 ∧ 0 ≤ c1 ∧ c1 < 4294967296) ∧ i64 c2 = true ∧ 0 < c3 ∧ 0 < c4 ∧ c4 < 1073741824) : Q_take (runFd C (t_law_draw c0 c1 c2 c3 c4)) := by
  intro r m st hp hm hm2
  obtain ⟨⟨k0, k0', k1, k1'⟩, k2, k3, k4, k5⟩ := hc
  refine run_wp rfl ?_
  obtain ⟨a, b, c, hn⟩ := id hp
  have hd := deref_pool hn
  by_cases ha : 0 < b
  · simp [t_law_draw, hd, ha, divmod_int hm hm2, (set3 _ r a b c (b / m) st hn).2.1, finQ_eq]
    obtain ⟨v, e, hv⟩ := nat_of_mod b hm
    exact ⟨⟨v, e, hv⟩, hp, a, b / m, c, by simp [List.take_of_length_le]⟩
  · have hl := hp.lt
    have e1 := (set3 st.length r a b c (c + 1) st hn).2.2
    have hn1 : (st.set r (pool a b (c + 1)))[r]? = some (pool a b (c + 1)) := List.getElem?_set_self hl
    have hd1 := deref_pool hn1
    have ks : i64 (a % c0 + c1) = true := by
      have p := Int.emod_nonneg a (by omega : c0 ≠ 0)
      have q := Int.emod_lt_of_pos a k0
      exact i64_of (by omega) (by omega)
    generalize hx : (a * (a % c0 + c1) + c2 * (c + 1) + 9) % c3 = x
    have e2 := (set3 st.length r a b (c + 1) x _ hn1).1
    have hn2 : ((st.set r (pool a b (c + 1))).set r (pool x b (c + 1)))[r]? = some (pool x b (c + 1)) := List.getElem?_set_self (by simpa using hl)
    have hd2 := deref_pool hn2
    simp only [List.set_set] at e2 hd2
    simp [t_law_draw, hd, ha, e1, hd1, mul_int_l k2, mod_int k3, mod_int k0, mod_int hm, fdiv_int k4 k5, mul_int_r ks, hx, e2, hd2, finQ_eq]
    obtain ⟨v, e, hv⟩ := nat_of_mod (x / c4) hm
    exact ⟨⟨v, e, hv⟩, hp, x, b, c + 1, by simp [List.take_of_length_le]⟩
/-! lots of some things -/
def lotsOf : List Int → List (List Int) → List (List Int)
  | [], rows => rows
  | x :: xs, rows => lotsOf xs (rows ++ rows.map fun w => w ++ [x])
theorem lotsOf_app : ∀ (xs ys : List Int) (rows : List (List Int)), lotsOf (xs ++ ys) rows = lotsOf ys (lotsOf xs rows)
  | [], _, _ => rfl
  | x :: xs, ys, rows => by simp only [List.cons_append, lotsOf, lotsOf_app xs ys]
theorem lotsOf_len : ∀ (xs : List Int) (rows : List (List Int)), (lotsOf xs rows).length = rows.length * 2 ^ xs.length
  | [], rows => by simp [lotsOf]
  | x :: xs, rows => by simp [lotsOf, lotsOf_len xs, Nat.pow_succ]; rw [← Nat.two_mul, Nat.mul_comm 2, Nat.mul_assoc, Nat.mul_comm 2]
theorem lotsOf_head : ∀ (xs : List Int) (rows : List (List Int)), ∃ r, lotsOf xs ([] :: rows) = [] :: r
  | [], rows => ⟨rows, rfl⟩
  | x :: xs, rows => by
    obtain ⟨r, e⟩ := lotsOf_head xs (rows ++ ([] :: rows).map fun w => w ++ [x])
    exact ⟨r, by simp only [lotsOf, List.cons_append]; exact e⟩
theorem lotsOf_sub {n : Nat} : ∀ (xs ys : List Int) (rows : List (List Int)), (∀ w ∈ rows, w.Sublist ys) → ∀ w ∈ lotsOf xs rows, w.Sublist (ys ++ xs)
  | [], ys, rows, h, w, hw => by simpa using h w hw
  | x :: xs, ys, rows, h, w, hw => by
    have := lotsOf_sub (n := n) xs (ys ++ [x]) (rows ++ rows.map fun w => w ++ [x]) (fun v hv => by
      rcases List.mem_append.mp hv with hv | hv
      · exact (h v hv).trans (List.sublist_append_left _ _)
      · obtain ⟨u, hu, rfl⟩ := List.mem_map.mp hv
        exact List.Sublist.append (h u hu) (List.Sublist.refl _)) w (by simpa [lotsOf] using hw)
    simpa using this
theorem lotsOf_keep : ∀ (xs : List Int) (rows : List (List Int)) (w : List Int), w ∈ rows → w ∈ lotsOf xs rows
  | [], _, _, h => h
  | x :: xs, rows, w, h => lotsOf_keep xs _ w (List.mem_append_left _ h)
theorem lotsOf_one (x : Int) (xs : List Int) : [x] ∈ lotsOf (x :: xs) [[]] := by
  simp only [lotsOf]
  exact lotsOf_keep xs _ _ (by simp)
def Q_lots (F : Fun) : Prop := ∀ (xs : List Int) (st : Sto), xs.length ≤ 10 → F [LI xs] st = .ok (LW ((lotsOf xs [[]]).mergeSort fun a b => leD (W a) (W b))) st
theorem ok_law_lots {C : Cs} : Q_lots (runFd C t_law_lots) := by
  intro xs st hx
  tm_at "run"
  simp [t_law_lots]
  refine forM_ind (fun k ρ st' => st' = st ∧ ∃ o2 o3, ρ = ⟨[some (LI xs), some (LW (lotsOf (xs.take k) [[]])), o2, o3], [], st.length⟩) ⟨rfl, none, none, rfl⟩ ?_ ?_
  · rintro k x ρ st' hx' ⟨rfl, o2, o3, rfl⟩
    have e : xs.take (k + 1) = xs.take k ++ [x] := by rw [List.take_add_one, hx']; rfl
    have hl := lotsOf_len (xs.take k) [[]]
    have hp : 2 ^ (xs.take k).length ≤ 1024 := by
      calc 2 ^ (xs.take k).length ≤ 2 ^ 10 := Nat.pow_le_pow_right (by omega) (by simp; omega)
        _ = 1024 := by decide
    have hl' : (lotsOf (xs.take k) [[]]).length ≤ 1024 := by rw [hl, List.length_singleton, Nat.one_mul]; exact hp
    clear hl hp
    have hsub := lotsOf_sub (n := 0) (xs.take k) [] [[]] (by simp)
    rw [e, lotsOf_app]
    generalize lotsOf (xs.take k) [[]] = rows at *
    simp
    refine wp_map (fun w => W (w ++ [x])) (fun w hw => ?_) ?_
    · have := (hsub w hw).length_le
      have e : binD .add (W w) (.tup [.int x]) = some (W (w ++ [x])) := by
        rw [← tup_int1]; simp [binD, line_of (show w.length + 1 ≤ 16777216 by simp at this; omega)]
      simp [e]
    · rw [mkLs_f (line_of (by simp; omega))]
      have e2 : binD .add (LW rows) (.lst (rows.map fun w => W (w ++ [x]))) = some (LW (rows ++ rows.map fun w => w ++ [x])) := by
        rw [← lst_W1, ← lst_W1]; simp [binD, line_of (show rows.length + rows.length ≤ 16777216 by omega), List.map_map, Function.comp_def]
      simp only [lst_W] at e2
      simp [e2, lotsOf]
  · rintro ρ st' ⟨rfl, o2, o3, rfl⟩
    obtain ⟨r, e⟩ := lotsOf_head xs []
    have es := sorted_of (ws := lotsOf xs [[]]) (.inr ⟨r, e⟩)
    simp at es
    simp [es, finQ_eq]
theorem lots_mem {xs w : List Int} (h : w ∈ (lotsOf xs [[]]).mergeSort fun a b => leD (W a) (W b)) : w.Sublist xs := by
  have := lotsOf_sub (n := 0) xs [] [[]] (by simp) w (mem_sort.mp h)
  simpa using this
def neL (xs : List Int) : List (List Int) := ((lotsOf xs [[]]).mergeSort fun a b => leD (W a) (W b)).filter fun w => !decide (w = [])
theorem neL_mem {xs w : List Int} (h : w ∈ neL xs) : w.Sublist xs ∧ w ≠ [] := by
  obtain ⟨h1, h2⟩ := List.mem_filter.mp h
  exact ⟨lots_mem h1, by simpa using h2⟩
theorem neL_len {xs : List Int} (h : xs.length ≤ 10) : (neL xs).length ≤ 1024 := by
  refine Nat.le_trans (List.length_filter_le _ _) ?_
  rw [List.length_mergeSort, lotsOf_len, List.length_singleton, Nat.one_mul]
  calc 2 ^ xs.length ≤ 2 ^ 10 := Nat.pow_le_pow_right (by omega) h
    _ = 1024 := by decide
theorem neL_pos {xs : List Int} (h : xs ≠ []) : 0 < (neL xs).length := by
  cases xs with
  | nil => exact absurd rfl h
  | cons x xs =>
    refine List.length_pos_of_mem (a := [x]) (List.mem_filter.mpr ⟨mem_sort.mpr (lotsOf_one x xs), by simp⟩)
theorem neL_comp {C : Cs} {xs : List Int} {bx : List Nat} {bs : Nat} {st : Sto} {sl : List (Option D)} {i : Nat} (hi : i < sl.length) (hx : xs.length ≤ 10) (Q : List D → Sto → Prop) (hq : Q ((neL xs).map W) st) :
    (loopM (fun w => compB C [i] (.name i) (.cons (.cmp .ne (.var i) (.tup .nil)) .nil) (.fin (.var i)) ⟨sl, bx, bs⟩ (W w)) ((lotsOf xs [[]]).mergeSort fun a b => leD (W a) (W b)) st).wp Q := by
  refine wp_filter (fun w => !decide (w = [])) (fun w => W w) (fun w hw => ?_) hq
  have hs : ∀ d : D, (sl.set i (some d))[i]? = some (some d) := fun d => by rw [List.getElem?_set_self]; simpa using hi
  refine Res.eq_of_wp ?_
  by_cases h : w = [] <;> simp [h, hs]
theorem okLot_subI {m : Int} {xs w : List Int} (hp : xs.Pairwise (· < ·)) (hr : ∀ i ∈ xs, 0 ≤ i ∧ i ≤ m) (h : w.Sublist xs) (hw : w ≠ []) : okLot m w = true := by
  simp only [okLot, Bool.and_eq_true, asc_of (hp.sublist h), and_true, List.all_eq_true, decide_eq_true_eq]
  exact ⟨by simpa using hw, fun i hi => hr i (h.subset hi)⟩
theorem listrange_int {n : Nat} (h : n ≤ 100000) : biD .listrange [.int (n : Int)] = some (LI ((List.range n).map Nat.cast)) := by
  have h1 : i62 (n : Int) = true := i62_of (by omega) (by omega)
  simp [biD, bListrange, h1, line_of (show n ≤ 16777216 by omega), ← lst_int1, -lst_int1, Function.comp_def]
theorem range_pw (n : Nat) : ((List.range n).map (Nat.cast : Nat → Int)).Pairwise (· < ·) := by
  rw [List.pairwise_map]
  exact (List.pairwise_lt_range (n := n)).imp fun h => by omega
theorem pick_W {F : Fun} (h : Q_of F) {r : Nat} {ws : List (List Int)} {st : Sto} (hp : PoolAt r st) (h0 : 0 < ws.length) (h1 : ws.length ≤ 100000) : (F [.ref r, LW ws] st).wp fun d st' => (∃ w ∈ ws, d = W w) ∧ Dr r st st' := by
  refine Res.wp_mono (h r (ws.map W) st hp (by simpa using h0) (by simpa using h1) (by simp)) ?_
  rintro d st'' ⟨hm, hd3⟩
  obtain ⟨w, hw, rfl⟩ := List.mem_map.mp hm
  exact ⟨⟨w, hw, rfl⟩, hd3⟩
def Q_some (F : Fun) : Prop := ∀ (r n : Nat) (st : Sto), PoolAt r st → 0 < n → n ≤ 10 → (F [.ref r, .int n] st).wp fun d st' => (∃ w, d = W w ∧ okLot ((n : Int) - 1) w = true) ∧ Dr r st st'
theorem ok_law_some {C : Cs} {c0 c1 : Nat} (h0 : Q_of (C.fn c0)) (h1 : Q_lots (C.fn c1)) : Q_some (runFd C (t_law_some c0 c1)) := by
  intro r n st hp hn hn2
  refine run_wp rfl ?_
  have hl := h1 ((List.range n).map Nat.cast) st (by simp; omega)
  simp [t_law_some, listrange_int (show n ≤ 100000 by omega), hl]
  refine neL_comp (by simp) (by simp; omega) _ ?_
  have hlen := neL_len (xs := (List.range n).map Nat.cast) (by simp; omega)
  have hpos := neL_pos (xs := (List.range n).map Nat.cast) (by simp; omega)
  rw [mkLs_f (line_of (by simp; omega))]
  simp
  refine Res.wp_mono (pick_W h0 hp hpos (by omega)) ?_
  rintro d st' ⟨⟨w, hw, rfl⟩, hd⟩
  obtain ⟨k1, k2⟩ := neL_mem hw
  simp [finQ_eq]
  rw [hd.take]
  refine ⟨⟨w, rfl, okLot_subI (range_pw n) (fun i hi => ?_) k1 k2⟩, hd⟩
  · obtain ⟨j, hj, rfl⟩ := List.mem_map.mp hi
    have := List.mem_range.mp hj
    omega
theorem ok_law_change {C : Cs} {c0 c1 c2 c3 : Nat} (h0 : Q_take (C.fn c0)) (h1 : Q_of (C.fn c1)) (h2 : Q_lots (C.fn c2)) (h3 : Q_some (C.fn c3)) : Q_one (runFd C (t_law_change c0 c1 c2 c3)) := by
  intro r s st hp hs hs2
  refine run_wp rfl ?_
  have hi : i62 s = true := i62_of (by omega) (by omega)
  obtain ⟨n, rfl⟩ : ∃ n : Nat, s = n := ⟨s.toNat, by omega⟩
  simp [t_law_change]
  refine Res.wp_mono (h0 r n st hp (by omega) (by omega)) ?_
  rintro d st1 ⟨⟨t, rfl, ht⟩, hd1⟩
  simp [hi]
  refine wp_filter (fun (j : Nat) => !decide ((j : Int) = (t : Int))) (fun (j : Nat) => .int (j : Int)) (fun j hj => ?_) ?_
  · refine Res.eq_of_wp ?_
    by_cases h : (j : Int) = (t : Int) <;> simp [h]
  · have hfl := List.length_filter_le (fun (j : Nat) => !decide ((j : Int) = (t : Int))) (List.range n)
    simp only [List.length_range] at hfl
    rw [mkLs_f (line_of (by rw [List.length_map]; omega))]
    generalize hrest : (List.range n).filter (fun (j : Nat) => !decide ((j : Int) = (t : Int))) = rest at *
    have hrs : rest.Sublist (List.range n) := by rw [← hrest]; exact List.filter_sublist
    have hne : rest ≠ [] := by
      have : (if t = 0 then 1 else 0) ∈ rest := by
        rw [← hrest, List.mem_filter]
        refine ⟨List.mem_range.mpr (by split <;> omega), ?_⟩
        split <;> simp <;> omega
      exact fun e => by rw [e] at this; cases this
    have hnt : t ∉ rest := by rw [← hrest, List.mem_filter]; simp
    have hl := h2 (rest.map Nat.cast) st1 (by simp; omega)
    have e1 : D.lst (rest.map fun (j : Nat) => D.int (j : Int)) = LI (rest.map Nat.cast) := by rw [lst_int (fun (j : Nat) => (j : Int))]
    simp only [Res.wp_ok, Res.fl_ok, e1]
    simp [hl]
    refine neL_comp (by simp) (by simp; omega) _ ?_
    have hlen := neL_len (xs := rest.map Nat.cast) (by simp; omega)
    have hpos := neL_pos (xs := rest.map Nat.cast) (by simpa using hne)
    rw [mkLs_f (line_of (by simp; omega))]
    simp
    refine Res.wp_mono (pick_W h1 hd1.pool hpos (by omega)) ?_
    rintro d st2 ⟨⟨w', hw', rfl⟩, hd2⟩
    obtain ⟨k1, k2⟩ := neL_mem hw'
    have hp2 : (rest.map (Nat.cast : Nat → Int)).Pairwise (· < ·) := (range_pw n).sublist (hrs.map _)
    have hw1 : okLot ((n : Int) - 1) w' = true := okLot_subI hp2 (fun i hi => by
      obtain ⟨j, hj, rfl⟩ := List.mem_map.mp hi
      have := List.mem_range.mp (hrs.subset hj)
      omega) k1 k2
    have hw2 : (t : Int) ∉ w' := fun hm => by
      obtain ⟨j, hj, e⟩ := List.mem_map.mp (k1.subset hm)
      have : j = t := by omega
      exact hnt (this ▸ hj)
    have e1 : (((n + 1 : Nat) : Int) - 1) = n := by omega
    have q1 := fun (st2 : Sto) (hd : PoolAt r st2) => h3 r (n + 1) st2 hd (by omega) (by omega)
    rw [e1] at q1
    simp only [Int.natCast_add, Int.cast_ofNat_Int] at q1
    simp
    refine Res.wp_mono (q1 st2 hd2.pool) ?_
    rintro d st3 ⟨⟨wa, rfl, ha⟩, hd3⟩
    simp
    refine Res.wp_mono (q1 st3 hd3.pool) ?_
    rintro d st4 ⟨⟨wb, rfl, hb⟩, hd4⟩
    have h4 := ((hd1.trans hd2).trans hd3).trans hd4
    simp [finQ_eq, h4.take]
    exact ⟨⟨⟨w', t, wa, wb⟩, rfl, by simp [okLaw, hw1, hw2, ha, hb]; omega⟩, h4⟩
def Q_sounds (F : Fun) : Prop := ∀ (r : Nat) (st : Sto), PoolAt r st → (F [.ref r] st).wp fun d st' => (∃ s, d = .int s ∧ 2 ≤ s ∧ s ≤ 3) ∧ Dr r st st'
theorem ok_law_sounds {C : Cs} {c0 : Nat} (h0 : Q_take (C.fn c0)) : Q_sounds (runFd C (t_law_sounds c0)) := by
  intro r st hp
  refine run_wp rfl ?_
  simp [t_law_sounds]
  refine Res.wp_mono (h0 r 3 st hp (by omega) (by omega)) ?_
  rintro d st1 ⟨⟨t, rfl, ht⟩, hd1⟩
  by_cases h : t = 0
  · subst h
    simp [finQ_eq, hd1.take]
    exact hd1
  · simp [h, finQ_eq, hd1.take]
    exact hd1
def Q_lword (F : Fun) : Prop := ∀ (r : Nat) (s m : Int) (st : Sto), PoolAt r st → 1 ≤ s → s ≤ 1000 → 1 ≤ m → m ≤ 1000 → (F [.ref r, .int s, .int m] st).wp fun d st' => (∃ w : List Int, d = W w ∧ 1 ≤ w.length ∧ (w.length : Int) ≤ m ∧ ∀ i ∈ w, 0 ≤ i ∧ i ≤ s - 1) ∧ Dr r st st'
theorem ok_law_word {C : Cs} {c0 : Nat} (h0 : Q_take (C.fn c0)) : Q_lword (runFd C (t_law_word c0)) := by
  intro r s m st hp hs hs2 hm hm2
  refine run_wp rfl ?_
  simp [t_law_word]
  refine Res.wp_mono (h0 r m st hp (by omega) (by omega)) ?_
  rintro d st1 ⟨⟨t, rfl, ht⟩, hd1⟩
  have hi : i62 (1 + (t : Int)) = true := i62_of (by omega) (by omega)
  have e1 : (1 + (t : Int)).toNat = 1 + t := by omega
  simp [hi, e1]
  refine loopM_ind (fun i acc st' => Dr r st st' ∧ ∃ w : List Int, acc = w.map .int ∧ w.length = i ∧ ∀ i ∈ w, 0 ≤ i ∧ i ≤ s - 1) ⟨hd1, [], rfl, rfl, by simp⟩ ?_ ?_
  · rintro i x acc st' hx ⟨hd, w, rfl, hl, hw⟩
    simp
    refine Res.wp_mono (h0 r s st' hd.pool (by omega) (by omega)) ?_
    rintro d st'' ⟨⟨v, rfl, hv⟩, hd2⟩
    simp
    refine ⟨hd.trans hd2, w ++ [(v : Int)], by simp, by simp [hl], fun i hi => ?_⟩
    rcases List.mem_append.mp hi with hi | hi
    · exact hw i hi
    · simp at hi; omega
  · rintro acc st' ⟨hd, w, rfl, hl, hw⟩
    simp at hl
    rw [mkLs_f (line_of (by simp; omega))]
    simp [finQ_eq]
    rw [hd.take]
    exact ⟨⟨w, rfl, by omega, by omega, hw⟩, hd⟩
/-! the law's own doing, by what stands there now -/
def AsW (st : Sto) (x : D) (w : List Int) : Prop := deref st x = W w ∨ deref st x = LI w
theorem AsW.len {st : Sto} {x : D} {w : List Int} (h : AsW st x w) : biD .len [deref st x] = some (.int w.length) := by
  rcases h with h | h <;> simp [h]
theorem AsW.idx {st : Sto} {x : D} {w : List Int} (h : AsW st x w) {p : Nat} (hp : p < w.length) : idxD (deref st x) (.int (p : Int)) = some (.int (gi w p)) := by
  rcases h with h | h <;> rw [h]
  · exact idx_Wn hp
  · exact idx_LIn hp
def atI (s : Int) (w : List Int) (p : Int) : Int := if 0 ≤ p ∧ p < w.length then gi w p.toNat else s
def Q_at (F : Fun) : Prop := ∀ (s : Int) (x : D) (w : List Int) (p : Int) (st : Sto), AsW st x w → F [.int s, x, .int p] st = .ok (.int (atI s w p)) st
theorem ok_law_at {C : Cs} : Q_at (runFd C t_law_at) := by
  intro s x w p st hx
  tm_at "run"
  have hl := hx.len
  by_cases h0 : 0 ≤ p
  · by_cases h1 : p < w.length
    · obtain ⟨n, rfl⟩ : ∃ n : Nat, p = n := ⟨p.toNat, by omega⟩
      have hi := hx.idx (p := n) (by omega)
      simp [t_law_at, hl, h1, hi, atI, finQ_eq]
    · simp [t_law_at, hl, h0, h1, atI, finQ_eq]
  · simp [t_law_at, hl, h0, atI, finQ_eq]
theorem atI_ahead {s : Int} {w : List Int} {p : Nat} (hp : p < w.length) : atI s w ((p : Int) - 1) = aheadOf s w p := by
  unfold atI aheadOf
  by_cases h : p = 0
  · subst h; simp
  · rw [if_pos (by omega), if_neg h]; congr 1; omega
theorem atI_behind {s : Int} {w : List Int} {p : Nat} (hp : p < w.length) : atI s w ((p : Int) + 1) = behindOf s w p := by
  unfold atI behindOf
  by_cases h : p + 1 < w.length
  · rw [if_pos (by omega), if_pos h]; congr 1
  · rw [if_neg (by omega), if_neg h]
def Q_does (F : Fun) : Prop := ∀ (s : Int) (c : Lw) (x : D) (w : List Int) (p : Nat) (st : Sto), AsW st x w → p < w.length → F [.int s, L c, x, .int p] st = .ok (.bl (actsAt s c w p)) st
theorem ok_law_does {C : Cs} {c0 : Nat} (h0 : Q_at (C.fn c0)) : Q_does (runFd C (t_law_does c0)) := by
  intro s c x w p st hx hp
  tm_at "run"
  have hi := hx.idx hp
  have e1 := fun st hx => h0 s x w ((p : Int) - 1) st hx
  have e2 := fun st hx => h0 s x w ((p : Int) + 1) st hx
  rw [atI_ahead hp] at e1
  rw [atI_behind hp] at e2
  by_cases a1 : gi w p ∈ c.fr
  · by_cases a2 : aheadOf s w p ∈ c.ah <;> simp [t_law_does, hi, e1 st hx, e2 st hx, actsAt, a1, a2, finQ_eq]
  · simp [t_law_does, hi, actsAt, a1, finQ_eq]
theorem asW_W (st : Sto) (w : List Int) : AsW st (W w) w := .inl rfl
def Q_lacts (F : Fun) : Prop := ∀ (s : Int) (c : Lw) (w : List Int) (st : Sto), w.length ≤ 100000 → F [.int s, L c, W w] st = .ok (W ((actsOf s c w).map Nat.cast)) st
theorem ok_law_acts {C : Cs} {c0 : Nat} (h0 : Q_does (C.fn c0)) : Q_lacts (runFd C (t_law_acts c0)) := by
  intro s c w st hw
  tm_at "run"
  have h1 : i62 (w.length : Int) = true := i62_of (by omega) (by omega)
  simp [t_law_acts, h1]
  refine wp_filter (actsAt s c w) (fun p => .int (p : Int)) (fun p hp => ?_) ?_
  · simp at hp
    refine Res.eq_of_wp ?_
    cases h : actsAt s c w p <;> simp [h0 s c _ w p st (asW_W _ _) hp, h]
  · have := List.length_filter_le (actsAt s c w) (List.range w.length)
    rw [mkLs_f (line_of (by simp at this ⊢; omega))]
    simp [actsOf, finQ_eq]
def Q_made (F : Fun) : Prop := ∀ (s : Int) (c : Lw) (w : List Int) (st : Sto), w.length ≤ 100000 → F [.int s, L c, W w] st = .ok (W (work s c w)) st
theorem ok_law_made {C : Cs} {c0 : Nat} (h0 : Q_does (C.fn c0)) : Q_made (runFd C (t_law_made c0)) := by
  intro s c w st hw
  tm_at "run"
  have h1 : i62 (w.length : Int) = true := i62_of (by omega) (by omega)
  simp [t_law_made, h1]
  refine wp_map (fun p => .int (if actsAt s c w p then c.to else gi w p)) (fun p hp => ?_) ?_
  · simp at hp
    refine Res.eq_of_wp ?_
    cases h : actsAt s c w p <;> simp [h0 s c _ w p st (asW_W _ _) hp, h, idx_Wn hp]
  · rw [mkLs_f (line_of (by simp; omega))]
    simp [work, finQ_eq]
theorem ok_law_words_2 {C : Cs} : Q_law_words (runFd C t_law_words_2) := by
  intro s n st hs hs2 hn
  tm_at "run"
  have h1 : i62 (n : Int) = true := i62_of (by omega) (by omega)
  have h2 : i62 s = true := i62_of (by omega) (by omega)
  have hb : ∀ k, k ≤ n → (wds s k).length * s.toNat ≤ 59049 := fun k hk => by
    rw [wds_len, ← Nat.pow_succ]
    calc s.toNat ^ (k + 1) ≤ 3 ^ (k + 1) := Nat.pow_le_pow_left (by omega) _
      _ ≤ 3 ^ 10 := Nat.pow_le_pow_right (by omega) (by omega)
      _ = 59049 := by decide
  simp [t_law_words_2, h1]
  refine forM_ind (fun k ρ st' => st' = st ∧ ∃ o3 o4 o5 o6, ρ = ⟨[some (.int s), some (.int n), some (LW (wds s k)), o3, o4, o5, o6], [], st.length⟩) ⟨rfl, none, none, none, none, rfl⟩ ?_ ?_
  · rintro k x ρ st' hx ⟨rfl, o3, o4, o5, o6, rfl⟩
    obtain ⟨hk, rfl⟩ := range_get hx
    have hkb := hb x (by omega)
    simp
    refine forM_ind (fun i ρ st'' => st'' = st' ∧ ∃ o5 o6, ρ = ⟨[some (.int s), some (.int n), some (LW (wds s x)), some (.int x), some (LW (((wds s x).take i).flatMap fun w => (List.range s.toNat).map fun (j : Nat) => w ++ [(j : Int)])), o5, o6], [], st'.length⟩) ⟨rfl, o5, o6, by simp; rfl⟩ ?_ ?_
    · rintro i w ρ st'' hw ⟨rfl, o5, o6, rfl⟩
      have hwl := mem_wds_len (List.mem_of_getElem? hw)
      have hti : ((wds s x).take i).length * s.toNat + s.toNat ≤ 59049 := by
        have h3 : i + 1 ≤ (wds s x).length := (List.getElem?_eq_some_iff.mp hw).1
        have : (i + 1) * s.toNat ≤ (wds s x).length * s.toNat := Nat.mul_le_mul_right _ h3
        rw [Nat.add_mul] at this
        have h4 : ((wds s x).take i).length = i := by simp; omega
        rw [h4]; omega
      generalize hacc : (((wds s x).take i).flatMap fun w => (List.range s.toNat).map fun (j : Nat) => w ++ [(j : Int)]) = acc
      have hal : acc.length = ((wds s x).take i).length * s.toNat := by
        rw [← hacc]; simp [List.length_flatMap, List.map_const']
      simp [h2]
      refine wp_map (fun (j : Nat) => W (w ++ [(j : Int)])) (fun j hj => ?_) ?_
      · have := line_of (show w.length + 1 ≤ 16777216 by omega)
        have e : binD .add (W w) (.tup [.int (j : Int)]) = some (W (w ++ [(j : Int)])) := by
          rw [← tup_int1]; simp [binD, this]
        simp [e]
      · rw [mkLs_f (line_of (by simp; omega))]
        have e2 := add_LW (a := acc) (b := (List.range s.toNat).map fun (j : Nat) => w ++ [(j : Int)]) (by simp; omega)
        have : (wds s x).take (i + 1) = (wds s x).take i ++ [w] := by rw [List.take_add_one, hw]; rfl
        rw [this, List.flatMap_append, hacc]
        simp [e2]
    · rintro ρ st'' ⟨rfl, o5, o6, rfl⟩
      simp [wds]
  · rintro ρ st' ⟨rfl, o3, o4, o5, o6, rfl⟩
    simp [finQ_eq]
/-! place by place -/
def led (s : Int) (c : Lw) (w : List Int) (p : Nat) : List Int := if actsAt s c w p then w.set p c.to else w
def ledAll (s : Int) (c : Lw) (w : List Int) (ps : List Nat) : List Int := ps.foldl (led s c) w
theorem led_len (s : Int) (c : Lw) (w : List Int) (p : Nat) : (led s c w p).length = w.length := by unfold led; split <;> simp
theorem ledAll_len (s : Int) (c : Lw) (w : List Int) (ps : List Nat) : (ledAll s c w ps).length = w.length := by
  unfold ledAll
  induction ps generalizing w with
  | nil => rfl
  | cons p ps ih => rw [List.foldl_cons, ih, led_len]
def Q_put_at (F : Fun) : Prop := ∀ (w : List Int) (p : Nat) (x : Int) (st : Sto), p < w.length → w.length ≤ 100000 → F [W w, .int p, .int x] st = .ok (W (w.set p x)) st
theorem ok_put_at {C : Cs} : Q_put_at (runFd C t_put_at) := by
  intro w p x st hp hw
  tm_at "run"
  have e : w.set p x = w.take p ++ x :: w.drop (p + 1) := List.set_eq_take_append_cons_drop.trans (by rw [if_pos hp])
  have hc : cutL w (some ((p : Int) + 1)) none = w.drop (p + 1) := by
    rw [cutL_from _ _ (by omega)]; congr 1
  have hc2 : cutL w none (some (p : Int)) = w.take p := by rw [cutL_to _ _ (by omega)]; simp
  have hl : line (min p w.length + (w.length - (p + 1) + 1)) = true := line_of (by omega)
  have e3 : D.tup ((w.take p).map .int ++ .int x :: (w.drop (p + 1)).map .int) = W (w.set p x) := by
    rw [e, ← tup_int1]; simp
  simp [t_put_at, hc, hc2, hl]
  simp only [List.map_take, List.map_drop] at e3
  simp [e3, finQ_eq]
def Q_led (F : Fun) : Prop := ∀ (s : Int) (c : Lw) (w : List Int) (ps : List Nat) (st : Sto), w.length ≤ 100000 → (∀ p ∈ ps, p < w.length) → F [.int s, L c, W w, LI (ps.map Nat.cast)] st = .ok (W (ledAll s c w ps)) st
theorem ok_led_through {C : Cs} {c0 c1 : Nat} (h0 : Q_does_act (C.fn c0)) (h1 : Q_put_at (C.fn c1)) : Q_led (runFd C (t_led_through c0 c1)) := by
  intro s c w ps st hw hp
  tm_at "run"
  simp [t_led_through]
  refine forM_ind (fun k ρ st' => st' = st ∧ ∃ o, ρ = ⟨[some (.int s), some (L c), some (W w), some (LI (ps.map Nat.cast)), some (W (ledAll s c w (ps.take k))), o], [], st.length⟩) ⟨rfl, none, by simp [ledAll]⟩ ?_ ?_
  · rintro k p ρ st' hx ⟨rfl, o, rfl⟩
    have hpl := hp p (List.mem_of_getElem? hx)
    have e : ledAll s c w (ps.take (k + 1)) = led s c (ledAll s c w (ps.take k)) p := by
      unfold ledAll; rw [List.take_add_one, hx]; simp
    have hl := ledAll_len s c w (ps.take k)
    rw [e]
    generalize ledAll s c w (ps.take k) = v at *
    cases h : actsAt s c v p with
    | true => simp [h0 s c v p _ (by omega), h, h1 v p c.to _ (by omega) (by omega), led]
    | false => simp [h0 s c v p _ (by omega), h, led]
  · rintro ρ st' ⟨rfl, o, rfl⟩
    simp [finQ_eq]
def Q_forwards_by (F : Fun) : Prop := ∀ (s : Int) (c : Lw) (w : List Int) (st : Sto), w.length ≤ 100000 → F [.int s, L c, W w] st = .ok (W (ledAll s c w (List.range w.length))) st
theorem ok_forwards_by {C : Cs} {c0 : Nat} (h0 : Q_led (C.fn c0)) : Q_forwards_by (runFd C (t_forwards_by c0)) := by
  intro s c w st hw
  tm_at "run"
  simp [t_forwards_by, listrange_int hw, h0 s c w (List.range w.length) st hw (fun p hp => List.mem_range.mp hp), finQ_eq]
theorem rev_LI (w : List Int) : revD (LI w) = some (LI w.reverse) := by rw [← lst_int1, ← lst_int1]; simp [revD]
def Q_backwards_by (F : Fun) : Prop := ∀ (s : Int) (c : Lw) (w : List Int) (st : Sto), w.length ≤ 100000 → F [.int s, L c, W w] st = .ok (W (ledAll s c w (List.range w.length).reverse)) st
theorem ok_backwards_by {C : Cs} {c0 : Nat} (h0 : Q_led (C.fn c0)) : Q_backwards_by (runFd C (t_backwards_by c0)) := by
  intro s c w st hw
  tm_at "run"
  have e := h0 s c w (List.range w.length).reverse st hw (fun p hp => List.mem_range.mp (List.mem_reverse.mp hp))
  rw [List.map_reverse] at e
  simp [t_backwards_by, listrange_int hw, rev_LI, e, finQ_eq]
def Q_by_place (F : Fun) : Prop := ∀ (s : Int) (c : Lw) (w : List Int) (ps : List Nat) (st : Sto), w.length ≤ 100000 → (∀ p ∈ ps, p < w.length) → F [.int s, L c, W w, LI (ps.map Nat.cast)] st = .ok (W (ledAll s c w ps)) st
theorem bList_W (w : List Int) : bList [W w] = some (LI w) := rfl
theorem setI_at {base n : Nat} {v : List Int} {p : Nat} {x : Int} {st : Sto} (hn : st[n]? = some (.lst (v.map .int))) (hp : p < v.length) : setI base (.ref n) (.int (p : Int)) (.int x) st = .ok () (st.set n (.lst ((v.set p x).map .int))) := by
  have e : L2.ixN (v.map D.int).length (p : Int) = some p := by simp [L2.ixN, hp]
  simp only [setI, hn, e]
  simp [wrOk, List.map_set]
theorem ok_law_by_place {C : Cs} {c0 : Nat} (h0 : Q_does (C.fn c0)) : Q_by_place (runFd C (t_law_by_place c0)) := by
  intro s c w ps st hw hp
  tm_at "run"
  simp [t_law_by_place, bList_W]
  rw [mkLs_t (line_of (by simp; omega))]
  simp
  refine forM_ind (fun k ρ st' => st' = st ++ [.lst ((ledAll s c w (ps.take k)).map .int)] ∧ ∃ o, ρ = ⟨[some (.int s), some (L c), some (W w), some (LI (ps.map Nat.cast)), some (.ref st.length), o], [], st.length⟩) ⟨by simp [ledAll], none, rfl⟩ ?_ ?_
  · rintro k p ρ st' hx ⟨rfl, o, rfl⟩
    have hpl := hp p (List.mem_of_getElem? hx)
    have e : ledAll s c w (ps.take (k + 1)) = led s c (ledAll s c w (ps.take k)) p := by
      unfold ledAll; rw [List.take_add_one, hx]; simp
    have hl := ledAll_len s c w (ps.take k)
    rw [e]
    generalize ledAll s c w (ps.take k) = v at *
    have hx : AsW (st ++ [.lst (v.map .int)]) (.ref st.length) v := .inr (deref_ref (get_top _ _))
    have hs := setI_at (base := st.length) (x := c.to) (get_top st (.lst (v.map .int))) (by omega : p < v.length)
    cases h : actsAt s c v p with
    | true => simp [h0 s c _ v p _ hx (by omega), h, hs, led]
    | false => simp [h0 s c _ v p _ hx (by omega), h, led]
  · rintro ρ st' ⟨rfl, o, rfl⟩
    simp [deref_ref (get_top st (.lst ((ledAll s c w ps).map .int))), finQ_eq]
/-! steps -/
def stepsB (s : Int) : List Lw → List Int → List (List Int)
  | [], w => [w]
  | c :: b, w => w :: stepsB s b (work s c w)
theorem stepsB_snoc (s : Int) (c : Lw) : ∀ (b : List Lw) (w : List Int), stepsB s (b ++ [c]) w = stepsB s b w ++ [work s c (doneB s b w)]
  | [], w => rfl
  | d :: b, w => by simp only [List.cons_append, stepsB, stepsB_snoc s c b, doneB, List.cons_append]
theorem stepsB_len (s : Int) : ∀ (b : List Lw) (w : List Int), (stepsB s b w).length = b.length + 1
  | [], w => rfl
  | d :: b, w => by simp [stepsB, stepsB_len s b]
theorem stepsB_last (s : Int) : ∀ (b : List Lw) (w : List Int), gw (stepsB s b w) b.length = doneB s b w
  | [], w => rfl
  | d :: b, w => by
    have := stepsB_last s b (work s d w)
    simpa [stepsB, gw, doneB] using this
theorem idx_last {xs : List (List Int)} {n : Nat} (h : xs.length = n + 1) : idxD (TW xs) (.int (-1)) = some (W (gw xs n)) := by
  show atD (xs.map W) _ = _
  rw [atD_of (by simp; omega) (by simp; omega)]
  have e : ixI (xs.map W).length (-1) = n := by simp [ixI, h]; omega
  rw [e]
  simp [gw, h]
def Q_steps_by (F : Fun) : Prop := ∀ (s : Int) (b : List Lw) (w : List Int) (st : Sto), w.length ≤ 100000 → b.length ≤ 1000 → F [.int s, B b, W w] st = .ok (TW (stepsB s b w)) st
theorem ok_steps_by {C : Cs} {c0 : Nat} (h0 : Q_work_by (C.fn c0)) : Q_steps_by (runFd C (t_steps_by c0)) := by
  intro s b w st hw hb
  tm_at "run"
  simp [t_steps_by]
  refine forM_ind (fun k ρ st' => st' = st ∧ ∃ o, ρ = ⟨[some (.int s), some (B b), some (W w), some (TW (stepsB s (b.take k) w)), o], [], st.length⟩) ⟨rfl, none, by simp [stepsB]; rfl⟩ ?_ ?_
  · rintro k c ρ st' hx ⟨rfl, o, rfl⟩
    have hk : k < b.length := (List.getElem?_eq_some_iff.mp hx).1
    have e : stepsB s (b.take (k + 1)) w = stepsB s (b.take k) w ++ [work s c (doneB s (b.take k) w)] := by
      rw [List.take_add_one, hx]; exact stepsB_snoc s c _ _
    have hl := stepsB_len s (b.take k) w
    have hi := idx_last hl
    rw [stepsB_last] at hi
    have hl2 : (stepsB s (b.take k) w).length ≤ 1001 := by rw [hl]; simp; omega
    rw [e]
    simp [hi, h0 s c (doneB s (b.take k) w) _ (by simp; omega), line_of (show (stepsB s (b.take k) w).length + 1 ≤ 16777216 by omega)]
  · rintro ρ st' ⟨rfl, o, rfl⟩
    simp [finQ_eq]
/-! what is asked -/
def Q_check_law (F : Fun) : Prop := ∀ (s : Int) (d : D) (st : Sto), d.ok → isLawD s d = true → F [.int s, d] st = .ok .non st
theorem ok_check_law {C : Cs} {c0 : Nat} (h0 : Q_is_law (C.fn c0)) : Q_check_law (runFd C (t_check_word c0)) := by
  intro s d st h hb
  tm_at "run"
  simp [t_check_word, h0 s d st h, hb, finQ_eq]
def Q_check_law_worded (F : Fun) : Prop := ∀ (s : Int) (c : Lw) (w : List Int) (st : Sto), 2 ≤ s → s ≤ 3 → okLaw s c = true → okWord s w = true → F [.int s, L c, W w] st = .ok .non st
theorem ok_check_law_worded {C : Cs} {c0 c1 c2 : Nat} (h0 : Q_check_sounds (C.fn c0)) (h1 : Q_check_law (C.fn c1)) (h2 : Q_check_word (C.fn c2)) : Q_check_law_worded (runFd C (t_check_law_worded c0 c1 c2)) := by
  intro s c w st hs hs2 hc hw
  tm_at "run"
  simp [t_check_law_worded, h0 s _ hs hs2, h1 s _ _ (ok_L hs2 hc) (by simpa using hc), h2 s _ _ (ok_word hw) (by simpa using hw), finQ_eq]
def Q_check_worded (F : Fun) : Prop := ∀ (s : Int) (b : List Lw) (w : List Int) (st : Sto), 2 ≤ s → s ≤ 3 → okBook s b = true → okWord s w = true → F [.int s, B b, W w] st = .ok .non st
theorem ok_check_worded {C : Cs} {c0 c1 : Nat} (h0 : Q_check_booked (C.fn c0)) (h1 : Q_check_word (C.fn c1)) : Q_check_worded (runFd C (t_check_sourced c0 c1)) := by
  intro s b w st hs hs2 hb hw
  tm_at "run"
  simp [t_check_sourced, h0 s _ _ hs hs2 (ok_B hs2 hb) (by simpa using hb), h1 s _ _ (ok_word hw) (by simpa using hw), finQ_eq]
def Q_acts (F : Fun) : Prop := ∀ (s : Int) (c : Lw) (w : List Int) (st : Sto), 2 ≤ s → s ≤ 3 → okLaw s c = true → okWord s w = true → F [.int s, L c, W w] st = .ok (W ((actsOf s c w).map Nat.cast)) st
theorem ok_acts {C : Cs} {c0 c1 : Nat} (h0 : Q_check_law_worded (C.fn c0)) (h1 : Q_acts_by (C.fn c1)) : Q_acts (runFd C (t_acts c0 c1)) := by
  intro s c w st hs hs2 hc hw
  tm_at "run"
  have := okWord_len hw
  simp [t_acts, h0 s c w _ hs hs2 hc hw, h1 s c w _ (by omega), finQ_eq]
def Q_done (F : Fun) : Prop := ∀ (s : Int) (b : List Lw) (w : List Int) (st : Sto), 2 ≤ s → s ≤ 3 → okBook s b = true → okWord s w = true → F [.int s, B b, W w] st = .ok (W (doneB s b w)) st
theorem ok_done {C : Cs} {c0 c1 : Nat} (h0 : Q_check_worded (C.fn c0)) (h1 : Q_done_by (C.fn c1)) : Q_done (runFd C (t_sources c0 c1)) := by
  intro s b w st hs hs2 hb hw
  tm_at "run"
  have := okWord_len hw
  simp [t_sources, h0 s b w _ hs hs2 hb hw, h1 s b w _ (by omega), finQ_eq]
theorem okBook_len {s : Int} {b : List Lw} (h : okBook s b = true) : b.length ≤ 3 ∧ b.all (okLaw s) = true := by
  simp only [okBook, Bool.and_eq_true, decide_eq_true_eq] at h
  exact h
def Q_steps (F : Fun) : Prop := ∀ (s : Int) (b : List Lw) (w : List Int) (st : Sto), 2 ≤ s → s ≤ 3 → okBook s b = true → okWord s w = true → F [.int s, B b, W w] st = .ok (TW (stepsB s b w)) st
theorem ok_steps {C : Cs} {c0 c1 : Nat} (h0 : Q_check_worded (C.fn c0)) (h1 : Q_steps_by (C.fn c1)) : Q_steps (runFd C (t_sources c0 c1)) := by
  intro s b w st hs hs2 hb hw
  tm_at "run"
  have := okWord_len hw
  have := okBook_len hb
  simp [t_sources, h0 s b w _ hs hs2 hb hw, h1 s b w _ (by omega) (by omega), finQ_eq]
def Q_forwards (F : Fun) : Prop := ∀ (s : Int) (c : Lw) (w : List Int) (st : Sto), 2 ≤ s → s ≤ 3 → okLaw s c = true → okWord s w = true → F [.int s, L c, W w] st = .ok (W (ledAll s c w (List.range w.length))) st
theorem ok_forwards {C : Cs} {c0 c1 : Nat} (h0 : Q_check_law_worded (C.fn c0)) (h1 : Q_forwards_by (C.fn c1)) : Q_forwards (runFd C (t_sources c0 c1)) := by
  intro s c w st hs hs2 hc hw
  tm_at "run"
  have := okWord_len hw
  simp [t_sources, h0 s c w _ hs hs2 hc hw, h1 s c w _ (by omega), finQ_eq]
def Q_backwards (F : Fun) : Prop := ∀ (s : Int) (c : Lw) (w : List Int) (st : Sto), 2 ≤ s → s ≤ 3 → okLaw s c = true → okWord s w = true → F [.int s, L c, W w] st = .ok (W (ledAll s c w (List.range w.length).reverse)) st
theorem ok_backwards {C : Cs} {c0 c1 : Nat} (h0 : Q_check_law_worded (C.fn c0)) (h1 : Q_backwards_by (C.fn c1)) : Q_backwards (runFd C (t_sources c0 c1)) := by
  intro s c w st hs hs2 hc hw
  tm_at "run"
  have := okWord_len hw
  simp [t_sources, h0 s c w _ hs hs2 hc hw, h1 s c w _ (by omega), finQ_eq]
def Q_all_words (F : Fun) : Prop := ∀ (s : Int) (n : Nat) (st : Sto), 2 ≤ s → s ≤ 3 → 1 ≤ n → n ≤ 7 → F [.int s, .int n] st = .ok (TW (wds s n)) st
theorem ok_all_words {C : Cs} {c0 c1 c2 : Nat} (h0 : Q_check_sounds (C.fn c0)) (h1 : Q_is_between (C.fn c1)) (h2 : Q_words_by (C.fn c2)) : Q_all_words (runFd C (t_all_words c0 c1 c2)) := by
  intro s n st hs hs2 hn hn2
  tm_at "run"
  have hb : betw 1 7 (.int (n : Int)) = true := by simp; omega
  simp only [betw_int] at hb
  simp [t_all_words, h0 s _ hs hs2, h1 (.int (n : Int)) 1 7 _ rfl, hb, h2 s n _ (by omega) hs2 (by omega), finQ_eq]
end Y
end
section
set_option maxRecDepth 100000
set_option Elab.async false
set_option linter.all false
namespace Y
open PySem
def t_done_upto (c0 : Nat) (c1 : Nat) : Fd := ⟨3, 4, [], false, (.cons (.ret (.comp false [3] (.val (.call c0 (.cons (.var 0) (.cons (.bin .add (.bin .mul (.lit (.int 2)) (.bi .len (.cons (.var 1) .nil))) (.var 2)) .nil)) .nil none)) (.name 3) .nil (.fin (.call c1 (.cons (.var 0) (.cons (.var 1) (.cons (.var 3) .nil))) .nil none)))) .nil)⟩  -- words_upto done_by
def t_beside_by (c0 : Nat) : Fd := ⟨2, 6, [], false, (.cons (.asg (.name 2) (.dnew true)) (.cons (.for_ (.name 3) (.val (.call c0 (.cons (.var 0) (.cons (.var 1) (.cons (.lit (.int 2)) .nil))) .nil none)) (.cons (.asg (.name 4) (.tup (.cons (.var 0) (.star (.var 3) (.cons (.var 0) .nil))))) (.cons (.for_ (.name 5) (.zip (.var 4) (.sl (.var 4) (.some (.lit (.int 1))) .none)) (.cons (.asg (.sub (.var 2) (.var 5)) (.lit (.bl true))) .nil)) .nil))) (.cons (.ret (.bi .tuple (.cons (.bi .sorted (.cons (.var 2) .nil)) .nil))) .nil)))⟩  -- done_upto
def t_lone_by (c0 : Nat) : Fd := ⟨2, 5, [], false, (.cons (.asg (.name 2) (.comp false [3, 4] (.val (.call c0 (.cons (.var 0) (.cons (.var 1) .nil)) .nil none)) (.name 3) .nil (.cons (.name 4) (.val (.var 3)) .nil (.fin (.var 4))))) (.cons (.ret (.bi .tuple (.cons (.comp false [4] (.rng (.var 0)) (.name 4) (.cons (.cmp .notin (.var 4) (.var 2)) .nil) (.fin (.var 4))) .nil))) .nil))⟩  -- beside_by
def t_is_short_book : Fd := ⟨1, 1, [], false, (.cons (.ret (.cmp .le (.bi .len (.cons (.var 0) .nil)) (.gl "MOST_AROUND" (.int 2)))) .nil)⟩
def t_check_short (c0 : Nat) (c1 : Nat) : Fd := ⟨2, 2, [], false, (.cons (.ex (.call c0 (.cons (.var 0) (.cons (.var 1) .nil)) .nil none)) (.cons (.iff (.not (.call c1 (.cons (.var 1) .nil) .nil none)) (.cons (.raise 0 .nil) .nil) .nil) .nil))⟩  -- check_booked is_short_book
def t_beside (c0 : Nat) (c1 : Nat) : Fd := ⟨2, 2, [], false, (.cons (.ex (.call c0 (.cons (.var 0) (.cons (.var 1) .nil)) .nil none)) (.cons (.ret (.call c1 (.cons (.var 0) (.cons (.var 1) .nil)) .nil none)) .nil))⟩  -- check_short beside_by
def t_law_near_2 (c0 : Nat) (c1 : Nat) : Fd := ⟨3, 8, [], false, (.cons (.asg (.name 3) (.dnew true)) (.cons (.for_ (.name 4) (.rng2 (.lit (.int 1)) (.bin .add (.bin .add (.bin .mul (.lit (.int 2)) (.bi .len (.cons (.var 1) .nil))) (.var 2)) (.lit (.int 1)))) (.cons (.for_ (.name 5) (.val (.call c0 (.cons (.var 0) (.cons (.var 4) .nil)) .nil none)) (.cons (.asg (.name 6) (.bin .add (.bin .add (.tup (.cons (.var 0) .nil)) (.call c1 (.cons (.var 0) (.cons (.var 1) (.cons (.var 5) .nil))) .nil none)) (.tup (.cons (.var 0) .nil)))) (.cons (.for_ (.name 7) (.rng (.bin .add (.bin .sub (.bi .len (.cons (.var 6) .nil)) (.var 2)) (.lit (.int 1)))) (.cons (.asg (.sub (.var 3) (.sl (.var 6) (.some (.var 7)) (.some (.bin .add (.var 7) (.var 2))))) (.lit (.bl true))) .nil)) .nil))) .nil)) (.cons (.ret (.bi .sorted (.cons (.var 3) .nil))) .nil)))⟩  -- _law_words _law_done
def t_law_right_6 (c0 : Nat) (c1 : Nat) (c2 : Nat) (c3 : Nat) : Fd := ⟨2, 9, [], false, (.cons (.asg (.tup (.cons (.name 2) (.cons (.name 3) .nil))) (.tup (.cons (.idx (.var 1) (.lit (.int 0))) (.cons (.call c0 (.cons (.var 0) (.cons (.idx (.var 1) (.lit (.int 0))) (.cons (.idx (.var 1) (.lit (.int 1))) .nil))) .nil none) .nil)))) (.cons (.asg (.name 4) (.call c1 (.cons (.var 2) (.cons (.var 3) (.cons (.lit (.int 2)) .nil))) .nil none)) (.cons (.asg (.name 5) (.bi .tuple (.cons (.comp false [7] (.rng (.var 2)) (.name 7) (.cons (.not (.bi .any (.cons (.comp false [8] (.val (.var 4)) (.name 8) .nil (.fin (.cmp .inn (.var 7) (.var 8)))) .nil))) .nil) (.fin (.var 7))) .nil))) (.cons (.asg (.name 6) (.lst false (.cons (.bi .tuple (.cons (.var 4) .nil)) (.cons (.var 5) .nil)))) (.cons (.iff (.cmp .ne (.bi .repr (.cons (.lst false (.cons (.call c2 (.cons (.var 2) (.cons (.var 3) .nil)) .nil none) (.cons (.call c3 (.cons (.var 2) (.cons (.var 3) .nil)) .nil none) .nil))) .nil)) (.bi .repr (.cons (.var 6) .nil))) (.cons (.ret (.lit (.bl false))) .nil) .nil) (.cons (.iff (.cmp .ne (.bi .repr (.cons (.lst false (.cons (.call c2 .nil (.cons (.var 3) (.cons (.var 2) .nil)) (some [1, 0])) (.cons (.call c3 .nil (.cons (.var 3) (.cons (.var 2) .nil)) (some [1, 0])) .nil))) .nil)) (.bi .repr (.cons (.var 6) .nil))) (.cons (.ret (.lit (.bl false))) .nil) .nil) (.cons (.ret (.cmp .eq (.call c3 (.cons (.lit (.int 2)) (.cons (.tup (.cons (.tup (.cons (.tup (.cons (.lit (.int 0)) .nil)) (.cons (.lit (.int 1)) (.cons (.tup (.cons (.lit (.int 0)) (.cons (.lit (.int 1)) (.cons (.lit (.int 2)) .nil)))) (.cons (.tup (.cons (.lit (.int 0)) (.cons (.lit (.int 1)) (.cons (.lit (.int 2)) .nil)))) .nil))))) .nil)) .nil)) .nil none) (.tup (.cons (.lit (.int 0)) .nil)))) .nil)))))))⟩  -- _law_book _law_near beside lone
def t_law_4 (c0 : Nat) (c1 : Nat) : Fd := ⟨1, 4, [], false, (.cons (.for_ (.name 1) (.rng (.bi .max2 (.cons (.lit (.int 2)) (.cons (.bi .min2 (.cons (.bi .len (.cons (.var 0) .nil)) (.cons (.lit (.int 3)) .nil))) .nil)))) (.cons (.asg (.name 2) (.call c0 (.cons (.var 0) (.cons (.var 1) .nil)) .nil none)) (.cons (.for_ (.name 3) (.val (.lst false (.cons (.tup (.cons (.lit (.int 2)) (.cons (.lit (.int 2)) .nil))) (.cons (.tup (.cons (.lit (.int 3)) (.cons (.lit (.int 1)) .nil))) (.cons (.tup (.cons (.lit (.int 2)) (.cons (.lit (.int 1)) .nil))) (.cons (.tup (.cons (.lit (.int 2)) (.cons (.lit (.int 2)) .nil))) (.cons (.tup (.cons (.lit (.int 3)) (.cons (.lit (.int 0)) .nil))) .nil))))))) (.cons (.iff (.not (.call c1 (.cons (.var 2) (.cons (.var 3) .nil)) .nil none)) (.cons (.ret (.lit (.bl false))) .nil) .nil) .nil)) .nil))) (.cons (.ret (.lit (.bl true))) .nil))⟩  -- _law_pool _law_right
def t_surroundings_by (c0 : Nat) (c1 : Nat) : Fd := ⟨3, 7, [], false, (.cons (.asg (.name 3) (.dnew true)) (.cons (.for_ (.name 4) (.val (.call c0 (.cons (.var 0) (.cons (.var 1) (.cons (.lit (.int 3)) .nil))) .nil none)) (.cons (.for_ (.tup [5, 6]) (.enum (.var 4)) (.cons (.iff (.cmp .eq (.var 6) (.var 2)) (.cons (.asg (.sub (.var 3) (.call c1 (.cons (.var 0) (.cons (.var 4) (.cons (.var 5) .nil))) .nil none)) (.lit (.bl true))) .nil) .nil) .nil)) .nil)) (.cons (.ret (.bi .tuple (.cons (.bi .sorted (.cons (.var 3) .nil)) .nil))) .nil)))⟩  -- done_upto around
def t_law_right_7 (c0 : Nat) (c1 : Nat) (c2 : Nat) : Fd := ⟨2, 9, [], false, (.cons (.asg (.tup (.cons (.name 2) (.cons (.name 3) .nil))) (.tup (.cons (.idx (.var 1) (.lit (.int 0))) (.cons (.call c0 (.cons (.var 0) (.cons (.idx (.var 1) (.lit (.int 0))) (.cons (.idx (.var 1) (.lit (.int 1))) .nil))) .nil none) .nil)))) (.cons (.asg (.name 4) (.call c1 (.cons (.var 2) (.cons (.var 3) (.cons (.lit (.int 3)) .nil))) .nil none)) (.cons (.for_ (.name 5) (.rng (.var 2)) (.cons (.asg (.name 6) (.bi .tuple (.cons (.bi .sorted (.cons (.comp false [8] (.val (.var 4)) (.name 8) (.cons (.cmp .eq (.idx (.var 8) (.lit (.int 1))) (.var 5)) .nil) (.fin (.tup (.cons (.idx (.var 8) (.lit (.int 0))) (.cons (.idx (.var 8) (.lit (.int 2))) .nil))))) .nil)) .nil))) (.cons (.asg (.name 7) (.lst false (.cons (.call c2 (.cons (.var 2) (.cons (.var 3) (.cons (.var 5) .nil))) .nil none) (.cons (.call c2 .nil (.cons (.var 5) (.cons (.var 3) (.cons (.var 2) .nil))) (some [2, 1, 0])) .nil)))) (.cons (.iff (.cmp .ne (.bi .repr (.cons (.var 7) .nil)) (.bi .repr (.cons (.lst false (.cons (.var 6) (.cons (.var 6) .nil))) .nil))) (.cons (.ret (.lit (.bl false))) .nil) .nil) .nil)))) (.cons (.ret (.cmp .eq (.bi .len (.cons (.call c2 (.cons (.lit (.int 2)) (.cons (.tup .nil) (.cons (.lit (.int 0)) .nil))) .nil none) .nil)) (.lit (.int 9)))) .nil))))⟩  -- _law_book _law_near surroundings
def t_are_apart_by (c0 : Nat) : Fd := ⟨4, 7, [], false, (.cons (.asg (.tup (.cons (.name 4) (.cons (.name 5) .nil))) (.tup (.cons (.call c0 (.cons (.var 0) (.cons (.var 1) (.cons (.var 2) .nil))) .nil none) (.cons (.call c0 (.cons (.var 0) (.cons (.var 1) (.cons (.var 3) .nil))) .nil none) .nil)))) (.cons (.ret (.and (.cmp .ne (.var 4) (.tup .nil)) (.and (.cmp .ne (.var 5) (.tup .nil)) (.not (.bi .any (.cons (.comp false [6] (.val (.var 4)) (.name 6) .nil (.fin (.cmp .inn (.var 6) (.var 5)))) .nil)))))) .nil))⟩  -- surroundings_by
def t_are_apart (c0 : Nat) (c1 : Nat) (c2 : Nat) : Fd := ⟨4, 4, [], false, (.cons (.ex (.call c0 (.cons (.var 0) (.cons (.var 1) (.cons (.var 2) .nil))) .nil none)) (.cons (.ex (.call c1 (.cons (.var 0) (.cons (.var 3) .nil)) .nil none)) (.cons (.ret (.call c2 (.cons (.var 0) (.cons (.var 1) (.cons (.var 2) (.cons (.var 3) .nil)))) .nil none)) .nil)))⟩  -- check_surrounded check_sound are_apart_by
def t_law_right_8 (c0 : Nat) (c1 : Nat) (c2 : Nat) (c3 : Nat) (c4 : Nat) : Fd := ⟨2, 17, [], false, (.cons (.asg (.tup (.cons (.name 2) (.cons (.name 3) .nil))) (.tup (.cons (.idx (.var 1) (.lit (.int 0))) (.cons (.call c0 (.cons (.var 0) (.cons (.idx (.var 1) (.lit (.int 0))) (.cons (.idx (.var 1) (.lit (.int 1))) .nil))) .nil none) .nil)))) (.cons (.iff (.cmp .eq (.call c1 (.cons (.var 0) (.cons (.lit (.int 3)) .nil)) .nil none) (.lit (.int 0))) (.cons (.asg (.name 4) (.bi .tuple (.cons (.bi .listrange (.cons (.bin .add (.var 2) (.lit (.int 1))) .nil)) .nil))) (.cons (.asg (.name 5) (.call c2 (.cons (.var 0) (.cons (.bin .add (.var 2) (.lit (.int 1))) (.cons (.lit (.int 2)) .nil))) .nil none)) (.cons (.asg (.name 6) (.bi .tuple (.cons (.comp false [14] (.val (.var 4)) (.name 14) (.cons (.cmp .notin (.var 14) (.var 5)) .nil) (.fin (.var 14))) .nil))) (.cons (.asg (.name 3) (.bin .add (.tup (.cons (.tup (.cons (.tup (.cons (.lit (.int 0)) .nil)) (.cons (.lit (.int 1)) (.cons (.var 5) (.cons (.var 4) .nil))))) .nil)) (.ite (.and (.cmp .ne (.var 6) (.tup .nil)) (.cmp .gt (.idx (.var 1) (.lit (.int 1))) (.lit (.int 1)))) (.tup (.cons (.tup (.cons (.tup (.cons (.lit (.int 1)) .nil)) (.cons (.lit (.int 0)) (.cons (.var 6) (.cons (.var 4) .nil))))) .nil)) (.tup .nil)))) .nil)))) .nil) (.cons (.asg (.name 7) (.call c3 (.cons (.var 2) (.cons (.var 3) (.cons (.lit (.int 3)) .nil))) .nil none)) (.cons (.for_ (.name 8) (.rng (.var 2)) (.cons (.for_ (.name 9) (.rng (.var 2)) (.cons (.asg (.name 10) (.comp false [15] (.val (.var 7)) (.name 15) (.cons (.cmp .eq (.idx (.var 15) (.lit (.int 1))) (.var 8)) .nil) (.fin (.tup (.cons (.idx (.var 15) (.lit (.int 0))) (.cons (.idx (.var 15) (.lit (.int 2))) .nil)))))) (.cons (.asg (.name 11) (.comp false [15] (.val (.var 7)) (.name 15) (.cons (.cmp .eq (.idx (.var 15) (.lit (.int 1))) (.var 9)) .nil) (.fin (.tup (.cons (.idx (.var 15) (.lit (.int 0))) (.cons (.idx (.var 15) (.lit (.int 2))) .nil)))))) (.cons (.asg (.name 12) (.and (.cmp .ne (.var 10) (.lst false .nil)) (.and (.cmp .ne (.var 11) (.lst false .nil)) (.not (.bi .any (.cons (.comp false [16] (.val (.var 10)) (.name 16) .nil (.fin (.cmp .inn (.var 16) (.var 11)))) .nil)))))) (.cons (.asg (.name 13) (.lst true (.cons (.call c4 (.cons (.var 2) (.cons (.var 3) (.cons (.var 8) (.cons (.var 9) .nil)))) .nil none) .nil))) (.cons (.ex (.app (.var 13) (.call c4 .nil (.cons (.var 9) (.cons (.var 8) (.cons (.var 3) (.cons (.var 2) .nil)))) (some [3, 2, 1, 0])))) (.cons (.iff (.cmp .ne (.bi .repr (.cons (.var 13) .nil)) (.bi .repr (.cons (.lst false (.cons (.var 12) (.cons (.var 12) .nil))) .nil))) (.cons (.ret (.lit (.bl false))) .nil) .nil) .nil))))))) .nil)) (.cons (.ret (.cmp .is (.call c4 (.cons (.lit (.int 2)) (.cons (.tup .nil) (.cons (.lit (.int 0)) (.cons (.lit (.int 1)) .nil)))) .nil none) (.lit (.bl false)))) .nil)))))⟩  -- _law_book _law_take _law_lot _law_near are_apart
def t_law_5 (c0 : Nat) (c1 : Nat) : Fd := ⟨1, 4, [], false, (.cons (.for_ (.name 1) (.rng (.bi .max2 (.cons (.lit (.int 2)) (.cons (.bi .min2 (.cons (.bi .len (.cons (.var 0) .nil)) (.cons (.lit (.int 3)) .nil))) .nil)))) (.cons (.asg (.name 2) (.call c0 (.cons (.var 0) (.cons (.var 1) .nil)) .nil none)) (.cons (.for_ (.name 3) (.val (.lst false (.cons (.tup (.cons (.lit (.int 2)) (.cons (.lit (.int 2)) .nil))) (.cons (.tup (.cons (.lit (.int 2)) (.cons (.lit (.int 1)) .nil))) (.cons (.tup (.cons (.lit (.int 3)) (.cons (.lit (.int 1)) .nil))) (.cons (.tup (.cons (.lit (.int 2)) (.cons (.lit (.int 2)) .nil))) (.cons (.tup (.cons (.lit (.int 2)) (.cons (.lit (.int 1)) .nil))) (.cons (.tup (.cons (.lit (.int 3)) (.cons (.lit (.int 0)) .nil))) .nil)))))))) (.cons (.iff (.not (.call c1 (.cons (.var 2) (.cons (.var 3) .nil)) .nil none)) (.cons (.ret (.lit (.bl false))) .nil) .nil) .nil)) .nil))) (.cons (.ret (.lit (.bl true))) .nil))⟩  -- _law_pool _law_right
end Y
end
section
set_option maxRecDepth 100000
set_option Elab.async false
set_option linter.all false
namespace Y
open PySem
local macro_rules | `(tactic| tm_at "run") => `(tactic| refine Res.eq_of_wp (run_wp rfl ?_))
/-! ### F2: a drawn law; the program's own defs with checks -/
theorem Dr.push {r : Nat} {st st' : Sto} {x : Cell} (hp : PoolAt r st) (h : Dr r (st ++ [x]) st') : ∃ st1, Dr r st st1 ∧ st' = st1 ++ [x] := by
  obtain ⟨_, a, b, c, rfl⟩ := h
  exact ⟨st.set r (Y.pool a b c), ⟨hp, a, b, c, rfl⟩, by rw [List.set_append_left _ _ hp.lt]⟩
theorem ok_law_change2 {C : Cs} {c0 : Nat} (h0 : Q_take (C.fn c0)) : Q_one (runFd C (t_law_change_2 c0)) := by
  intro r s st hp hs hs2
  refine run_wp rfl ?_
  obtain ⟨n, rfl⟩ : ∃ n : Nat, s = n := ⟨s.toNat, by omega⟩
  have hi : i62 (n : Int) = true := i62_of (by omega) (by omega)
  have hi1 : i62 ((n : Int) + 1) = true := i62_of (by omega) (by omega)
  have hi2 : i62 2 = true := by decide
  have en1 : ((n : Int) + 1).toNat = n + 1 := by omega
  simp [t_law_change_2]
  refine Res.wp_mono (h0 r n st hp (by omega) (by omega)) ?_
  rintro _ st1 ⟨⟨t, rfl, ht⟩, hd1⟩
  have hn1 : st1.length = st.length := hd1.len
  simp [hi]
  refine wp_filter (fun j : Nat => !decide (j = t)) (fun j => D.int (j : Int)) (fun j _ => ?_) ?_
  · by_cases h : j = t
    · subst h; simp
    · have h' : ¬ (j : Int) = (t : Int) := by omega
      simp [h, h']
  obtain ⟨oth, hoth⟩ : ∃ l, l = (List.range n).filter fun j => !decide (j = t) := ⟨_, rfl⟩
  have hol : oth.length ≤ n := by rw [hoth]; exact Nat.le_trans (List.length_filter_le _ _) (by simp)
  have hos : oth.Sublist (List.range n) := by rw [hoth]; exact List.filter_sublist
  have hot : t ∉ oth := by rw [hoth]; simp
  have hop : 0 < oth.length := by
    have hz : (if t = 0 then 1 else 0) ∈ oth := by
      rw [hoth, List.mem_filter, List.mem_range]
      by_cases h : t = 0 <;> simp [h] <;> omega
    exact List.length_pos_of_mem hz
  rw [← hoth]
  rw [mkLs_f (line_of (by simp only [List.length_map]; omega))]
  have eo : D.lst (oth.map fun (j : Nat) => D.int (j : Int)) = LI (oth.map Nat.cast) := by unfold LI; rw [List.map_map]; rfl
  rw [eo]
  simp
  have hp1 : PoolAt r (st1 ++ [.lst []]) := hd1.pool.app _
  refine Res.wp_mono (h0 r oth.length (st1 ++ [.lst []]) hp1 (by omega) (by omega)) ?_
  rintro _ st2 ⟨⟨k, rfl, hk⟩, hd2⟩
  obtain ⟨st2, hd2', rfl⟩ := Dr.push hd1.pool hd2
  have hd2n := hd1.trans hd2'
  have hk' : k < oth.length := by omega
  have hgi : idxD (LI (oth.map Nat.cast)) (.int (k : Int)) = some (.int ((oth[k] : Nat) : Int)) := by
    rw [idx_LIn (by simpa using hk')]; simp [gi, hk']
  simp
  refine loopM_ind (fun i acc st' => ∃ sx w, st' = sx ++ [.lst []] ∧ Dr r st sx ∧ acc = w.map (fun (j : Nat) => D.int (j : Int)) ∧ w.Sublist (oth.take i) ∧ (k < i → oth[k] ∈ w)) ⟨st2, [], rfl, hd2n, rfl, by simp, by omega⟩ ?_ ?_
  · rintro i y acc st' hy ⟨sx, w, rfl, hd, rfl, hw, hin⟩
    have et : oth.take (i + 1) = oth.take i ++ [y] := by rw [List.take_add_one, hy]; rfl
    have hyk : i = k → y = oth[k] := by
      rintro rfl
      rw [List.getElem?_eq_getElem hk'] at hy
      simpa using hy.symm
    rw [et]
    simp [hgi]
    by_cases h : y = oth[k]
    · have h' : (y : Int) = ((oth[k] : Nat) : Int) := by omega
      simp [h']
      exact ⟨hd, w ++ [y], by simp [h], List.Sublist.append hw (List.Sublist.refl _), fun _ => by simp [h]⟩
    · have h' : ¬ (y : Int) = ((oth[k] : Nat) : Int) := by omega
      simp [h, h', tru_wp]
      refine Res.wp_mono (h0 r 3 (sx ++ [.lst []]) (hd.pool.app _) (by omega) (by omega)) ?_
      rintro _ st'' ⟨⟨v, rfl, hv⟩, hd3⟩
      obtain ⟨sy, hd3n, rfl⟩ := Dr.push hd.pool hd3
      have hin' : k < i + 1 → oth[k] ∈ w := fun hlt => by
        rcases (by omega : k < i ∨ i = k) with h1 | h1
        · exact hin h1
        · exact absurd (hyk h1) h
      by_cases hz : v = 0
      · simp [hz]
        exact ⟨hd.trans hd3n, w ++ [y], by simp, List.Sublist.append hw (List.Sublist.refl _), fun hlt => List.mem_append_left _ (hin' hlt)⟩
      · simp [hz]
        exact ⟨hd.trans hd3n, w, rfl, hw.trans (List.sublist_append_left _ _), hin'⟩
  rintro acc st' ⟨sx, w, rfl, hd3, rfl, hw, hin⟩
  have hw : w.Sublist oth := by
    rw [List.take_of_length_le (by simp)] at hw
    exact hw
  have hin := hin (by simpa using hk')
  have hwn : w ≠ [] := fun e => by rw [e] at hin; simp at hin
  have hfr := okLot_sub (hw.trans hos) hwn
  have hto : (t : Int) ∉ w.map (Nat.cast : Nat → Int) := by
    simp only [List.mem_map, not_exists, not_and]
    intro x hx e
    have : x = t := by omega
    exact hot (this ▸ hw.subset hx)
  have hwl : w.length ≤ n := Nat.le_trans hw.length_le hol
  rw [mkLs_f (line_of (by simp only [List.length_map]; omega))]
  have ew : D.lst (w.map fun (j : Nat) => D.int (j : Int)) = LI (w.map Nat.cast) := by unfold LI; rw [List.map_map]; rfl
  rw [ew]
  simp [hi2]
  refine forM_ind (fun j ρ st' => ∃ sx ls o7 o8 o9, st' = sx ++ [.lst (ls.map W)] ∧ Dr r st sx ∧ ls.length = j ∧ (∀ l ∈ ls, okLot n l = true) ∧ ρ = ⟨[some (.ref r), some (.int (n : Int)), some (.int (t : Int)), some (.ref st1.length), some (LI (oth.map Nat.cast)), some (.int (k : Int)), some (LI (w.map Nat.cast)), o7, o8, o9], [], st.length⟩) ⟨sx, [], none, none, none, rfl, hd3, rfl, by simp, rfl⟩ ?_ ?_
  · rintro j x ρ st' hx ⟨sx, ls, o7, o8, o9, rfl, hd, hlj, hls, rfl⟩
    obtain ⟨hj, rfl⟩ := range_get hx
    have e1 : ((n : Int) + 1) = ((n + 1 : Nat) : Int) := by omega
    have hq := h0 r ((n : Int) + 1) (sx ++ [.lst (ls.map W)]) (hd.pool.app _) (by omega) (by omega)
    simp
    refine Res.wp_mono hq ?_
    rintro _ st' ⟨⟨o, rfl, ho⟩, hd4⟩
    obtain ⟨sy, hd4', rfl⟩ := Dr.push hd.pool hd4
    have hd4n := hd.trans hd4'
    have hil : isL (sy ++ [.lst (ls.map W)]) (.ref st1.length) = true := isL_ref (xs := ls.map W) (by rw [hn1, ← hd4n.len]; exact get_top _ _)
    simp [hi1, en1, hil]
    refine loopM_ind (fun i acc st' => ∃ sz v, st' = sz ++ [.lst (ls.map W)] ∧ Dr r st sz ∧ acc = v.map (fun (j : Nat) => D.int (j : Int)) ∧ v.Sublist (List.range i) ∧ (o < i → o ∈ v)) ⟨sy, [], rfl, hd4n, rfl, by simp, by omega⟩ ?_ ?_
    · rintro i y acc st' hy ⟨sz, v, rfl, hd5, rfl, hv, hin5⟩
      obtain ⟨hy, rfl⟩ := range_get hy
      simp
      by_cases h : y = o
      · subst h
        simp
        exact ⟨hd5, v ++ [y], by simp, sub_snoc hv, by simp⟩
      · have h' : ¬ (y : Int) = (o : Int) := by omega
        simp [h, h', tru_wp]
        refine Res.wp_mono (h0 r 3 (sz ++ [.lst (ls.map W)]) (hd5.pool.app _) (by omega) (by omega)) ?_
        rintro _ st'' ⟨⟨u, rfl, hu⟩, hd6⟩
        obtain ⟨sv, hd6n, rfl⟩ := Dr.push hd5.pool hd6
        have hin' : o < y + 1 → o ∈ v := fun hlt => hin5 (by omega)
        by_cases hz : 0 < u
        · simp [hz]
          exact ⟨hd5.trans hd6n, v ++ [y], by simp, sub_snoc hv, fun hlt => List.mem_append_left _ (hin' hlt)⟩
        · simp [hz]
          exact ⟨hd5.trans hd6n, v, rfl, sub_keep hv, hin'⟩
    · rintro acc st' ⟨sz, v, rfl, hd5, rfl, hv, hin5⟩
      rw [List.length_range] at hv hin5
      have hov := hin5 (by omega)
      have hvn : v ≠ [] := fun e => by rw [e] at hov; simp at hov
      have hlot := okLot_sub hv hvn
      rw [show ((n + 1 : Nat) : Int) - 1 = (n : Int) by omega] at hlot
      have hvl := hv.length_le
      rw [List.length_range] at hvl
      rw [mkLs_f (line_of (by simp only [List.length_map]; omega))]
      have ev : D.lst (v.map fun (j : Nat) => D.int (j : Int)) = LI (v.map Nat.cast) := by unfold LI; rw [List.map_map]; rfl
      rw [ev]
      have hns : st1.length = sz.length := by rw [hn1, hd5.len]
      have happ := app_ref (base := st.length) (y := W (v.map Nat.cast)) (get_top sz (.lst (ls.map W))) (by rw [hd5.len]; exact Nat.le_refl _) (by rw [List.length_map, hlj]; exact line_of (by omega))
      rw [← hns] at happ
      rw [hns, set_top, ← hns] at happ
      have e2 : ls.map W ++ [W (v.map Nat.cast)] = (ls ++ [v.map Nat.cast]).map W := by simp
      rw [e2] at happ
      simp [happ]
      exact ⟨sz, ls ++ [v.map Nat.cast], by simp, hd5, by simp [hlj], fun l hl => by
        rcases List.mem_append.mp hl with hl | hl
        · exact hls l hl
        · simp at hl; rw [hl]; exact hlot⟩
  · rintro ρ st' ⟨sx, ls, o7, o8, o9, rfl, hd, hlj, hls, rfl⟩
    simp at hlj
    obtain ⟨a, b, rfl⟩ : ∃ a b, ls = [a, b] := by
      match ls, hlj with
      | [a, b], _ => exact ⟨a, b, rfl⟩
    have hdr : deref (sx ++ [.lst [W a, W b]]) (.ref st1.length) = .lst [W a, W b] := deref_ref (by rw [hn1, ← hd.len]; exact get_top _ _)
    have i0 : idxD (.lst [W a, W b]) (.int 0) = some (W a) := rfl
    have i1 : idxD (.lst [W a, W b]) (.int 1) = some (W b) := rfl
    simp [hdr, i0, i1, finQ_eq]
    refine ⟨⟨⟨w.map Nat.cast, t, a, b⟩, rfl, ?_⟩, ?_⟩
    · have ha := hls a (by simp)
      have hb := hls b (by simp)
      have h2 : (decide (0 ≤ (t : Int)) && decide ((t : Int) ≤ (n : Int) - 1)) = true := by simp; omega
      have h3 : decide ((t : Int) ∈ w.map (Nat.cast : Nat → Int)) = false := by simpa using hto
      simp only [okLaw, hfr, h2, h3, ha, hb]; rfl
    · rw [← hd.len, List.take_left']
      · exact hd
      · rfl
/-! ### the program's defs -/
def Q_check_two_books (F : Fun) : Prop := ∀ (s : Int) (b d : List Lw) (st : Sto), 2 ≤ s → s ≤ 3 → okBook s b = true → okBook s d = true → F [.int s, B b, B d] st = .ok .non st
theorem ok_check_two_books {C : Cs} {c0 c1 : Nat} (h0 : Q_check_booked (C.fn c0)) (h1 : Q_check_book (C.fn c1)) : Q_check_two_books (runFd C (t_check_sourced c0 c1)) := by
  intro s b d st hs hs2 hb hd
  tm_at "run"
  simp [t_check_sourced, h0 s (B b) _ hs hs2 (ok_B hs2 hb) (by simpa using hb), h1 s (B d) _ (ok_B hs2 hd) (by simpa using hd), finQ_eq]
theorem okBook_all {s : Int} {b : List Lw} (h : okBook s b = true) : b.all (okLaw s) = true ∧ b.length ≤ 3 := by
  simp only [okBook, Bool.and_eq_true, decide_eq_true_eq] at h
  exact ⟨h.2, h.1⟩
def Q_are_alike (F : Fun) : Prop := ∀ (s : Int) (b d : List Lw) (st : Sto), 2 ≤ s → s ≤ 3 → okBook s b = true → okBook s d = true → F [.int s, B b, B d] st = .ok (.bl (decide (parts s b d (far b d) = none))) st
theorem ok_are_alike {C : Cs} {c0 c1 : Nat} (h0 : Q_check_two_books (C.fn c0)) (h1 : Q_parting_by (C.fn c1)) : Q_are_alike (runFd C (t_are_alike c0 c1)) := by
  intro s b d st hs hs2 hb hd
  tm_at "run"
  obtain ⟨b1, b2⟩ := okBook_all hb
  obtain ⟨d1, d2⟩ := okBook_all hd
  simp [t_are_alike, h0 s b d _ hs hs2 hb hd, h1 s b d _ hs hs2 b1 d1 (by omega) (by omega)]
  cases parts s b d (far b d) <;> simp [optW, finQ_eq]
def Q_parting (F : Fun) : Prop := ∀ (s : Int) (b d : List Lw) (st : Sto), 2 ≤ s → s ≤ 3 → okBook s b = true → okBook s d = true → F [.int s, B b, B d] st = .ok (optW (parts s b d (far b d))) st
theorem ok_parting {C : Cs} {c0 c1 : Nat} (h0 : Q_check_two_books (C.fn c0)) (h1 : Q_parting_by (C.fn c1)) : Q_parting (runFd C (t_sources c0 c1)) := by
  intro s b d st hs hs2 hb hd
  tm_at "run"
  obtain ⟨b1, b2⟩ := okBook_all hb
  obtain ⟨d1, d2⟩ := okBook_all hd
  simp [t_sources, h0 s b d _ hs hs2 hb hd, h1 s b d _ hs hs2 b1 d1 (by omega) (by omega), finQ_eq]
def Q_idle (F : Fun) : Prop := ∀ (s : Int) (b : List Lw) (st : Sto), 2 ≤ s → s ≤ 3 → okBook s b = true → F [.int s, B b] st = .ok (W ((idleL s b).map Nat.cast)) st
theorem ok_idle {C : Cs} {c0 c1 : Nat} (h0 : Q_check_booked (C.fn c0)) (h1 : Q_idle_by (C.fn c1)) : Q_idle (runFd C (t_beside c0 c1)) := by
  intro s b st hs hs2 hb
  tm_at "run"
  obtain ⟨b1, b2⟩ := okBook_all hb
  simp [t_beside, h0 s (B b) _ hs hs2 (ok_B hs2 hb) (by simpa using hb), h1 s b _ hs hs2 b1 (by omega), finQ_eq]
def Q_still (F : Fun) : Prop := ∀ (s : Int) (b : List Lw) (st : Sto), 2 ≤ s → s ≤ 3 → okBook s b = true → F [.int s, B b] st = .ok (W ((stillL s b).map Nat.cast)) st
theorem ok_still {C : Cs} {c0 c1 : Nat} (h0 : Q_check_booked (C.fn c0)) (h1 : Q_still_by (C.fn c1)) : Q_still (runFd C (t_beside c0 c1)) := by
  intro s b st hs hs2 hb
  tm_at "run"
  obtain ⟨b1, b2⟩ := okBook_all hb
  simp [t_beside, h0 s (B b) _ hs hs2 (ok_B hs2 hb) (by simpa using hb), h1 s b _ hs hs2 b1 b2, finQ_eq]
end Y
end
section
set_option maxRecDepth 100000
set_option Elab.async false
set_option linter.all false
namespace Y
open PySem
/-! ### the maths of books alike -/
theorem gi_ext {a b : List Int} (hl : a.length = b.length) (h : ∀ p, p < a.length → gi a p = gi b p) : a = b := by
  refine List.ext_getElem hl fun p h1 h2 => ?_
  have := h p h1
  simpa [gi, h1, h2] using this
theorem upto_in {s : Int} {n : Nat} {w : List Int} (h1 : 1 ≤ w.length) (h2 : w.length ≤ n) (h : ∀ i ∈ w, 0 ≤ i ∧ i ≤ s - 1) : w ∈ upto s n := by
  simp only [upto, List.mem_flatMap, List.mem_range]
  exact ⟨w.length - 1, by omega, by rw [show w.length - 1 + 1 = w.length by omega]; exact mem_wds _ w rfl h⟩
theorem parts_none {s : Int} {b d : List Lw} {m : Nat} : parts s b d m = none ↔ ∀ w ∈ upto s m, doneB s b w = doneB s d w := by
  unfold parts
  rw [List.find?_eq_none]
  simp
/-- books that do the same to short words do the same to all -/
theorem alike_all {s : Int} {b d : List Lw} {m : Nat} (hb : 2 * b.length + 1 ≤ m) (hd : 2 * d.length + 1 ≤ m) (h : ∀ w ∈ upto s m, doneB s b w = doneB s d w) (w : List Int) (hw : ∀ i ∈ w, 0 ≤ i ∧ i ≤ s - 1) : doneB s b w = doneB s d w := by
  refine gi_ext (by simp) fun p hp => ?_
  simp only [doneB_len] at hp
  have hn : ∃ n, b.length ≤ n ∧ d.length ≤ n ∧ 2 * n + 1 ≤ m := ⟨max b.length d.length, by omega, by omega, by omega⟩
  obtain ⟨n, n1, n2, n3⟩ := hn
  obtain ⟨l1, l2⟩ := cut_len (w := w) (p := p) (q := p) (n := n) (Nat.le_refl _) hp
  have hv := h (cutW w p p n) (upto_in l1 (by omega) fun i hi => hw i (cut_mem hi))
  have e1 := (cut_done (s := s) (b := b) n1 (Nat.le_refl p) hp p (Nat.le_refl _) (Nat.le_refl _)).1
  have e2 := (cut_done (s := s) (b := d) n2 (Nat.le_refl p) hp p (Nat.le_refl _) (Nat.le_refl _)).1
  rw [← e1, ← e2, hv]
/-- a law that never acts in short words never acts -/
theorem still_all {s : Int} {b : List Lw} {i : Nat} (h : everA s b i = false) (w : List Int) (hi : i ≤ b.length) (hw : ∀ i ∈ w, 0 ≤ i ∧ i ≤ s - 1) : actsOf s (gl b i) (doneB s (b.take i) w) = [] := by
  unfold actsOf
  rw [List.filter_eq_nil_iff]
  intro p hp
  rw [List.mem_range, doneB_len] at hp
  intro hact
  obtain ⟨p0, hp0⟩ : ∃ p0, p0 = p - 1 := ⟨_, rfl⟩
  obtain ⟨q0, hq0⟩ : ∃ q0, q0 = min (p + 1) (w.length - 1) := ⟨_, rfl⟩
  have hbl : (b.take i).length ≤ i := by simp; omega
  have hpq : p0 ≤ q0 := by omega
  have hq : q0 < w.length := by omega
  obtain ⟨l1, l2⟩ := cut_len (w := w) (p := p0) (q := q0) (n := i) hpq hq
  have hC := cut_done (s := s) (b := b.take i) (w := w) (n := i) hbl hpq hq
  have hl : (cutW w p0 q0 i).length = min (q0 + 1 + i - (p0 - i)) (w.length - (p0 - i)) := by simp [cutW]
  obtain ⟨v, hv⟩ : ∃ v, v = cutW w p0 q0 i := ⟨_, rfl⟩
  rw [← hv] at l1 l2 hC hl
  have hin : v ∈ upto s (2 * i + 3) := upto_in l1 (by omega) fun j hj => hw j (cut_mem (by rw [← hv]; exact hj))
  have hno : actsOf s (gl b i) (doneB s (b.take i) v) = [] := by
    unfold everA at h
    rw [List.any_eq_false] at h
    have := h v hin
    simpa using this
  obtain ⟨k, hk⟩ : ∃ k, k = p - (p0 - i) := ⟨_, rfl⟩
  obtain ⟨g1, g2⟩ := hC p (by omega) (by omega)
  rw [← hk] at g1 g2
  have ea : aheadOf s (doneB s (b.take i) v) k = aheadOf s (doneB s (b.take i) w) p := by
    unfold aheadOf
    by_cases hz : p = 0
    · have : k = 0 := by omega
      simp [hz, this]
    · have hk0 : ¬ k = 0 := by omega
      rw [if_neg hz, if_neg hk0]
      have := (hC (p - 1) (by omega) (by omega)).1
      rw [← this]; congr 1; omega
  have eb : behindOf s (doneB s (b.take i) v) k = behindOf s (doneB s (b.take i) w) p := by
    unfold behindOf
    simp only [doneB_len]
    by_cases hz : p + 1 < w.length
    · obtain ⟨f1, f2⟩ := hC (p + 1) (by omega) (by omega)
      have : k + 1 < v.length := by omega
      rw [if_pos hz, if_pos this, ← f1]; congr 1; omega
    · have : ¬ k + 1 < v.length := by omega
      rw [if_neg hz, if_neg this]
  have : k ∈ actsOf s (gl b i) (doneB s (b.take i) v) := by
    unfold actsOf
    rw [List.mem_filter, List.mem_range, doneB_len]
    refine ⟨g2, ?_⟩
    unfold actsAt at hact ⊢
    rw [g1, ea, eb]; exact hact
  rw [hno] at this
  simp at this
theorem work_none {s : Int} {c : Lw} {w : List Int} (h : actsOf s c w = []) : work s c w = w := by
  refine gi_ext (by simp) fun p hp => ?_
  rw [work_len] at hp
  rw [gi_work hp]
  have : ¬ actsAt s c w p = true := fun ha => by
    have : p ∈ actsOf s c w := by unfold actsOf; rw [List.mem_filter, List.mem_range]; exact ⟨hp, ha⟩
    rw [h] at this; simp at this
  rw [if_neg this]
theorem gl_drop {b : List Lw} {i : Nat} (h : i < b.length) : b = b.take i ++ gl b i :: b.drop (i + 1) := by
  have : b.drop i = gl b i :: b.drop (i + 1) := by
    rw [List.drop_eq_getElem_cons h]; simp [gl, h]
  rw [← this, List.take_append_drop]
theorem still_done {s : Int} {b : List Lw} {i : Nat} (h : everA s b i = false) (hi : i < b.length) (w : List Int) (hw : ∀ i ∈ w, 0 ≤ i ∧ i ≤ s - 1) : doneB s (wo b i) w = doneB s b w := by
  have e := gl_drop hi
  have hs := still_all h w (by omega) hw
  conv => rhs; rw [e]
  unfold wo
  rw [doneB_append, doneB_append]
  show _ = doneB s (b.drop (i + 1)) (work s (gl b i) (doneB s (b.take i) w))
  rw [work_none hs]
theorem still_idle {s : Int} {b : List Lw} {i : Nat} (h : i ∈ stillL s b) : i ∈ idleL s b := by
  unfold stillL at h
  unfold idleL
  rw [List.mem_filter, List.mem_range] at h ⊢
  refine ⟨h.1, ?_⟩
  rw [decide_eq_true_eq, parts_none]
  intro w hw
  exact still_done (by simpa using h.2) h.1 w (upto_mem hw).2.2
/-! ### the order of words -/
theorem lex_irr : ∀ w : List Int, HT.lexLt w w = false
  | [] => rfl
  | x :: w => by simp [HT.lexLt, lex_irr w]
theorem lex_asym : ∀ {v w : List Int}, HT.lexLt v w = true → HT.lexLt w v = false
  | [], [], h => by simp [HT.lexLt] at h
  | [], _ :: _, _ => rfl
  | _ :: _, [], h => by simp [HT.lexLt] at h
  | x :: v, y :: w, h => by
    simp only [HT.lexLt] at h ⊢
    by_cases e : x = y
    · subst e; simp at h ⊢; exact lex_asym h
    · have e' : ¬ y = x := fun z => e z.symm
      simp [e] at h
      simp [e']; omega
theorem lex_app : ∀ {v w x y : List Int}, v.length = w.length → HT.lexLt v w = true → HT.lexLt (v ++ x) (w ++ y) = true
  | [], [], _, _, _, h => by simp [HT.lexLt] at h
  | a :: v, b :: w, x, y, hl, h => by
    simp only [List.cons_append, HT.lexLt] at h ⊢
    by_cases e : a = b
    · subst e; simp at h ⊢; exact lex_app (by simpa using hl) h
    · simpa [e] using h
  | [], _ :: _, _, _, hl, _ => by simp at hl
  | _ :: _, [], _, _, hl, _ => by simp at hl
theorem lex_snoc : ∀ (v : List Int) {a b : Int}, a < b → HT.lexLt (v ++ [a]) (v ++ [b]) = true
  | [], a, b, h => by
    have : ¬ a = b := by omega
    simp [HT.lexLt, this, h]
  | x :: v, a, b, h => by simp [HT.lexLt, lex_snoc v h]
theorem wds_lex (s : Int) : ∀ n, (wds s n).Pairwise fun v w => HT.lexLt v w = true
  | 0 => by simp [wds]
  | n + 1 => by
    unfold wds
    rw [List.pairwise_flatMap]
    refine ⟨fun w _ => ?_, ?_⟩
    · rw [List.pairwise_map]
      refine List.Pairwise.imp ?_ (List.pairwise_lt_range (n := s.toNat))
      intro a b h
      exact lex_snoc w (by omega)
    · refine List.Pairwise.imp_of_mem ?_ (wds_lex s n)
      intro a b ha hb h x hx y hy
      obtain ⟨k, _, rfl⟩ := List.mem_map.mp hx
      obtain ⟨j, _, rfl⟩ := List.mem_map.mp hy
      exact lex_app (by rw [mem_wds_len ha, mem_wds_len hb]) h
def before (v w : List Int) : Prop := v.length < w.length ∨ (v.length = w.length ∧ HT.lexLt v w = true)
theorem upto_order (s : Int) : ∀ n, (upto s n).Pairwise before
  | 0 => by simp [upto]
  | n + 1 => by
    rw [upto_succ, List.pairwise_append]
    refine ⟨upto_order s n, ?_, fun v hv w hw => ?_⟩
    · refine List.Pairwise.imp_of_mem ?_ (wds_lex s (n + 1))
      intro a b ha hb h
      exact .inr ⟨by rw [mem_wds_len ha, mem_wds_len hb], h⟩
    · have h1 := (upto_mem hv).2.1
      have h2 := mem_wds_len hw
      exact .inl (by omega)
theorem parts_first {s : Int} {b d : List Lw} {m : Nat} {w : List Int} (h : parts s b d m = some w) : w ∈ upto s m ∧ doneB s b w ≠ doneB s d w ∧ ∀ v ∈ upto s m, before v w → doneB s b v = doneB s d v := by
  unfold parts at h
  obtain ⟨hp, as, bs, e, hall⟩ := List.find?_eq_some_iff_append.mp h
  refine ⟨by rw [e]; simp, by simpa using hp, fun v hv hbv => ?_⟩
  have ho := upto_order s m
  rw [e] at hv ho
  rw [List.pairwise_append] at ho
  rcases List.mem_append.mp hv with hv | hv
  · have := hall v hv
    simpa using this
  · rcases List.mem_cons.mp hv with rfl | hv
    · rcases hbv with h | ⟨_, h⟩
      · omega
      · rw [lex_irr] at h; cases h
    · have := (List.pairwise_cons.mp ho.2.1).1 v hv
      rcases this with h1 | ⟨h1, h1'⟩ <;> rcases hbv with h2 | ⟨h2, h2'⟩
      · omega
      · omega
      · omega
      · rw [lex_asym h1'] at h2'; cases h2'
end Y
end
section
set_option maxRecDepth 100000
set_option Elab.async false
set_option linter.all false
namespace Y
open PySem
def t_law_parting (c0 : Nat) (c1 : Nat) : Fd := ⟨3, 4, [], false, (.cons (.for_ (.name 3) (.val (.call c0 (.cons (.var 0) (.cons (.bin .add (.bin .mul (.lit (.int 2)) (.bi .max2 (.cons (.bi .len (.cons (.var 1) .nil)) (.cons (.bi .len (.cons (.var 2) .nil)) .nil)))) (.lit (.int 1))) .nil)) .nil none)) (.cons (.iff (.cmp .ne (.call c1 (.cons (.var 0) (.cons (.var 1) (.cons (.var 3) .nil))) .nil none) (.call c1 (.cons (.var 0) (.cons (.var 2) (.cons (.var 3) .nil))) .nil none)) (.cons (.ret (.var 3)) .nil) .nil) .nil)) (.cons (.ret (.lit .non)) .nil))⟩  -- _law_short _law_done
def t_law_idle (c0 : Nat) : Fd := ⟨2, 4, [], false, (.cons (.asg (.name 2) (.bi .listrange (.cons (.bi .len (.cons (.var 1) .nil)) .nil))) (.cons (.ret (.bi .tuple (.cons (.comp false [3] (.val (.var 2)) (.name 3) (.cons (.cmp .is (.call c0 (.cons (.var 0) (.cons (.var 1) (.cons (.bin .add (.sl (.var 1) .none (.some (.var 3))) (.sl (.var 1) (.some (.bin .add (.var 3) (.lit (.int 1)))) .none)) .nil))) .nil none) (.lit .non)) .nil) (.fin (.var 3))) .nil))) .nil))⟩  -- _law_parting
def t_law_still_s0 (c0 : Nat) (c1 : Nat) (c2 : Nat) : S := (.asg (.name 2) (.tup .nil))
def t_law_still_s1 (c0 : Nat) (c1 : Nat) (c2 : Nat) : S := (.for_ (.tup [3, 4]) (.enum (.var 1)) (.cons (.asg (.name 5) (.comp false [6] (.val (.call c0 (.cons (.var 0) (.cons (.bin .add (.bin .mul (.lit (.int 2)) (.var 3)) (.lit (.int 3))) .nil)) .nil none)) (.name 6) .nil (.fin (.call c1 (.cons (.var 0) (.cons (.sl (.var 1) .none (.some (.var 3))) (.cons (.var 6) .nil))) .nil none)))) (.cons (.asg (.name 2) (.bin .add (.var 2) (.ite (.cmp .eq (.comp false [6] (.val (.var 5)) (.name 6) (.cons (.cmp .ne (.call c2 (.cons (.var 0) (.cons (.var 4) (.cons (.var 6) .nil))) .nil none) (.tup .nil)) .nil) (.fin (.var 6))) (.lst false .nil)) (.tup (.cons (.var 3) .nil)) (.tup .nil)))) .nil)))
def t_law_still_s2 (c0 : Nat) (c1 : Nat) (c2 : Nat) : S := (.ret (.var 2))
def t_law_still (c0 : Nat) (c1 : Nat) (c2 : Nat) : Fd := ⟨2, 7, [], false, (.cons (t_law_still_s0 c0 c1 c2) (.cons (t_law_still_s1 c0 c1 c2) (.cons (t_law_still_s2 c0 c1 c2) .nil)))⟩  -- _law_short _law_done _law_acts
def t_law_right_10_s0 (c0 : Nat) (c1 : Nat) (c2 : Nat) (c3 : Nat) (c4 : Nat) (c5 : Nat) (c6 : Nat) (c7 : Nat) (c8 : Nat) : S := (.asg (.name 3) (.call c0 (.cons (.var 0) (.cons (.var 1) (.cons (.var 2) .nil))) .nil none))
def t_law_right_10_s1 (c0 : Nat) (c1 : Nat) (c2 : Nat) (c3 : Nat) (c4 : Nat) (c5 : Nat) (c6 : Nat) (c7 : Nat) (c8 : Nat) : S := (.iff (.and (.cmp .ne (.var 3) (.tup .nil)) (.and (.cmp .lt (.bi .len (.cons (.var 3) .nil)) (.var 2)) (.cmp .eq (.call c1 (.cons (.var 0) (.cons (.lit (.int 2)) .nil)) .nil none) (.lit (.int 0))))) (.cons (.asg (.name 3) (.bin .add (.var 3) (.sl (.var 3) (.some (.neg (.lit (.int 1)))) .none))) .nil) .nil)
def t_law_right_10_s2 (c0 : Nat) (c1 : Nat) (c2 : Nat) (c3 : Nat) (c4 : Nat) (c5 : Nat) (c6 : Nat) (c7 : Nat) (c8 : Nat) : S := (.asg (.tup (.cons (.name 4) (.cons (.name 5) .nil))) (.tup (.cons (.call c2 (.cons (.var 1) (.cons (.var 3) .nil)) .nil none) (.cons (.call c3 (.cons (.var 1) (.cons (.var 3) .nil)) .nil none) .nil))))
def t_law_right_10_s3 (c0 : Nat) (c1 : Nat) (c2 : Nat) (c3 : Nat) (c4 : Nat) (c5 : Nat) (c6 : Nat) (c7 : Nat) (c8 : Nat) : S := (.iff (.cmp .ne (.bi .repr (.cons (.lst false (.cons (.call c4 (.cons (.var 1) (.cons (.var 3) .nil)) .nil none) (.cons (.call c4 .nil (.cons (.var 3) (.cons (.var 1) .nil)) (some [1, 0])) .nil))) .nil)) (.bi .repr (.cons (.lst false (.cons (.var 4) (.cons (.var 4) .nil))) .nil))) (.cons (.ret (.lit (.bl false))) .nil) .nil)
def t_law_right_10_s4 (c0 : Nat) (c1 : Nat) (c2 : Nat) (c3 : Nat) (c4 : Nat) (c5 : Nat) (c6 : Nat) (c7 : Nat) (c8 : Nat) : S := (.iff (.cmp .ne (.bi .repr (.cons (.lst false (.cons (.call c5 (.cons (.var 1) (.cons (.var 3) .nil)) .nil none) (.cons (.call c5 .nil (.cons (.var 3) (.cons (.var 1) .nil)) (some [1, 0])) .nil))) .nil)) (.bi .repr (.cons (.lst false (.cons (.var 5) (.cons (.var 5) .nil))) .nil))) (.cons (.ret (.lit (.bl false))) .nil) .nil)
def t_law_right_10_s5 (c0 : Nat) (c1 : Nat) (c2 : Nat) (c3 : Nat) (c4 : Nat) (c5 : Nat) (c6 : Nat) (c7 : Nat) (c8 : Nat) : S := (.iff (.cmp .ne (.comp false [6] (.val (.var 5)) (.name 6) (.cons (.cmp .notin (.var 6) (.var 4)) .nil) (.fin (.var 6))) (.lst false .nil)) (.cons (.ret (.lit (.bl false))) .nil) .nil)
def t_law_right_10_s6 (c0 : Nat) (c1 : Nat) (c2 : Nat) (c3 : Nat) (c4 : Nat) (c5 : Nat) (c6 : Nat) (c7 : Nat) (c8 : Nat) : S := (.for_ (.name 6) (.val (.var 4)) (.cons (.iff (.cmp .isnot (.call c6 (.cons (.var 1) (.cons (.var 3) (.cons (.bin .add (.sl (.var 3) .none (.some (.var 6))) (.sl (.var 3) (.some (.bin .add (.var 6) (.lit (.int 1)))) .none)) .nil))) .nil none) (.lit (.bl true))) (.cons (.ret (.lit (.bl false))) .nil) .nil) .nil))
def t_law_right_10_s7 (c0 : Nat) (c1 : Nat) (c2 : Nat) (c3 : Nat) (c4 : Nat) (c5 : Nat) (c6 : Nat) (c7 : Nat) (c8 : Nat) : S := (.asg (.name 7) (.bi .tuple (.cons (.comp false [8] (.rng (.lit (.int 6))) (.name 8) .nil (.fin (.call c1 (.cons (.var 0) (.cons (.var 1) .nil)) .nil none))) .nil)))
def t_law_right_10_s8 (c0 : Nat) (c1 : Nat) (c2 : Nat) (c3 : Nat) (c4 : Nat) (c5 : Nat) (c6 : Nat) (c7 : Nat) (c8 : Nat) : S := (.for_ (.name 6) (.val (.var 5)) (.cons (.iff (.cmp .ne (.call c7 (.cons (.var 1) (.cons (.idx (.var 3) (.var 6)) (.cons (.call c8 (.cons (.var 1) (.cons (.sl (.var 3) .none (.some (.var 6))) (.cons (.var 7) .nil))) .nil none) .nil))) .nil none) (.tup .nil)) (.cons (.ret (.lit (.bl false))) .nil) .nil) .nil))
def t_law_right_10_s9 (c0 : Nat) (c1 : Nat) (c2 : Nat) (c3 : Nat) (c4 : Nat) (c5 : Nat) (c6 : Nat) (c7 : Nat) (c8 : Nat) : S := (.ret (.lit (.bl true)))
def t_law_right_10 (c0 : Nat) (c1 : Nat) (c2 : Nat) (c3 : Nat) (c4 : Nat) (c5 : Nat) (c6 : Nat) (c7 : Nat) (c8 : Nat) : Fd := ⟨3, 9, [], false, (.cons (t_law_right_10_s0 c0 c1 c2 c3 c4 c5 c6 c7 c8) (.cons (t_law_right_10_s1 c0 c1 c2 c3 c4 c5 c6 c7 c8) (.cons (t_law_right_10_s2 c0 c1 c2 c3 c4 c5 c6 c7 c8) (.cons (t_law_right_10_s3 c0 c1 c2 c3 c4 c5 c6 c7 c8) (.cons (t_law_right_10_s4 c0 c1 c2 c3 c4 c5 c6 c7 c8) (.cons (t_law_right_10_s5 c0 c1 c2 c3 c4 c5 c6 c7 c8) (.cons (t_law_right_10_s6 c0 c1 c2 c3 c4 c5 c6 c7 c8) (.cons (t_law_right_10_s7 c0 c1 c2 c3 c4 c5 c6 c7 c8) (.cons (t_law_right_10_s8 c0 c1 c2 c3 c4 c5 c6 c7 c8) (.cons (t_law_right_10_s9 c0 c1 c2 c3 c4 c5 c6 c7 c8) .nil))))))))))⟩  -- _law_book _law_take _law_idle _law_still idle still are_alike acts done
def t_law_7_s0 (c0 : Nat) (c1 : Nat) (c2 : Nat) (c3 : Nat) : S := (.for_ (.name 1) (.rng (.lit (.int 3))) (.cons (.asg (.name 2) (.call c0 (.cons (.var 0) (.cons (.var 1) .nil)) .nil none)) (.cons (.for_ (.name 3) (.rng (.lit (.int 2))) (.cons (.iff (.or (.not (.call c1 (.cons (.var 2) (.cons (.lit (.int 2)) (.cons (.lit (.int 2)) .nil))) .nil none)) (.not (.call c1 (.cons (.var 2) (.cons (.lit (.int 3)) (.cons (.lit (.int 1)) .nil))) .nil none))) (.cons (.ret (.lit (.bl false))) .nil) .nil) .nil)) (.cons (.iff (.not (.call c1 (.cons (.var 2) (.cons (.lit (.int 2)) (.cons (.lit (.int 3)) .nil))) .nil none)) (.cons (.ret (.lit (.bl false))) .nil) .nil) .nil))))
def t_law_7_s1 (c0 : Nat) (c1 : Nat) (c2 : Nat) (c3 : Nat) : S := (.asg (.name 4) (.tup (.cons (.tup (.cons (.lit (.int 0)) .nil)) (.cons (.lit (.int 1)) (.cons (.tup (.cons (.lit (.int 0)) (.cons (.lit (.int 1)) (.cons (.lit (.int 2)) .nil)))) (.cons (.tup (.cons (.lit (.int 0)) (.cons (.lit (.int 1)) (.cons (.lit (.int 2)) .nil)))) .nil))))))
def t_law_7_s2 (c0 : Nat) (c1 : Nat) (c2 : Nat) (c3 : Nat) : S := (.ret (.and (.cmp .eq (.call c2 (.cons (.lit (.int 2)) (.cons (.tup (.cons (.var 4) (.cons (.var 4) .nil))) .nil)) .nil none) (.tup (.cons (.lit (.int 1)) .nil))) (.and (.cmp .eq (.call c3 (.cons (.lit (.int 2)) (.cons (.tup (.cons (.var 4) (.cons (.var 4) .nil))) .nil)) .nil none) (.tup (.cons (.lit (.int 0)) (.cons (.lit (.int 1)) .nil)))) (.cmp .eq (.call c3 (.cons (.lit (.int 3)) (.cons (.tup .nil) .nil)) .nil none) (.tup .nil)))))
def t_law_7 (c0 : Nat) (c1 : Nat) (c2 : Nat) (c3 : Nat) : Fd := ⟨1, 5, [], false, (.cons (t_law_7_s0 c0 c1 c2 c3) (.cons (t_law_7_s1 c0 c1 c2 c3) (.cons (t_law_7_s2 c0 c1 c2 c3) .nil)))⟩  -- _law_well _law_right still idle
end Y
end
section
set_option maxRecDepth 100000
set_option Elab.async false
set_option linter.all false
namespace Y
open PySem
local macro_rules | `(tactic| tm_at "run") => `(tactic| refine Res.eq_of_wp (run_wp rfl ?_))
theorem ok_law_short {C : Cs} {c0 : Nat} (h0 : Q_law_words (C.fn c0)) : Q_words_upto (runFd C (t_law_up_to c0)) := by
  intro s n st hs hs2 hn
  tm_at "run"
  have h1 : i62 ((n : Int) + 1) = true := i62_of (by omega) (by omega)
  have hz : i62 1 = true := by decide
  simp [t_law_up_to, h1, hz]
  refine forM_ind (fun k ρ st' => st' = st ∧ ∃ o3, ρ = ⟨[some (.int s), some (.int n), some (LW (upto s k)), o3], [], st.length⟩) ⟨rfl, none, rfl⟩ ?_ ?_
  · rintro k x ρ st' hx ⟨rfl, o3, rfl⟩
    obtain ⟨hk, hj⟩ := range_get hx
    subst hj
    obtain ⟨j, rfl⟩ : ∃ j, j = x := ⟨x, rfl⟩
    have e : (1 + (j : Int)) = ((j + 1 : Nat) : Int) := by omega
    have hl1 := upto_le hs2 j (by omega)
    have hl2 := wds_le (s := s) (n := j + 1) hs2 (by omega)
    have hl3 : j * 19683 ≤ 9 * 19683 := Nat.mul_le_mul_right _ (by omega)
    have hw := fun st => h0 s (j + 1) st hs hs2 (by omega)
    rw [← e] at hw
    simp [hw, add_LW (a := upto s j) (b := wds s (j + 1)) (by omega), upto_succ]
  · rintro ρ st' ⟨rfl, o3, rfl⟩
    simp [finQ_eq]
theorem ok_law_parting {C : Cs} {c0 c1 : Nat} (h0 : Q_words_upto (C.fn c0)) (h1 : Q_law_done (C.fn c1)) : Q_parting_by (runFd C (t_law_parting c0 c1)) := by
  intro s b d st hs hs2 hb hd hbl hdl
  tm_at "run"
  obtain ⟨M, hM⟩ : ∃ M, M = max b.length d.length := ⟨_, rfl⟩
  have em : (if b.length < d.length then (d.length : Int) else (b.length : Int)) = (M : Int) := by
    by_cases h : b.length < d.length
    · rw [if_pos h, hM, Nat.max_eq_right (Nat.le_of_lt h)]
    · rw [if_neg h, hM, Nat.max_eq_left (Nat.le_of_not_lt h)]
  have hfar : far b d = 2 * M + 1 := by unfold far; rw [hM]
  have hw := fun st => h0 s (2 * M + 1) st (by omega) hs2 (by omega)
  rw [show ((2 * M + 1 : Nat) : Int) = 2 * (M : Int) + 1 by omega, ← hfar] at hw
  have hm2 : binD .mul (.int 2) (.int (M : Int)) = some (.int (2 * (M : Int))) := by simp [binD, i64]
  simp [t_law_parting, em, hm2, hw]
  refine forM_ind (fun i ρ st' => (∀ w ∈ (upto s (far b d)).take i, doneB s b w = doneB s d w) ∧ st' = st ∧ ∃ o5, ρ = ⟨[some (.int s), some (B b), some (B d), o5], [], st.length⟩) ⟨by simp, rfl, none, rfl⟩ ?_ ?_
  · rintro i w ρ st' hx ⟨hall, rfl, o5, rfl⟩
    have hm := upto_mem (List.mem_of_getElem? hx)
    have hwl : w.length ≤ 100000 := by rw [hfar] at hm; omega
    simp [h1 s b w _ hwl, h1 s d w _ hwl]
    by_cases h : doneB s b w = doneB s d w
    · simp [h]
      intro v hv
      have et : (upto s (far b d)).take (i + 1) = (upto s (far b d)).take i ++ [w] := by
        rw [List.take_add_one, hx]; rfl
      rw [et, List.mem_append] at hv
      rcases hv with hv | hv
      · exact hall v hv
      · simp at hv; subst hv; exact h
    · simp [h, finQ_eq]
      have : parts s b d (far b d) = some w := by
        unfold parts
        refine find_at (i := i) hx (by simp [h]) (fun y hy => by simp [hall y hy])
      rw [this]; rfl
  · rintro ρ st' ⟨hall, rfl, o5, rfl⟩
    have : parts s b d (far b d) = none := by
      unfold parts
      refine List.find?_eq_none.mpr fun y hy => ?_
      have := hall y (by rw [List.take_of_length_le (by simp)]; exact hy)
      simp [this]
    simp [finQ_eq, this, optW]
theorem parts_swap {s : Int} {b d : List Lw} {m : Nat} : decide (parts s b d m = none) = decide (parts s d b m = none) := by
  rw [decide_eq_decide, parts_none, parts_none]
  exact ⟨fun h w hw => (h w hw).symm, fun h w hw => (h w hw).symm⟩
theorem addBwo {b : List Lw} {i : Nat} (h : b.length ≤ 1000) : binD .add (B (b.take i)) (B (b.drop (i + 1))) = some (B (wo b i)) := by
  show (if line _ then _ else _) = _
  rw [if_pos (line_of (by simp; omega))]
  simp [B, wo]
theorem cutB_to {b : List Lw} (i : Nat) : cutL b none (some (i : Int)) = b.take i := by rw [cutL_to _ _ (by omega)]; simp
theorem cutB_from {b : List Lw} (i : Nat) : cutL b (some ((i : Int) + 1)) none = b.drop (i + 1) := by
  rw [cutL_from _ _ (by omega)]; congr 1
theorem ok_law_idle {C : Cs} {c0 : Nat} (h0 : Q_parting_by (C.fn c0)) : Q_idle_by (runFd C (t_law_idle c0)) := by
  intro s b st hs hs2 hb hbl
  tm_at "run"
  simp [t_law_idle, listrange_int (show b.length ≤ 100000 by omega)]
  refine wp_filter (fun i => decide (parts s (wo b i) b (2 * b.length + 1) = none)) (fun i : Nat => D.int (i : Int)) (fun i hx => ?_) ?_
  · rw [List.mem_range] at hx
    have hf : far b (wo b i) = 2 * b.length + 1 := by unfold far; rw [wo_len hx]; omega
    have hp := fun st => h0 s b (wo b i) st hs hs2 hb (wo_all hb) hbl (by rw [wo_len hx]; omega)
    rw [hf] at hp
    simp only [parts_swap (b := wo b i)]
    have ha := addBwo (b := b) (i := i) (by omega)
    simp [-List.map_take, -List.map_drop, cutB_to, cutB_from, ha, hp]
    cases parts s b (wo b i) (2 * b.length + 1) <;> simp [optW]
  · have := List.length_filter_le (fun i => decide (parts s (wo b i) b (2 * b.length + 1) = none)) (List.range b.length)
    rw [List.length_range] at this
    rw [mkLs_f (line_of (by simp only [List.length_map]; omega))]
    have e : D.lst ((idleL s b).map fun (i : Nat) => D.int (i : Int)) = LI ((idleL s b).map Nat.cast) := by unfold LI; rw [List.map_map]; rfl
    unfold idleL at e ⊢
    rw [e]
    simp [finQ_eq]
theorem still_succ (s : Int) (b : List Lw) (p : Nat) : ((List.range (p + 1)).filter fun i => !everA s b i).map (Nat.cast : Nat → Int) = ((List.range p).filter fun i => !everA s b i).map Nat.cast ++ if everA s b p then [] else [(p : Int)] := by
  rw [List.range_succ, List.filter_append, List.map_append]
  by_cases h : everA s b p <;> simp [h]
theorem ever_filter {s : Int} {b : List Lw} {i : Nat} : (((upto s (2 * i + 3)).map fun w => doneB s (b.take i) w).filter fun v => !decide (actsOf s (gl b i) v = [])) = [] ↔ everA s b i = false := by
  rw [List.filter_eq_nil_iff]
  unfold everA
  rw [List.any_eq_false]
  simp
theorem ok_law_still {C : Cs} {c0 c1 c2 : Nat} (h0 : Q_words_upto (C.fn c0)) (h1 : Q_law_done (C.fn c1)) (h2 : Q_law_acts2 (C.fn c2)) : Q_still_by (runFd C (t_law_still c0 c1 c2)) := by
  intro s b st hs hs2 hb hbl
  tm_at "run"
  have e0 : D.tup [] = W [] := rfl
  simp [t_law_still, t_law_still_s0, t_law_still_s1, enumT_B]
  refine forM_ind (fun j ρ st' => st' = st ∧ ∃ o3 o4 o5 o6, ρ = ⟨[some (.int s), some (B b), some (W (((List.range j).filter fun i => !everA s b i).map Nat.cast)), o3, o4, o5, o6], [], st.length⟩) ⟨rfl, none, none, none, none, rfl⟩ ?_ ?_
  · rintro j p ρ st' hp ⟨rfl, o3, o4, o5, o6, rfl⟩
    obtain ⟨hj, rfl⟩ := range_get hp
    have hw := fun st => h0 s (2 * p + 3) st (by omega) hs2 (by omega)
    rw [show ((2 * p + 3 : Nat) : Int) = 2 * (p : Int) + 3 by omega] at hw
    have hul := upto_le hs2 (2 * p + 3) (by omega)
    have hmu : (2 * p + 3) * 19683 ≤ 9 * 19683 := Nat.mul_le_mul_right _ (by omega)
    have hm2 : binD .mul (.int 2) (.int (p : Int)) = some (.int (2 * (p : Int))) := by simp [binD, i64]
    simp [hm2, hw]
    refine wp_map (fun w => W (doneB s (b.take p) w)) (fun w hw => ?_) ?_
    · have hm := upto_mem hw
      simp [-List.map_take, cutB_to, h1 s (b.take p) w _ (by omega)]
    rw [mkLs_f (line_of (by simp only [List.length_map]; omega))]
    have e1 : D.lst ((upto s (2 * p + 3)).map fun w => W (doneB s (b.take p) w)) = LW ((upto s (2 * p + 3)).map fun w => doneB s (b.take p) w) := by unfold LW; rw [List.map_map]; rfl
    rw [e1]
    simp [-List.map_map]
    refine wp_filter (fun v => !decide (actsOf s (gl b p) v = [])) (fun v => W v) (fun v hv => ?_) ?_
    · obtain ⟨w, hw, rfl⟩ := List.mem_map.mp hv
      have hm := upto_mem hw
      simp [h2 s (gl b p) (doneB s (b.take p) w) _ (by simp; omega)]
      by_cases h : actsOf s (gl b p) (doneB s (b.take p) w) = [] <;> simp [h]
    have hfl := List.length_filter_le (fun v => !decide (actsOf s (gl b p) v = [])) ((upto s (2 * p + 3)).map fun w => doneB s (b.take p) w)
    rw [List.length_map] at hfl
    rw [mkLs_f (line_of (by simp only [List.length_map]; omega))]
    have e2 : D.lst ((((upto s (2 * p + 3)).map fun w => doneB s (b.take p) w).filter fun v => !decide (actsOf s (gl b p) v = [])).map fun v => W v) = LW (((upto s (2 * p + 3)).map fun w => doneB s (b.take p) w).filter fun v => !decide (actsOf s (gl b p) v = [])) := rfl
    rw [e2]
    have hle : (((List.range p).filter fun i => !everA s b i).map (Nat.cast : Nat → Int)).length ≤ p := by
      have := List.length_filter_le (fun i => !everA s b i) (List.range p)
      simpa using this
    have ha : binD .add (W (((List.range p).filter fun i => !everA s b i).map Nat.cast)) (.tup [.int (p : Int)]) = some (W (((List.range p).filter fun i => !everA s b i).map Nat.cast ++ [(p : Int)])) := add_W1 (by omega)
    have ha0 : binD .add (W (((List.range p).filter fun i => !everA s b i).map Nat.cast)) (.tup []) = some (W (((List.range p).filter fun i => !everA s b i).map Nat.cast)) := by
      rw [e0, add_W (by rw [List.length_nil]; omega), List.append_nil]
    rw [still_succ]
    cases he : everA s b p with
    | false =>
      rw [ever_filter.mpr he]
      simp [ha]
    | true =>
      have hne : (((upto s (2 * p + 3)).map fun w => doneB s (b.take p) w).filter fun v => !decide (actsOf s (gl b p) v = [])) ≠ [] := fun h => by
        rw [ever_filter.mp h] at he; cases he
      simp [hne, ha0]
  · rintro ρ st' ⟨rfl, o3, o4, o5, o6, rfl⟩
    simp [t_law_still_s2, finQ_eq, stillL]
end Y
end
section
set_option maxRecDepth 100000
set_option Elab.async false
set_option linter.all false
namespace Y
open PySem
def Q_law40 (F : Fun) : Prop := ∀ (ns : List Int) (st : Sto), ns.length ≤ 63 → (F [LI ns] st).wp fun d st' => d = .bl true
theorem turns (n : Nat) : ∃ k : Nat, k ≤ 3 ∧ (if 2 < (if (3 : Int) < (n : Int) then (3 : Int) else (n : Int)) then (if (3 : Int) < (n : Int) then (3 : Int) else (n : Int)) else 2) = (k : Int) := by
  by_cases h : (3 : Int) < n
  · exact ⟨3, by omega, by simp [h]⟩
  · by_cases h2 : (2 : Int) < n
    · exact ⟨3, by omega, by simp [h, h2]; omega⟩
    · exact ⟨2, by omega, by simp [h, h2]⟩
end Y
end
section
set_option maxRecDepth 100000
set_option Elab.async false
set_option linter.all false
namespace Y
open PySem
theorem sh_nats {n : List Nat} {k : Nat} (h : ∀ i ∈ n, i ≤ 100) (hk : n.length ≤ k) : Sh (k * 104 + 3) (W (n.map Nat.cast)) := by
  refine Sh.W (fun i hi => ?_) (by simpa using hk)
  obtain ⟨j, hj, rfl⟩ := List.mem_map.mp hi
  have := h j hj
  simpa using this
theorem shTwo {n : List Nat} (h : ∀ i ∈ n, i < 3) (hk : n.length ≤ 3) : biD .repr [.lst [W (n.map Nat.cast), W (n.map Nat.cast)]] = some (.str (D.lst [W (n.map Nat.cast), W (n.map Nat.cast)]).py.shown) := by
  have hs : Sh (2 * ((3 * 104 + 3) + 2) + 3) (.lst [W (n.map Nat.cast), W (n.map Nat.cast)]) := by
    refine Sh.lst (n := 2) (k := 3 * 104 + 3) ?_ (by simp)
    simp only [List.mem_cons, List.not_mem_nil, or_false, or_self]
    rintro x rfl
    exact sh_nats (fun i hi => by have := h i hi; omega) hk
  exact repr_ok (by simp) hs (by omega)
theorem idleL_lt {s : Int} {b : List Lw} {i : Nat} (h : i ∈ idleL s b) : i < b.length := by
  unfold idleL at h; rw [List.mem_filter, List.mem_range] at h; exact h.1
theorem stillL_lt {s : Int} {b : List Lw} {i : Nat} (h : i ∈ stillL s b) : i < b.length := by
  unfold stillL at h; rw [List.mem_filter, List.mem_range] at h; exact h.1
theorem idleL_len (s : Int) (b : List Lw) : (idleL s b).length ≤ b.length := by
  have := List.length_filter_le (fun i => decide (parts s (wo b i) b (2 * b.length + 1) = none)) (List.range b.length)
  unfold idleL; rwa [List.length_range] at this
theorem stillL_len (s : Int) (b : List Lw) : (stillL s b).length ≤ b.length := by
  have := List.length_filter_le (fun i => !everA s b i) (List.range b.length)
  unfold stillL; rwa [List.length_range] at this
def Q_right21 (F : Fun) : Prop := ∀ (r : Nat) (s m : Int) (st : Sto), PoolAt r st → 2 ≤ s → s ≤ 3 → 0 ≤ m → m ≤ 3 → (F [.ref r, .int s, .int m] st).wp fun d st' => d = .bl true ∧ Dr r st st'
theorem ok_right21 {C : Cs} {c0 c1 c2 c3 c4 c5 c6 c7 c8 : Nat} (h0 : Q_book (C.fn c0)) (h1 : Q_take (C.fn c1)) (h2 : Q_idle_by (C.fn c2)) (h3 : Q_still_by (C.fn c3)) (h4 : Q_idle (C.fn c4)) (h5 : Q_still (C.fn c5)) (h6 : Q_are_alike (C.fn c6)) (h7 : Q_acts (C.fn c7)) (h8 : Q_done (C.fn c8)) : Q_right21 (runFd C (t_law_right_10 c0 c1 c2 c3 c4 c5 c6 c7 c8)) := by
  intro r s m st hp hs hs2 hm hm2
  refine run_wp rfl ?_
  have hfin : ∀ st', Dr r st st' → finQ false st.length (fun d st' => d = D.bl true ∧ Dr r st st') (.bl true) st' := fun st' hd => by
    rw [finQ_eq rfl, hd.take]; exact ⟨rfl, hd⟩
  simp [t_law_right_10, t_law_right_10_s0]
  refine Res.wp_mono (h0 r s m st hp hs hs2 hm hm2) ?_
  rintro _ st1 ⟨⟨b1, rfl, l1, a1⟩, hd1⟩
  have rest : ∀ (b : List Lw) (st2 : Sto), (b.length : Int) ≤ m → b.all (okLaw s) = true → Dr r st st2 → (evSs C (.cons (t_law_right_10_s2 c0 c1 c2 c3 c4 c5 c6 c7 c8) (.cons (t_law_right_10_s3 c0 c1 c2 c3 c4 c5 c6 c7 c8) (.cons (t_law_right_10_s4 c0 c1 c2 c3 c4 c5 c6 c7 c8) (.cons (t_law_right_10_s5 c0 c1 c2 c3 c4 c5 c6 c7 c8) (.cons (t_law_right_10_s6 c0 c1 c2 c3 c4 c5 c6 c7 c8) (.cons (t_law_right_10_s7 c0 c1 c2 c3 c4 c5 c6 c7 c8) (.cons (t_law_right_10_s8 c0 c1 c2 c3 c4 c5 c6 c7 c8) (.cons (t_law_right_10_s9 c0 c1 c2 c3 c4 c5 c6 c7 c8) .nil)))))))) ⟨[some (.ref r), some (.int s), some (.int m), some (B b), none, none, none, none, none], [], st.length⟩ st2).wp (fun _ st' => finQ false st.length (fun d st' => d = D.bl true ∧ Dr r st st') .non st') (fun d st' => finQ false st.length (fun d st' => d = D.bl true ∧ Dr r st st') d st') := by
    intro b st2 lb ab hd2
    have lb3 : b.length ≤ 3 := by omega
    have kb : okBook s b = true := by simp [okBook, ab]; omega
    have r1 := shTwo (fun i hi => by have := idleL_lt (s := s) (b := b) hi; omega) (Nat.le_trans (idleL_len s b) lb3)
    have r2 := shTwo (fun i hi => by have := stillL_lt (s := s) (b := b) hi; omega) (Nat.le_trans (stillL_len s b) lb3)
    simp [t_law_right_10_s2, t_law_right_10_s3, t_law_right_10_s4, t_law_right_10_s5, h2 s b _ hs hs2 ab (by omega), h3 s b _ hs hs2 ab lb3, h4 s b _ hs hs2 kb, h5 s b _ hs hs2 kb, permD, r1, r2]
    refine wp_filter (fun _ => false) (fun i : Nat => D.int (i : Int)) (fun i hi' => ?_) ?_
    · have hin : decide ((i : Int) ∈ (idleL s b).map (Nat.cast : Nat → Int)) = true := by
        rw [decide_eq_true_eq]; exact List.mem_map.mpr ⟨i, still_idle hi', rfl⟩
      simp [-List.mem_map, hin]
    have eg : ((stillL s b).filter fun _ => false) = [] := List.filter_eq_nil_iff.mpr (by simp)
    rw [eg]
    simp [t_law_right_10_s6]
    refine forM_ind (fun _ ρ st' => st' = st2 ∧ ∃ o6, ρ = ⟨[some (.ref r), some (.int s), some (.int m), some (B b), some (W ((idleL s b).map Nat.cast)), some (W ((stillL s b).map Nat.cast)), o6, none, none], [], st.length⟩) ⟨rfl, _, rfl⟩ ?_ ?_
    · rintro j x ρ st' hx ⟨rfl, o6, rfl⟩
      have hx := List.mem_of_getElem? hx
      have hi := idleL_lt hx
      have ha := addBwo (b := b) (i := x) (by omega)
      have kw : okBook s (wo b x) = true := by
        have := wo_all (i := x) ab
        simp [okBook, this, wo_len hi]; omega
      have hf : far b (wo b x) = 2 * b.length + 1 := by unfold far; rw [wo_len hi]; omega
      have hp := h6 s b (wo b x) st' hs hs2 kb kw
      rw [hf, parts_swap] at hp
      have hn : decide (parts s (wo b x) b (2 * b.length + 1) = none) = true := by
        unfold idleL at hx; rw [List.mem_filter] at hx; exact hx.2
      rw [hn] at hp
      have hno : ∀ a b, cmpD .isnot (.bl a) (.bl b) = some (!decide (a = b)) := fun _ _ => rfl
      simp [-List.map_take, -List.map_drop, cutB_to, cutB_from, ha, hp, hno]
    rintro ρ st' ⟨rfl, o6, rfl⟩
    have hi6 : i62 6 = true := by decide
    simp [t_law_right_10_s7, hi6]
    refine loopM_ind (fun i acc st3 => Dr r st st3 ∧ ∃ w : List Int, acc = w.map D.int ∧ w.length = i ∧ ∀ x ∈ w, 0 ≤ x ∧ x ≤ s - 1) ⟨hd2, [], rfl, rfl, by simp⟩ ?_ ?_
    · rintro i x acc st3 hx ⟨hd, w, rfl, hl, hw⟩
      simp
      refine Res.wp_mono (h1 r s st3 hd.pool (by omega) (by omega)) ?_
      rintro _ st4 ⟨⟨v, rfl, hv⟩, hd'⟩
      simp
      refine ⟨hd.trans hd', w ++ [(v : Int)], by simp, by simp [hl], fun x hx => ?_⟩
      rcases List.mem_append.mp hx with hx | hx
      · exact hw x hx
      · simp at hx; omega
    rintro acc st5 ⟨hd5, w, rfl, hl, hw⟩
    have hl : w.length = 6 := by simpa using hl
    rw [mkLs_f (line_of (by simp only [List.length_map]; omega))]
    have ew : D.lst (w.map D.int) = LI w := rfl
    rw [ew]
    have okw : okWord s w = true := by
      simp only [okWord, Bool.and_eq_true, decide_eq_true_eq, List.all_eq_true]
      exact ⟨by omega, fun i hi => hw i hi⟩
    simp [t_law_right_10_s8]
    refine forM_ind (fun _ ρ st' => st' = st5 ∧ ∃ o6, ρ = ⟨[some (.ref r), some (.int s), some (.int m), some (B b), some (W ((idleL s b).map Nat.cast)), some (W ((stillL s b).map Nat.cast)), o6, some (W w), none], [], st.length⟩) ⟨rfl, _, rfl⟩ ?_ ?_
    · rintro j x ρ st' hx ⟨rfl, o6, rfl⟩
      have hx := List.mem_of_getElem? hx
      have hi := stillL_lt hx
      have he : everA s b x = false := by
        unfold stillL at hx; rw [List.mem_filter] at hx; simpa using hx.2
      have hst := still_all he w (by omega) hw
      have hbi : idxD (B b) (.int (x : Int)) = some (L (gl b x)) := idx_Bn hi
      have kg : okLaw s (gl b x) = true := by
        have : gl b x ∈ b := by simp [gl, hi]
        exact List.all_eq_true.mp ab _ this
      have at' : (b.take x).all (okLaw s) = true := by
        rw [List.all_eq_true] at ab ⊢
        exact fun c hc => ab c (List.take_subset _ _ hc)
      have kt : okBook s (b.take x) = true := by
        simp only [okBook, Bool.and_eq_true, decide_eq_true_eq, List.length_take]
        exact ⟨by omega, at'⟩
      simp [-List.map_take, -List.map_drop, cutB_to, hbi, h8 s (b.take x) w _ hs hs2 kt okw, h7 s (gl b x) (doneB s (b.take x) w) _ hs hs2 kg (doneB_word at' okw), hst]
    rintro ρ st' ⟨rfl, o6, rfl⟩
    simp [t_law_right_10_s9]
    exact hfin _ hd5
  simp [t_law_right_10_s1]
  by_cases hb : b1 = []
  · simp [hb]
    have := rest [] st1 (by simpa using hm) rfl hd1
    simpa using this
  by_cases hl : (b1.length : Int) < m
  · simp [hb, hl]
    refine Res.wp_mono (h1 r 2 st1 hd1.pool (by omega) (by omega)) ?_
    rintro _ st2 ⟨⟨v, rfl, hv⟩, hd2⟩
    have hd2 := hd1.trans hd2
    by_cases h0 : v = 0
    · have hc : cutL b1 (some (-1)) none = b1.drop (b1.length - 1) := by
        have ln : b1.length ≠ 0 := by simpa using hb
        have e1 : HT.sIx b1.length 0 (some (-1)) = b1.length - 1 := by simp [HT.sIx]; omega
        have e2 : HT.sIx b1.length b1.length none = b1.length := by simp [HT.sIx]
        simp only [cutL, e1, e2]
        rw [List.take_of_length_le (by simp)]
      have hadd : binD .add (B b1) (B (b1.drop (b1.length - 1))) = some (B (b1 ++ b1.drop (b1.length - 1))) := by
        show (if line _ then _ else _) = _
        rw [if_pos (line_of (by simp; omega))]
        simp [B]
      have ln : b1.length ≠ 0 := by simpa using hb
      have := rest (b1 ++ b1.drop (b1.length - 1)) st2 (by rw [List.length_append, List.length_drop]; omega) (by
        rw [List.all_append, a1, Bool.true_and, List.all_eq_true]
        exact fun c hc => List.all_eq_true.mp a1 c (List.drop_subset _ _ hc)) hd2
      simp [h0, -List.map_drop, hc, hadd]
      simpa using this
    · simp [h0]
      simpa using rest b1 st2 l1 a1 hd2
  · simp [hb, hl]
    simpa using rest b1 st1 l1 a1 hd1
def gone : Lw := ⟨[0], 1, [0, 1, 2], [0, 1, 2]⟩
theorem ok_law21 {C : Cs} {c0 c1 c2 c3 : Nat} (h0 : Q_pool (C.fn c0)) (h1 : Q_right21 (C.fn c1)) (h2 : Q_still (C.fn c2)) (h3 : Q_idle (C.fn c3)) : Q_law40 (runFd C (t_law_7 c0 c1 c2 c3)) := by
  intro ns st hn
  refine run_wp rfl ?_
  have hi : i62 3 = true := by decide
  have hi2 : i62 2 = true := by decide
  simp [t_law_7, t_law_7_s0, hi]
  refine forM_ind (fun _ ρ st' => ∃ o1 o2 o3, ρ = ⟨[some (LI ns), o1, o2, o3, none], [], st.length⟩) ⟨none, none, none, rfl⟩ ?_ ?_
  · rintro i x ρ st' hx ⟨o1, o2, o3, rfl⟩
    obtain ⟨hx, rfl⟩ := range_get hx
    simp
    refine Res.wp_mono (h0 ns x st' hn (by omega)) ?_
    rintro _ _ ⟨rfl, a, b, c, rfl⟩
    simp [hi2]
    refine forM_ind (fun _ ρ st'' => (∃ o3, ρ = ⟨[some (LI ns), some (.int x), some (.ref st'.length), o3, none], [], st.length⟩) ∧ PoolAt st'.length st'') ⟨⟨o3, rfl⟩, a, b, c, get_top _ _⟩ ?_ ?_
    · rintro j y ρ st'' hy ⟨⟨o3, rfl⟩, hp⟩
      simp
      refine Res.wp_mono (h1 st'.length 2 2 st'' hp (by omega) (by omega) (by omega) (by omega)) ?_
      rintro _ st3 ⟨rfl, hd⟩
      simp
      refine Res.wp_mono (h1 st'.length 3 1 st3 hd.pool (by omega) (by omega) (by omega) (by omega)) ?_
      rintro _ st4 ⟨rfl, hd4⟩
      simp
      exact hd4.pool
    · rintro ρ st'' ⟨⟨o3, rfl⟩, hp⟩
      simp
      refine Res.wp_mono (h1 st'.length 2 3 st'' hp (by omega) (by omega) (by omega) (by omega)) ?_
      rintro _ st3 ⟨rfl, hd⟩
      simp
  · rintro ρ st' ⟨o1, o2, o3, rfl⟩
    have e1 : stillL 2 [gone, gone] = [1] := by decide +kernel
    have e2 : idleL 2 [gone, gone] = [0, 1] := by decide +kernel
    have e3 : idleL 3 [] = [] := rfl
    have k1 := fun st => h2 2 [gone, gone] st (by omega) (by omega) (by decide)
    have k2 := fun st => h3 2 [gone, gone] st (by omega) (by omega) (by decide)
    have k3 := fun st => h3 3 [] st (by omega) (by omega) (by decide)
    rw [e1] at k1; rw [e2] at k2; rw [e3] at k3
    have eg : D.tup [D.tup [D.tup [D.int 0], D.int 1, D.tup [D.int 0, D.int 1, D.int 2], D.tup [D.int 0, D.int 1, D.int 2]], D.tup [D.tup [D.int 0], D.int 1, D.tup [D.int 0, D.int 1, D.int 2], D.tup [D.int 0, D.int 1, D.int 2]]] = B [gone, gone] := rfl
    have e0 : D.tup [] = B [] := rfl
    have w1 : D.tup [.int 1] = W [1] := rfl
    have w2 : D.tup [.int 0, .int 1] = W [0, 1] := rfl
    have q1 : D.eq (W [1]) (.tup [.int 1]) = true := by rw [w1, eq_W]; decide
    have q2 : D.eq (W [0, 1]) (.tup [.int 0, .int 1]) = true := by rw [w2, eq_W]; decide
    have k3 : ∀ st, C.fn c3 [D.int 3, D.tup []] st = .ok (W []) st := k3
    simp [t_law_7_s1, t_law_7_s2, eg, k1, k2, k3, q1, q2, finQ_eq]
end Y
end
section
set_option maxRecDepth 100000
set_option maxHeartbeats 0
set_option linter.all false
namespace YL
open PySem Y
abbrev pg : Program := PySem.Challenge.pw_soundlaws_k21_whole_idle_and_still_laws
def f0 : Fd := Y.t_is_whole  -- is_whole
def f1 : Fd := Y.t_is_between 0  -- is_between
def f2 : Fd := Y.t_is_tuple_of  -- is_tuple_of
def f3 : Fd := Y.t_is_row  -- is_row
def f4 : Fd := Y.t_first_wrong  -- first_wrong
def f5 : Fd := Y.t_is_sounds 1  -- is_sounds
def f6 : Fd := Y.t_check_sounds 5  -- check_sounds
def f7 : Fd := Y.t_is_sound 1  -- is_sound
def f8 : Fd := Y.t_is_lot 1  -- is_lot
def f9 : Fd := Y.t_is_law 2 8 7  -- is_law
def f10 : Fd := Y.t_check_word 9  -- check_law
def f11 : Fd := Y.t_wrong_law 4 0  -- wrong_law
def f12 : Fd := Y.t_check_book 3 11  -- check_book
def f13 : Fd := Y.t_check_booked 6 12  -- check_booked
def f14 : Fd := Y.t_is_word 3 7  -- is_word
def f15 : Fd := Y.t_check_word 14  -- check_word
def f16 : Fd := Y.t_check_sourced 13 15  -- check_worded
def f17 : Fd := Y.t_check_law_worded 6 10 15  -- check_law_worded
def f18 : Fd := Y.t_words_by  -- words_by
def f19 : Fd := Y.t_words_upto 18  -- words_upto
def f20 : Fd := Y.t_around  -- around
def f21 : Fd := Y.t_does_act 20  -- does_act
def f22 : Fd := Y.t_acts_by 21  -- acts_by
def f23 : Fd := Y.t_work_by 22  -- work_by
def f24 : Fd := Y.t_done_by 23  -- done_by
def f25 : Fd := Y.t_acts 17 22  -- acts
def f26 : Fd := Y.t_sources 16 24  -- done
def f27 : Fd := Y.t_works_of  -- works_of
def f28 : Fd := Y.t_all_works 27  -- all_works
def f29 : Fd := Y.t_worked  -- worked
def f30 : Fd := Y.t_far_of  -- far_of
def f31 : Fd := Y.t_parting_by 28 19 30 29  -- parting_by
def f32 : Fd := Y.t_without  -- without
def f33 : Fd := Y.t_idle_by 31 32  -- idle_by
def f34 : Fd := Y.t_acts_ever 28 19 30 22 29  -- acts_ever
def f35 : Fd := Y.t_still_by 34  -- still_by
def f36 : Fd := Y.t_check_sourced 13 12  -- check_two_books
def f37 : Fd := Y.t_are_alike 36 31  -- are_alike
def f38 : Fd := Y.t_beside 13 33  -- idle
def f39 : Fd := Y.t_beside 13 35  -- still
def f40 : Fd := Y.t_law_well 40503 7919 48271 2147483579 2147483629  -- _law_well
def f41 : Fd := Y.t_law_take_2 69621 30011 2147483587 256  -- _law_take
def f42 : Fd := Y.t_law_change_2 41  -- _law_change
def f43 : Fd := Y.t_law_book 41 42  -- _law_book
def f44 : Fd := Y.t_law_acts_2  -- _law_acts
def f45 : Fd := Y.t_law_done_2 44  -- _law_done
def f46 : Fd := Y.t_law_words_2  -- _law_all
def f47 : Fd := Y.t_law_up_to 46  -- _law_short
def f48 : Fd := Y.t_law_parting 47 45  -- _law_parting
def f49 : Fd := Y.t_law_idle 48  -- _law_idle
def f50 : Fd := Y.t_law_still 47 45 44  -- _law_still
def f51 : Fd := Y.t_law_right_10 43 41 49 50 38 39 37 25 26  -- _law_right
def f52 : Fd := Y.t_law_7 40 51 39 38  -- law
def l0 : Lm := Y.k_wrong_law 9
def P : Prog := ⟨[f0, f1, f2, f3, f4, f5, f6, f7, f8, f9, f10, f11, f12, f13, f14, f15, f16, f17, f18, f19, f20, f21, f22, f23, f24, f25, f26, f27, f28, f29, f30, f31, f32, f33, f34, f35, f36, f37, f38, f39, f40, f41, f42, f43, f44, f45, f46, f47, f48, f49, f50, f51, f52], [l0]⟩
def g : CfG := ⟨P, [(("is_whole" : Str), 0), (("is_between" : Str), 1), (("is_tuple_of" : Str), 2), (("is_row" : Str), 3), (("first_wrong" : Str), 4), (("is_sounds" : Str), 5), (("check_sounds" : Str), 6), (("is_sound" : Str), 7), (("is_lot" : Str), 8), (("is_law" : Str), 9), (("check_law" : Str), 10), (("wrong_law" : Str), 11), (("check_book" : Str), 12), (("check_booked" : Str), 13), (("is_word" : Str), 14), (("check_word" : Str), 15), (("check_worded" : Str), 16), (("check_law_worded" : Str), 17), (("words_by" : Str), 18), (("words_upto" : Str), 19), (("around" : Str), 20), (("does_act" : Str), 21), (("acts_by" : Str), 22), (("work_by" : Str), 23), (("done_by" : Str), 24), (("acts" : Str), 25), (("done" : Str), 26), (("works_of" : Str), 27), (("all_works" : Str), 28), (("worked" : Str), 29), (("far_of" : Str), 30), (("parting_by" : Str), 31), (("without" : Str), 32), (("idle_by" : Str), 33), (("acts_ever" : Str), 34), (("still_by" : Str), 35), (("check_two_books" : Str), 36), (("are_alike" : Str), 37), (("idle" : Str), 38), (("still" : Str), 39), (("_law_well" : Str), 40), (("_law_take" : Str), 41), (("_law_change" : Str), 42), (("_law_book" : Str), 43), (("_law_acts" : Str), 44), (("_law_done" : Str), 45), (("_law_all" : Str), 46), (("_law_short" : Str), 47), (("_law_parting" : Str), 48), (("_law_idle" : Str), 49), (("_law_still" : Str), 50), (("_law_right" : Str), 51)], [(("FEWEST_SOUNDS" : Str), .int 2), (("MOST_LAWS" : Str), .int 3), (("MOST_SOUNDS" : Str), .int 3), (("MOST_WORD" : Str), .int 7)], [([("value" : Str)] : List Str), ([("value" : Str), ("least" : Str), ("most" : Str)] : List Str), ([("value" : Str), ("many" : Str)] : List Str), ([("value" : Str), ("least" : Str), ("most" : Str)] : List Str), ([("value" : Str), ("is_right" : Str)] : List Str), ([("value" : Str)] : List Str), ([("sounds" : Str)] : List Str), ([("sounds" : Str), ("value" : Str)] : List Str), ([("most" : Str), ("value" : Str)] : List Str), ([("sounds" : Str), ("value" : Str)] : List Str), ([("sounds" : Str), ("value" : Str)] : List Str), ([("sounds" : Str), ("value" : Str)] : List Str), ([("sounds" : Str), ("value" : Str)] : List Str), ([("sounds" : Str), ("book" : Str)] : List Str), ([("sounds" : Str), ("value" : Str)] : List Str), ([("sounds" : Str), ("value" : Str)] : List Str), ([("sounds" : Str), ("book" : Str), ("word" : Str)] : List Str), ([("sounds" : Str), ("change" : Str), ("word" : Str)] : List Str), ([("sounds" : Str), ("length" : Str)] : List Str), ([("sounds" : Str), ("length" : Str)] : List Str), ([("sounds" : Str), ("word" : Str), ("place" : Str)] : List Str), ([("sounds" : Str), ("change" : Str), ("word" : Str), ("place" : Str)] : List Str), ([("sounds" : Str), ("change" : Str), ("word" : Str)] : List Str), ([("sounds" : Str), ("change" : Str), ("word" : Str)] : List Str), ([("sounds" : Str), ("laws" : Str), ("word" : Str)] : List Str), ([("sounds" : Str), ("change" : Str), ("word" : Str)] : List Str), ([("sounds" : Str), ("book" : Str), ("word" : Str)] : List Str), ([("sounds" : Str), ("change" : Str)] : List Str), ([("sounds" : Str), ("book" : Str)] : List Str), ([("sounds" : Str), ("works" : Str), ("word" : Str)] : List Str), ([("many" : Str)] : List Str), ([("sounds" : Str), ("book" : Str), ("other" : Str)] : List Str), ([("book" : Str), ("index" : Str)] : List Str), ([("sounds" : Str), ("book" : Str)] : List Str), ([("sounds" : Str), ("book" : Str), ("index" : Str)] : List Str), ([("sounds" : Str), ("book" : Str)] : List Str), ([("sounds" : Str), ("book" : Str), ("other" : Str)] : List Str), ([("sounds" : Str), ("book" : Str), ("other" : Str)] : List Str), ([("sounds" : Str), ("book" : Str)] : List Str), ([("sounds" : Str), ("book" : Str)] : List Str), ([("script" : Str), ("lap" : Str)] : List Str), ([("well" : Str), ("many" : Str)] : List Str), ([("well" : Str), ("sounds" : Str)] : List Str), ([("well" : Str), ("sounds" : Str), ("most" : Str)] : List Str), ([("sounds" : Str), ("change" : Str), ("word" : Str)] : List Str), ([("sounds" : Str), ("book" : Str), ("word" : Str)] : List Str), ([("sounds" : Str), ("length" : Str)] : List Str), ([("sounds" : Str), ("most" : Str)] : List Str), ([("sounds" : Str), ("book" : Str), ("other" : Str)] : List Str), ([("sounds" : Str), ("book" : Str)] : List Str), ([("sounds" : Str), ("book" : Str)] : List Str), ([("well" : Str), ("sounds" : Str), ("most" : Str)] : List Str), ([("script" : Str)] : List Str)], [(0, 1, ([] : List Str)), (1, 3, ([] : List Str)), (5, 1, ([] : List Str)), (8, 2, ([] : List Str)), (7, 2, ([] : List Str)), (2, 2, ([] : List Str)), (9, 2, ([] : List Str)), (4, 2, ([] : List Str)), (11, 2, ([] : List Str)), (3, 3, ([] : List Str)), (12, 2, ([] : List Str)), (6, 1, ([] : List Str)), (14, 2, ([] : List Str)), (15, 2, ([] : List Str)), (13, 2, ([] : List Str)), (10, 2, ([] : List Str)), (18, 2, ([] : List Str)), (20, 3, ([] : List Str)), (21, 4, ([] : List Str)), (22, 3, ([] : List Str)), (23, 3, ([] : List Str)), (17, 3, ([] : List Str)), (24, 3, ([] : List Str)), (16, 3, ([] : List Str)), (27, 2, ([] : List Str)), (19, 2, ([] : List Str)), (30, 1, ([] : List Str)), (29, 3, ([] : List Str)), (28, 2, ([] : List Str)), (31, 3, ([] : List Str)), (32, 2, ([] : List Str)), (34, 3, ([] : List Str)), (36, 3, ([] : List Str)), (33, 2, ([] : List Str)), (35, 2, ([] : List Str)), (41, 2, ([] : List Str)), (42, 2, ([] : List Str)), (44, 3, ([] : List Str)), (46, 2, ([] : List Str)), (47, 2, ([] : List Str)), (45, 3, ([] : List Str)), (48, 3, ([] : List Str)), (25, 3, ([] : List Str)), (26, 3, ([] : List Str)), (37, 3, ([] : List Str)), (39, 0, ([("book" : Str), ("sounds" : Str)] : List Str)), (39, 2, ([] : List Str)), (38, 0, ([("book" : Str), ("sounds" : Str)] : List Str)), (38, 2, ([] : List Str)), (50, 2, ([] : List Str)), (49, 2, ([] : List Str)), (43, 3, ([] : List Str)), (51, 3, ([] : List Str)), (40, 2, ([] : List Str))], [⟨([("change" : Str), ("ahead" : Str)] : List Str), ([("sounds" : Str)] : List Str), ([("change" : Str), ("ahead" : Str), ("sounds" : Str)] : List Str)⟩]⟩
def ds : List DD := [⟨7, "is_whole", ([("value" : Str)] : List Str), ([("value" : Str)] : List Str), [], false⟩,
  ⟨8, "is_between", ([("value" : Str), ("least" : Str), ("most" : Str)] : List Str), ([("value" : Str), ("least" : Str), ("most" : Str)] : List Str), [], false⟩,
  ⟨9, "is_tuple_of", ([("value" : Str), ("many" : Str)] : List Str), ([("value" : Str), ("many" : Str)] : List Str), [], false⟩,
  ⟨10, "is_row", ([("value" : Str), ("least" : Str), ("most" : Str)] : List Str), ([("value" : Str), ("least" : Str), ("most" : Str)] : List Str), [], false⟩,
  ⟨11, "first_wrong", ([("value" : Str), ("is_right" : Str)] : List Str), ([("value" : Str), ("is_right" : Str), ("index" : Str), ("each" : Str)] : List Str), [], false⟩,
  ⟨17, "is_sounds", ([("value" : Str)] : List Str), ([("value" : Str)] : List Str), [], false⟩,
  ⟨18, "check_sounds", ([("sounds" : Str)] : List Str), ([("sounds" : Str)] : List Str), [], false⟩,
  ⟨19, "is_sound", ([("sounds" : Str), ("value" : Str)] : List Str), ([("sounds" : Str), ("value" : Str)] : List Str), [], false⟩,
  ⟨20, "is_lot", ([("most" : Str), ("value" : Str)] : List Str), ([("most" : Str), ("value" : Str), ("own" : Str), ("one" : Str), ("other" : Str)] : List Str), [], false⟩,
  ⟨21, "is_law", ([("sounds" : Str), ("value" : Str)] : List Str), ([("sounds" : Str), ("value" : Str)] : List Str), [], false⟩,
  ⟨22, "check_law", ([("sounds" : Str), ("value" : Str)] : List Str), ([("sounds" : Str), ("value" : Str)] : List Str), [], false⟩,
  ⟨23, "wrong_law", ([("sounds" : Str), ("value" : Str)] : List Str), ([("sounds" : Str), ("value" : Str)] : List Str), [0], true⟩,
  ⟨24, "check_book", ([("sounds" : Str), ("value" : Str)] : List Str), ([("sounds" : Str), ("value" : Str), ("wrong" : Str)] : List Str), [], false⟩,
  ⟨25, "check_booked", ([("sounds" : Str), ("book" : Str)] : List Str), ([("sounds" : Str), ("book" : Str)] : List Str), [], false⟩,
  ⟨26, "is_word", ([("sounds" : Str), ("value" : Str)] : List Str), ([("sounds" : Str), ("value" : Str), ("own" : Str)] : List Str), [], false⟩,
  ⟨27, "check_word", ([("sounds" : Str), ("value" : Str)] : List Str), ([("sounds" : Str), ("value" : Str)] : List Str), [], false⟩,
  ⟨28, "check_worded", ([("sounds" : Str), ("book" : Str), ("word" : Str)] : List Str), ([("sounds" : Str), ("book" : Str), ("word" : Str)] : List Str), [], false⟩,
  ⟨29, "check_law_worded", ([("sounds" : Str), ("change" : Str), ("word" : Str)] : List Str), ([("sounds" : Str), ("change" : Str), ("word" : Str)] : List Str), [], false⟩,
  ⟨30, "words_by", ([("sounds" : Str), ("length" : Str)] : List Str), ([("sounds" : Str), ("length" : Str), ("found" : Str), ("turn" : Str), ("word" : Str), ("sound" : Str)] : List Str), [], false⟩,
  ⟨31, "words_upto", ([("sounds" : Str), ("length" : Str)] : List Str), ([("sounds" : Str), ("length" : Str), ("found" : Str), ("own" : Str)] : List Str), [], false⟩,
  ⟨32, "around", ([("sounds" : Str), ("word" : Str), ("place" : Str)] : List Str), ([("sounds" : Str), ("word" : Str), ("place" : Str), ("ahead" : Str)] : List Str), [], false⟩,
  ⟨33, "does_act", ([("sounds" : Str), ("change" : Str), ("word" : Str), ("place" : Str)] : List Str), ([("sounds" : Str), ("change" : Str), ("word" : Str), ("place" : Str), ("ahead" : Str), ("behind" : Str)] : List Str), [], false⟩,
  ⟨34, "acts_by", ([("sounds" : Str), ("change" : Str), ("word" : Str)] : List Str), ([("sounds" : Str), ("change" : Str), ("word" : Str), ("place" : Str)] : List Str), [], false⟩,
  ⟨35, "work_by", ([("sounds" : Str), ("change" : Str), ("word" : Str)] : List Str), ([("sounds" : Str), ("change" : Str), ("word" : Str), ("places" : Str), ("place" : Str), ("sound" : Str)] : List Str), [], false⟩,
  ⟨36, "done_by", ([("sounds" : Str), ("laws" : Str), ("word" : Str)] : List Str), ([("sounds" : Str), ("laws" : Str), ("word" : Str), ("found" : Str), ("change" : Str)] : List Str), [], false⟩,
  ⟨37, "acts", ([("sounds" : Str), ("change" : Str), ("word" : Str)] : List Str), ([("sounds" : Str), ("change" : Str), ("word" : Str)] : List Str), [], false⟩,
  ⟨38, "done", ([("sounds" : Str), ("book" : Str), ("word" : Str)] : List Str), ([("sounds" : Str), ("book" : Str), ("word" : Str)] : List Str), [], false⟩,
  ⟨40, "works_of", ([("sounds" : Str), ("change" : Str)] : List Str), ([("sounds" : Str), ("change" : Str), ("found" : Str), ("ahead" : Str), ("own" : Str), ("behind" : Str), ("does" : Str)] : List Str), [], false⟩,
  ⟨41, "all_works", ([("sounds" : Str), ("book" : Str)] : List Str), ([("sounds" : Str), ("book" : Str), ("change" : Str)] : List Str), [], false⟩,
  ⟨42, "worked", ([("sounds" : Str), ("works" : Str), ("word" : Str)] : List Str), ([("sounds" : Str), ("works" : Str), ("word" : Str), ("found" : Str), ("told" : Str), ("near" : Str)] : List Str), [], false⟩,
  ⟨43, "far_of", ([("many" : Str)] : List Str), ([("many" : Str)] : List Str), [], false⟩,
  ⟨44, "parting_by", ([("sounds" : Str), ("book" : Str), ("other" : Str)] : List Str), ([("sounds" : Str), ("book" : Str), ("other" : Str), ("one" : Str), ("two" : Str), ("word" : Str)] : List Str), [], false⟩,
  ⟨45, "without", ([("book" : Str), ("index" : Str)] : List Str), ([("book" : Str), ("index" : Str)] : List Str), [], false⟩,
  ⟨46, "idle_by", ([("sounds" : Str), ("book" : Str)] : List Str), ([("sounds" : Str), ("book" : Str), ("index" : Str)] : List Str), [], false⟩,
  ⟨47, "acts_ever", ([("sounds" : Str), ("book" : Str), ("index" : Str)] : List Str), ([("sounds" : Str), ("book" : Str), ("index" : Str), ("works" : Str), ("word" : Str)] : List Str), [], false⟩,
  ⟨48, "still_by", ([("sounds" : Str), ("book" : Str)] : List Str), ([("sounds" : Str), ("book" : Str), ("index" : Str)] : List Str), [], false⟩,
  ⟨49, "check_two_books", ([("sounds" : Str), ("book" : Str), ("other" : Str)] : List Str), ([("sounds" : Str), ("book" : Str), ("other" : Str)] : List Str), [], false⟩,
  ⟨50, "are_alike", ([("sounds" : Str), ("book" : Str), ("other" : Str)] : List Str), ([("sounds" : Str), ("book" : Str), ("other" : Str)] : List Str), [], false⟩,
  ⟨51, "idle", ([("sounds" : Str), ("book" : Str)] : List Str), ([("sounds" : Str), ("book" : Str)] : List Str), [], false⟩,
  ⟨52, "still", ([("sounds" : Str), ("book" : Str)] : List Str), ([("sounds" : Str), ("book" : Str)] : List Str), [], false⟩,
  ⟨54, "_law_well", ([("script" : Str), ("lap" : Str)] : List Str), ([("script" : Str), ("lap" : Str), ("own" : Str), ("stir" : Str), ("each" : Str)] : List Str), [], false⟩,
  ⟨55, "_law_take", ([("well" : Str), ("many" : Str)] : List Str), ([("well" : Str), ("many" : Str), ("digit" : Str)] : List Str), [], false⟩,
  ⟨56, "_law_change", ([("well" : Str), ("sounds" : Str)] : List Str), ([("well" : Str), ("sounds" : Str), ("to" : Str), ("lots" : Str), ("others" : Str), ("at" : Str), ("some" : Str), ("side" : Str), ("one" : Str), ("sound" : Str)] : List Str), [], false⟩,
  ⟨57, "_law_book", ([("well" : Str), ("sounds" : Str), ("most" : Str)] : List Str), ([("well" : Str), ("sounds" : Str), ("most" : Str), ("turn" : Str)] : List Str), [], false⟩,
  ⟨58, "_law_acts", ([("sounds" : Str), ("change" : Str), ("word" : Str)] : List Str), ([("sounds" : Str), ("change" : Str), ("word" : Str), ("found" : Str), ("ringed" : Str), ("at" : Str), ("sound" : Str)] : List Str), [], false⟩,
  ⟨59, "_law_done", ([("sounds" : Str), ("book" : Str), ("word" : Str)] : List Str), ([("sounds" : Str), ("book" : Str), ("word" : Str), ("change" : Str), ("places" : Str), ("at" : Str), ("sound" : Str)] : List Str), [], false⟩,
  ⟨60, "_law_all", ([("sounds" : Str), ("length" : Str)] : List Str), ([("sounds" : Str), ("length" : Str), ("rows" : Str), ("turn" : Str), ("longer" : Str), ("row" : Str), ("sound" : Str)] : List Str), [], false⟩,
  ⟨61, "_law_short", ([("sounds" : Str), ("most" : Str)] : List Str), ([("sounds" : Str), ("most" : Str), ("found" : Str), ("length" : Str)] : List Str), [], false⟩,
  ⟨62, "_law_parting", ([("sounds" : Str), ("book" : Str), ("other" : Str)] : List Str), ([("sounds" : Str), ("book" : Str), ("other" : Str), ("word" : Str)] : List Str), [], false⟩,
  ⟨63, "_law_idle", ([("sounds" : Str), ("book" : Str)] : List Str), ([("sounds" : Str), ("book" : Str), ("every" : Str), ("at" : Str)] : List Str), [], false⟩,
  ⟨64, "_law_still", ([("sounds" : Str), ("book" : Str)] : List Str), ([("sounds" : Str), ("book" : Str), ("found" : Str), ("at" : Str), ("change" : Str), ("words" : Str), ("word" : Str)] : List Str), [], false⟩,
  ⟨65, "_law_right", ([("well" : Str), ("sounds" : Str), ("most" : Str)] : List Str), ([("well" : Str), ("sounds" : Str), ("most" : Str), ("book" : Str), ("due" : Str), ("own" : Str), ("at" : Str), ("word" : Str), ("place" : Str)] : List Str), [], false⟩,
  ⟨66, "law", ([("script" : Str)] : List Str), ([("script" : Str), ("lap" : Str), ("well" : Str), ("turn" : Str), ("gone" : Str)] : List Str), [], false⟩]
theorem ok0 : DD.ok pg g 0 (ds.getD 0 ⟨0, "", [], [], [], false⟩) = true := by decide +kernel
theorem ok1 : DD.ok pg g 1 (ds.getD 1 ⟨0, "", [], [], [], false⟩) = true := by decide +kernel
theorem ok2 : DD.ok pg g 2 (ds.getD 2 ⟨0, "", [], [], [], false⟩) = true := by decide +kernel
theorem ok3 : DD.ok pg g 3 (ds.getD 3 ⟨0, "", [], [], [], false⟩) = true := by decide +kernel
theorem ok4 : DD.ok pg g 4 (ds.getD 4 ⟨0, "", [], [], [], false⟩) = true := by decide +kernel
theorem ok5 : DD.ok pg g 5 (ds.getD 5 ⟨0, "", [], [], [], false⟩) = true := by decide +kernel
theorem ok6 : DD.ok pg g 6 (ds.getD 6 ⟨0, "", [], [], [], false⟩) = true := by decide +kernel
theorem ok7 : DD.ok pg g 7 (ds.getD 7 ⟨0, "", [], [], [], false⟩) = true := by decide +kernel
theorem ok8 : DD.ok pg g 8 (ds.getD 8 ⟨0, "", [], [], [], false⟩) = true := by decide +kernel
theorem ok9 : DD.ok pg g 9 (ds.getD 9 ⟨0, "", [], [], [], false⟩) = true := by decide +kernel
theorem ok10 : DD.ok pg g 10 (ds.getD 10 ⟨0, "", [], [], [], false⟩) = true := by decide +kernel
theorem ok11 : DD.ok pg g 11 (ds.getD 11 ⟨0, "", [], [], [], false⟩) = true := by decide +kernel
theorem ok12 : DD.ok pg g 12 (ds.getD 12 ⟨0, "", [], [], [], false⟩) = true := by decide +kernel
theorem ok13 : DD.ok pg g 13 (ds.getD 13 ⟨0, "", [], [], [], false⟩) = true := by decide +kernel
theorem ok14 : DD.ok pg g 14 (ds.getD 14 ⟨0, "", [], [], [], false⟩) = true := by decide +kernel
theorem ok15 : DD.ok pg g 15 (ds.getD 15 ⟨0, "", [], [], [], false⟩) = true := by decide +kernel
theorem ok16 : DD.ok pg g 16 (ds.getD 16 ⟨0, "", [], [], [], false⟩) = true := by decide +kernel
theorem ok17 : DD.ok pg g 17 (ds.getD 17 ⟨0, "", [], [], [], false⟩) = true := by decide +kernel
theorem ok18 : DD.ok pg g 18 (ds.getD 18 ⟨0, "", [], [], [], false⟩) = true := by decide +kernel
theorem ok19 : DD.ok pg g 19 (ds.getD 19 ⟨0, "", [], [], [], false⟩) = true := by decide +kernel
theorem ok20 : DD.ok pg g 20 (ds.getD 20 ⟨0, "", [], [], [], false⟩) = true := by decide +kernel
theorem ok21 : DD.ok pg g 21 (ds.getD 21 ⟨0, "", [], [], [], false⟩) = true := by decide +kernel
theorem ok22 : DD.ok pg g 22 (ds.getD 22 ⟨0, "", [], [], [], false⟩) = true := by decide +kernel
theorem ok23 : DD.ok pg g 23 (ds.getD 23 ⟨0, "", [], [], [], false⟩) = true := by decide +kernel
theorem ok24 : DD.ok pg g 24 (ds.getD 24 ⟨0, "", [], [], [], false⟩) = true := by decide +kernel
theorem ok25 : DD.ok pg g 25 (ds.getD 25 ⟨0, "", [], [], [], false⟩) = true := by decide +kernel
theorem ok26 : DD.ok pg g 26 (ds.getD 26 ⟨0, "", [], [], [], false⟩) = true := by decide +kernel
theorem ok27 : DD.ok pg g 27 (ds.getD 27 ⟨0, "", [], [], [], false⟩) = true := by decide +kernel
theorem ok28 : DD.ok pg g 28 (ds.getD 28 ⟨0, "", [], [], [], false⟩) = true := by decide +kernel
theorem ok29 : DD.ok pg g 29 (ds.getD 29 ⟨0, "", [], [], [], false⟩) = true := by decide +kernel
theorem ok30 : DD.ok pg g 30 (ds.getD 30 ⟨0, "", [], [], [], false⟩) = true := by decide +kernel
theorem ok31 : DD.ok pg g 31 (ds.getD 31 ⟨0, "", [], [], [], false⟩) = true := by decide +kernel
theorem ok32 : DD.ok pg g 32 (ds.getD 32 ⟨0, "", [], [], [], false⟩) = true := by decide +kernel
theorem ok33 : DD.ok pg g 33 (ds.getD 33 ⟨0, "", [], [], [], false⟩) = true := by decide +kernel
theorem ok34 : DD.ok pg g 34 (ds.getD 34 ⟨0, "", [], [], [], false⟩) = true := by decide +kernel
theorem ok35 : DD.ok pg g 35 (ds.getD 35 ⟨0, "", [], [], [], false⟩) = true := by decide +kernel
theorem ok36 : DD.ok pg g 36 (ds.getD 36 ⟨0, "", [], [], [], false⟩) = true := by decide +kernel
theorem ok37 : DD.ok pg g 37 (ds.getD 37 ⟨0, "", [], [], [], false⟩) = true := by decide +kernel
theorem ok38 : DD.ok pg g 38 (ds.getD 38 ⟨0, "", [], [], [], false⟩) = true := by decide +kernel
theorem ok39 : DD.ok pg g 39 (ds.getD 39 ⟨0, "", [], [], [], false⟩) = true := by decide +kernel
theorem ok40 : DD.ok pg g 40 (ds.getD 40 ⟨0, "", [], [], [], false⟩) = true := by decide +kernel
theorem ok41 : DD.ok pg g 41 (ds.getD 41 ⟨0, "", [], [], [], false⟩) = true := by decide +kernel
theorem ok42 : DD.ok pg g 42 (ds.getD 42 ⟨0, "", [], [], [], false⟩) = true := by decide +kernel
theorem ok43 : DD.ok pg g 43 (ds.getD 43 ⟨0, "", [], [], [], false⟩) = true := by decide +kernel
theorem ok44 : DD.ok pg g 44 (ds.getD 44 ⟨0, "", [], [], [], false⟩) = true := by decide +kernel
theorem ok45 : DD.ok pg g 45 (ds.getD 45 ⟨0, "", [], [], [], false⟩) = true := by decide +kernel
theorem ok46 : DD.ok pg g 46 (ds.getD 46 ⟨0, "", [], [], [], false⟩) = true := by decide +kernel
theorem ok47 : DD.ok pg g 47 (ds.getD 47 ⟨0, "", [], [], [], false⟩) = true := by decide +kernel
theorem ok48 : DD.ok pg g 48 (ds.getD 48 ⟨0, "", [], [], [], false⟩) = true := by decide +kernel
theorem ok49 : DD.ok pg g 49 (ds.getD 49 ⟨0, "", [], [], [], false⟩) = true := by decide +kernel
theorem ok50 : DD.ok pg g 50 (ds.getD 50 ⟨0, "", [], [], [], false⟩) = true := by decide +kernel
theorem ok51 : DD.ok pg g 51 (ds.getD 51 ⟨0, "", [], [], [], false⟩) = true := by decide +kernel
theorem ok52 : DD.ok pg g 52 (ds.getD 52 ⟨0, "", [], [], [], false⟩) = true := by decide +kernel
theorem okG : gOk g ds = true := by decide +kernel
end YL
end
section
set_option maxRecDepth 100000
set_option maxHeartbeats 0
set_option linter.all false
namespace YL
open PySem Y
theorem s0 : At P 1 0 Q_is_whole := At.mk rfl fun n hn => ok_is_whole
theorem s1 : At P 2 1 Q_is_between := At.mk rfl fun n hn => ok_is_between  (s0 n (by omega))
theorem s2 : At P 1 2 Q_is_tuple_of := At.mk rfl fun n hn => ok_is_tuple_of
theorem s3 : At P 1 3 Q_is_row := At.mk rfl fun n hn => ok_is_row
theorem s5 : At P 3 5 Q_is_sounds := At.mk rfl fun n hn => ok_is_sounds  (s1 n (by omega))
theorem s6 : At P 4 6 Q_check_sounds := At.mk rfl fun n hn => ok_check_sounds  (s5 n (by omega))
theorem s7 : At P 3 7 Q_is_sound := At.mk rfl fun n hn => ok_is_sound  (s1 n (by omega))
theorem s8 : At P 3 8 Q_is_lot := At.mk rfl fun n hn => ok_is_lot  (s1 n (by omega))
theorem s9 : At P 4 9 Q_is_law := At.mk rfl fun n hn => ok_is_law  (s2 n (by omega)) (s8 n (by omega)) (s7 n (by omega))
theorem s10 : At P 5 10 Q_check_law := At.mk rfl fun n hn => ok_check_law  (s9 n (by omega))
theorem s11 : At P 7 11 Q_wrong_law := at_wrong_law rfl rfl rfl s9
theorem s12 : At P 8 12 Q_check_book := At.mk rfl fun n hn => ok_check_book  (s3 n (by omega)) (s11 n (by omega))
theorem s13 : At P 9 13 Q_check_booked := At.mk rfl fun n hn => ok_check_booked  (s6 n (by omega)) (s12 n (by omega))
theorem s14 : At P 4 14 Q_is_word := At.mk rfl fun n hn => ok_is_word  (s3 n (by omega)) (s7 n (by omega))
theorem s15 : At P 5 15 Q_check_word := At.mk rfl fun n hn => ok_check_word  (s14 n (by omega))
theorem s16 : At P 10 16 Q_check_worded := At.mk rfl fun n hn => ok_check_worded  (s13 n (by omega)) (s15 n (by omega))
theorem s17 : At P 6 17 Q_check_law_worded := At.mk rfl fun n hn => ok_check_law_worded  (s6 n (by omega)) (s10 n (by omega)) (s15 n (by omega))
theorem s18 : At P 1 18 Q_words_by := At.mk rfl fun n hn => ok_words_by
theorem s19 : At P 2 19 Q_words_upto := At.mk rfl fun n hn => ok_words_upto  (s18 n (by omega))
theorem s20 : At P 1 20 Q_around := At.mk rfl fun n hn => ok_around
theorem s21 : At P 2 21 Q_does_act := At.mk rfl fun n hn => ok_does_act  (s20 n (by omega))
theorem s22 : At P 3 22 Q_acts_by := At.mk rfl fun n hn => ok_acts_by  (s21 n (by omega))
theorem s23 : At P 4 23 Q_work_by := At.mk rfl fun n hn => ok_work_by  (s22 n (by omega))
theorem s24 : At P 5 24 Q_done_by := At.mk rfl fun n hn => ok_done_by  (s23 n (by omega))
theorem s25 : At P 7 25 Q_acts := At.mk rfl fun n hn => ok_acts  (s17 n (by omega)) (s22 n (by omega))
theorem s26 : At P 11 26 Q_done := At.mk rfl fun n hn => ok_done  (s16 n (by omega)) (s24 n (by omega))
theorem s27 : At P 1 27 Q_works_of := At.mk rfl fun n hn => ok_works_of
theorem s28 : At P 2 28 Q_all_works := At.mk rfl fun n hn => ok_all_works  (s27 n (by omega))
theorem s29 : At P 1 29 Q_worked := At.mk rfl fun n hn => ok_worked
theorem s30 : At P 1 30 Q_far_of := At.mk rfl fun n hn => ok_far_of
theorem s31 : At P 3 31 Q_parting_by := At.mk rfl fun n hn => ok_parting_by  (s28 n (by omega)) (s19 n (by omega)) (s30 n (by omega)) (s29 n (by omega))
theorem s32 : At P 1 32 Q_without := At.mk rfl fun n hn => ok_without
theorem s33 : At P 4 33 Q_idle_by := At.mk rfl fun n hn => ok_idle_by  (s31 n (by omega)) (s32 n (by omega))
theorem s34 : At P 4 34 Q_acts_ever := At.mk rfl fun n hn => ok_acts_ever  (s28 n (by omega)) (s19 n (by omega)) (s30 n (by omega)) (s22 n (by omega)) (s29 n (by omega))
theorem s35 : At P 5 35 Q_still_by := At.mk rfl fun n hn => ok_still_by  (s34 n (by omega))
theorem s36 : At P 10 36 Q_check_two_books := At.mk rfl fun n hn => ok_check_two_books  (s13 n (by omega)) (s12 n (by omega))
theorem s37 : At P 11 37 Q_are_alike := At.mk rfl fun n hn => ok_are_alike  (s36 n (by omega)) (s31 n (by omega))
theorem s38 : At P 10 38 Q_idle := At.mk rfl fun n hn => ok_idle  (s13 n (by omega)) (s33 n (by omega))
theorem s39 : At P 10 39 Q_still := At.mk rfl fun n hn => ok_still  (s13 n (by omega)) (s35 n (by omega))
theorem s40 : At P 1 40 Q_pool := At.mk rfl fun n hn => ok_law_well (by decide)
theorem s41 : At P 1 41 Q_take := At.mk rfl fun n hn => ok_law_take_2 (by decide)
theorem s42 : At P 2 42 Q_one := At.mk rfl fun n hn => ok_law_change2  (s41 n (by omega))
theorem s43 : At P 3 43 Q_book := At.mk rfl fun n hn => ok_law_book  (s41 n (by omega)) (s42 n (by omega))
theorem s44 : At P 1 44 Q_law_acts2 := At.mk rfl fun n hn => ok_law_acts2
theorem s45 : At P 2 45 Q_law_done := At.mk rfl fun n hn => ok_law_done2  (s44 n (by omega))
theorem s46 : At P 1 46 Q_law_words := At.mk rfl fun n hn => ok_law_words_2
theorem s47 : At P 2 47 Q_words_upto := At.mk rfl fun n hn => ok_law_short  (s46 n (by omega))
theorem s48 : At P 3 48 Q_parting_by := At.mk rfl fun n hn => ok_law_parting  (s47 n (by omega)) (s45 n (by omega))
theorem s49 : At P 4 49 Q_idle_by := At.mk rfl fun n hn => ok_law_idle  (s48 n (by omega))
theorem s50 : At P 3 50 Q_still_by := At.mk rfl fun n hn => ok_law_still  (s47 n (by omega)) (s45 n (by omega)) (s44 n (by omega))
theorem s51 : At P 12 51 Q_right21 := At.mk rfl fun n hn => ok_right21  (s43 n (by omega)) (s41 n (by omega)) (s49 n (by omega)) (s50 n (by omega)) (s38 n (by omega)) (s39 n (by omega)) (s37 n (by omega)) (s25 n (by omega)) (s26 n (by omega))
theorem s52 : At P 13 52 Q_law40 := At.mk rfl fun n hn => ok_law21  (s40 n (by omega)) (s51 n (by omega)) (s39 n (by omega)) (s38 n (by omega))
theorem okA : (List.range ds.length).all (fun i => (ds.getD i ⟨0, "", [], [], [], false⟩).ok pg g i) = true := by decide +kernel
theorem okLen : g.fps.length = ds.length := by rfl
theorem plain (ns : List Int) (hn : ns.length ≤ 63) : ∃ st', runFd (calls g.P 40) f52 [.lst (ns.map .int)] [] = .ok (.bl true) st' := plain_of (fd := f52) rfl s52 (by omega) ns hn
end YL
end
section
set_option maxRecDepth 100000
set_option maxHeartbeats 0
set_option linter.all false
namespace YL
open PySem Y PySem.Spec PyProof.Rows L2 LamX
def loose0 : List Str := [("is_whole" : Str), ("is_between" : Str), ("is_tuple_of" : Str), ("is_row" : Str), ("first_wrong" : Str), ("is_sounds" : Str), ("check_sounds" : Str), ("is_sound" : Str), ("is_lot" : Str), ("is_law" : Str), ("check_law" : Str), ("wrong_law" : Str), ("check_book" : Str), ("check_booked" : Str), ("is_word" : Str), ("check_word" : Str), ("check_worded" : Str), ("check_law_worded" : Str), ("words_by" : Str), ("words_upto" : Str), ("around" : Str), ("does_act" : Str), ("acts_by" : Str), ("work_by" : Str), ("done_by" : Str), ("acts" : Str), ("done" : Str), ("works_of" : Str), ("all_works" : Str), ("worked" : Str)]
def loose1 : List Str := [("far_of" : Str), ("parting_by" : Str), ("without" : Str), ("idle_by" : Str), ("acts_ever" : Str), ("still_by" : Str), ("check_two_books" : Str), ("are_alike" : Str), ("idle" : Str), ("still" : Str), ("_law_well" : Str), ("_law_take" : Str), ("_law_change" : Str), ("_law_book" : Str), ("_law_acts" : Str), ("_law_done" : Str), ("_law_all" : Str), ("_law_short" : Str), ("_law_parting" : Str), ("_law_idle" : Str), ("_law_still" : Str), ("_law_right" : Str), ("SoundError" : Str), ("InvalidNumber" : Str), ("InvalidLaw" : Str), ("InvalidWord" : Str), ("InvalidBook" : Str), ("FEWEST_SOUNDS" : Str), ("MOST_SOUNDS" : Str), ("MOST_WORD" : Str)]
def loose2 : List Str := [("MOST_LAWS" : Str)]
def loose : List Str := loose0 ++ loose1 ++ loose2
abbrev R : PySem.W.OpenRow := PySem.W.OpenLaw.row PySem.Challenge.rw_soundlaws_k21_whole_idle_and_still_laws
abbrev vw : Program := PySem.W.view R.prog [66]
abbrev hk : PySem.W.Hook := He.hookX 4 (faOf g ds) (ds.map (DD.d pg)) [] (tfOf ds) (exOf ds)
def ob (s : PySem.W.SharedT) : He.AlX := He.obsX 4 (faOf g ds) (ds.map (DD.d pg)) [] (tfOf ds) (exOf ds) (HandSHeadRun.getT s)
theorem ob_eq (s : PySem.W.SharedT) : ob s = hk.obs s.abs := He.obsX_eq (HandSHeadRun.getT_eq s)
theorem run (w : World) : HandSHeadRun.RunEq R vw hk ob 4000 loose w := by
  intro os
  kernel_rfl
end YL
end
set_option maxRecDepth 100000
set_option maxHeartbeats 0
set_option linter.all false
open PySem PySem.W PySem.Calls PyProof.Rows
theorem PySem.Challenge.cw_soundlaws_k21_whole_idle_and_still_laws_holds : PySem.Challenge.rw_soundlaws_k21_whole_idle_and_still_laws.Holds := by
  w_on; o_law
  refine HandSHeadRun.head_any (r := YL.R) (q := YL.vw) (H := YL.hk) (ob := YL.ob) (M := 4000) (loose := YL.loose) (d := HandSHeadRun.topDef YL.R.prog 66) (kwd := []) YL.ob_eq
    (by kernel_rfl) (fun s => by kernel_rfl) YL.run (by kernel_rfl) (by kernel_rfl) (by kernel_rfl) (by rfl) (by first | assumption | decide +kernel) (by decide +kernel) ⟨rfl, rfl, rfl, rfl, rfl, by decide +kernel⟩ ?hw ?hc
  case hw => w_witness2
  case hc =>
    refine Y.law_walk (l := PySem.Challenge.rw_soundlaws_k21_whole_idle_and_still_laws) (n := 63) rfl (by decide) (by kernel_rfl) ?F
    intro w mg fa h Yh G hm0
    obtain ⟨K, KX, c⟩ := Yh
    have hm : mg ("law" : PySem.Str) = some (.ref fa) := by
      have e : (HandSHeadRun.topDef YL.R.prog 66).name = ("law" : PySem.Str) := by kernel_rfl
      rw [← e]
      exact hm0
    exact Y.at_head (prog := YL.pg) (ds := YL.ds) (g := YL.g) (fl := 52) (dl := YL.ds.getD 52 ⟨0, "", [], [], [], false⟩) (fd := YL.f52) (x := "script") (k := 40) KX G c YL.okG (Y.okD_of YL.okA) (Y.okL_of YL.okLen) rfl rfl rfl hm ⟨rfl, by decide, by decide⟩ (fun ns hn _ => YL.plain ns hn)
