import PyProof.Rows.All
import HandS.ForMost
import HandS.ForExc
import HandS.Wide
import HandS.Lambda
import HandS.TupMul
import HandS.TupAny
import HandS.Deep
import HandS.IsInst
import HandS.TupLe
import HandS.SortInts
import HandS.Codes
import HandS.ExcCtx
import HandS.Style
import HandS.CallSlots
import HandS.HeadHook1
import HandS.FStr
import HandS.Text
import HandS.Zip
import HandS.Iter
import HandS.Comp
import HandS.ExcOwn
import KE.KNest
import HandS.Hot
import HandS.HotCalls
import PyProof.ZipIter
import HandS.ExcIs
import HandS.Defaults
import HandS.TryMany
import HandS.WordsExc
import HandS.HeadHook4
import HandS.EndTab
import HandS.Head0
import HandS.Head1
import HandS.Head2
import Wide.All
import OpenK.AllK
import Wide.FinOn
import PySem.Challenge.RW_anygreens_k02_walks_of_told_walkers
set_option Elab.async false
set_option linter.all false
set_option autoImplicit false
set_option maxRecDepth 100000
/-! The core language: deep values, a store of boxes and objects, expressions, statements, the evaluator. Own work. -/
namespace Ev
open PySem

/-- a deep value; fn: a def of the text, by its number -/
inductive D where
  | non | bl (b : Bool) | int (i : Int) | str (x : Str) | lst (xs : List D) | tup (xs : List D) | fn (f : Nat) | scr (ns : List Int)
/-- what a slot holds: a deep value, a list that is changed (box), an object, a closure -/
inductive Val where
  | d (x : D) | box (n : Nat) | obj (n : Nat) | clo (k : Nat) (r : List (Option Val))
abbrev Env := List (Option Val)
inductive Cell where
  | dead | lst (xs : List D) | obj (c : Nat) (fs : List D)
abbrev Sto := List Cell
/-- what comes out: a value, an error of a class, or no answer -/
inductive R (a : Type) where
  | ok (x : a) (S : Sto) | exc (c : Nat) (S : Sto) | stuck
def R.bind {a b : Type} (x : R a) (f : a → Sto → R b) : R b := match x with
  | .ok x S => f x S
  | .exc c S => .exc c S
  | .stuck => .stuck

/-! ### data -/
mutual
def toPy : D → PyData
  | .non => .none
  | .bl b => .bool b
  | .int i => .int i
  | .str x => .str x
  | .lst xs => .list (toPys xs)
  | .tup xs => .tuple (toPys xs)
  | .fn _ => .none
  | .scr _ => .none
def toPys : List D → List PyData
  | [] => []
  | x :: xs => toPy x :: toPys xs
end
mutual
def eqD : D → D → Bool
  | .non, y => (match y with | .non => true | _ => false)
  | .bl a, y => (match y with | .bl b => a == b | .int j => (if a then 1 else 0) == j | _ => false)
  | .int i, y => (match y with | .bl b => i == (if b then 1 else 0) | .int j => i == j | _ => false)
  | .str x, y => (match y with | .str z => x == z | _ => false)
  | .lst xs, y => (match y with | .lst ys => eqDs xs ys | _ => false)
  | .tup xs, y => (match y with | .tup ys => eqDs xs ys | _ => false)
  | .fn _, _ => false
  | .scr _, _ => false
def eqDs : List D → List D → Bool
  | [], y => (match y with | [] => true | _ :: _ => false)
  | x :: xs, y => (match y with | [] => false | z :: zs => eqD x z && eqDs xs zs)
end
mutual
/- data without functions, strings that may be laid, at most so deep -/
def okD : Nat → D → Bool
  | _, .non => true
  | _, .bl _ => true
  | _, .int _ => true
  | _, .str x => PyData.strOk x
  | 0, .lst _ => false
  | n + 1, .lst xs => okDs n xs
  | 0, .tup _ => false
  | n + 1, .tup xs => okDs n xs
  | _, .fn _ => false
  | _, .scr _ => false
def okDs : Nat → List D → Bool
  | _, [] => true
  | n, x :: xs => okD n x && okDs n xs
end
def flatD : D → Bool
  | .non => true | .bl _ => true | .int _ => true | .str _ => true | _ => false

inductive BOp where | add | sub | mul | fdiv | mod | pow deriving DecidableEq
inductive COp where | eq | ne | lt | le | gt | ge | isin | notin | is | isnot deriving DecidableEq
inductive Bi where | len | abs | sum | max | min | sorted | tuple | list | int | str | all | any | bool deriving DecidableEq
/-- what a for or a comprehension walks -/
inductive IK where | val | range1 | range2 | zip | enum deriving DecidableEq
/-- classes in isinstance -/
inductive Cls where | int | bool | str | tuple | list | own (c : Nat) deriving DecidableEq
inductive Tg where
  | v (i : Nat) | t (ts : List Tg)

def sizeMax : Nat := 16777216
def mulOk (i j : Int) : Bool := decide (i.natAbs.log2 + j.natAbs.log2 < 1000000)
def binD (op : BOp) (x y : D) : Option D := match op with
  | .add => (match x with
    | .int i => (match y with | .int j => some (.int (i + j)) | _ => none)
    | .bl b => (match y with | .int j => some (.int ((if b = true then 1 else 0) + j)) | _ => none)
    | .tup xs => (match y with | .tup ys => if xs.length + ys.length ≤ sizeMax then some (.tup (xs ++ ys)) else none | _ => none)
    | .lst xs => (match y with | .lst ys => if xs.length + ys.length ≤ sizeMax then some (.lst (xs ++ ys)) else none | _ => none)
    | .str a => (match y with | .str b => if a.length + b.length ≤ sizeMax then some (.str (a ++ b)) else none | _ => none)
    | _ => none)
  | .sub => (match x with
    | .int i => (match y with | .int j => some (.int (i - j)) | _ => none)
    | .bl b => (match y with | .int j => some (.int ((if b = true then 1 else 0) - j)) | _ => none)
    | _ => none)
  | .mul => (match x with
    | .int i => (match y with | .int j => if mulOk i j then some (.int (i * j)) else none | _ => none)
    | .tup xs => (match y with | .int k => if -1000 ≤ k ∧ k ≤ 1000 ∧ xs.length ≤ 1000 ∧ !xs.isEmpty then some (.tup (List.replicate k.toNat xs).flatten) else none | _ => none)
    | .lst xs => (match y with | .int k => if -1000 ≤ k ∧ k ≤ 1000 ∧ xs.length ≤ 1000 then some (.lst (List.replicate k.toNat xs).flatten) else none | _ => none)
    | .str a => (match y with | .int k => if 2 ≤ k ∧ k ≤ 1000 ∧ a.length ≤ 1000 then some (.str (Txt.mul a k)) else none | _ => none)
    | _ => none)
  | .fdiv => (match x with
    | .int i => (match y with | .int j => if 0 < j ∧ j.natAbs.log2 < 9000 then some (.int (i / j)) else none | _ => none)
    | _ => none)
  | .mod => (match x with
    | .int i => (match y with | .int j => if 0 < j then some (.int (i % j)) else none | _ => none)
    | _ => none)
  | .pow => (match x with
    | .int i => (match y with | .int j => if 0 ≤ j ∧ j ≤ 1000 ∧ i.natAbs < 2 ^ 64 then some (.int (i ^ j.toNat)) else none | _ => none)
    | _ => none)
/- the order of data: ints, texts, tuples of such -/
mutual
def ltD : D → D → Option Bool
  | .int i, y => (match y with | .int j => some (decide (i < j)) | _ => none)
  | .str a, y => (match y with | .str b => some (decide (a.cps.toList < b.cps.toList)) | _ => none)
  | .bl a, y => (match y with | .bl b => some (!a && b) | _ => none)
  | .tup xs, y => (match y with | .tup ys => ltDs xs ys | _ => none)
  | _, _ => none
def ltDs : List D → List D → Option Bool
  | [], y => some (match y with | [] => false | _ :: _ => true)
  | x :: xs, y => (match y with | [] => some false | z :: zs => if eqD x z then ltDs xs zs else ltD x z)
end
def occ (a b : Str) : Bool := !(Builtin.Str.occurrences b a 0 b.length 1).isEmpty
def cmpD (op : COp) (x y : D) : Option Bool := match op with
  | .eq => if okD 60 x && okD 60 y then some (eqD x y) else none
  | .ne => if okD 60 x && okD 60 y then some (!eqD x y) else none
  | .lt => (match x with | .int i => (match y with | .int j => some (decide (i < j)) | _ => none) | _ => none)
  | .le => (match x with | .int i => (match y with | .int j => some (decide (i ≤ j)) | _ => none) | _ => none)
  | .gt => (match x with | .int i => (match y with | .int j => some (decide (j < i)) | _ => none) | _ => none)
  | .ge => (match x with | .int i => (match y with | .int j => some (decide (j ≤ i)) | _ => none) | _ => none)
  | .isin => (match y with
    | .lst ys => if okD 60 x && okDs 59 ys then some (ys.any fun z => eqD z x) else none
    | .tup ys => if flatD x && ys.all flatD then some (ys.any fun z => eqD z x) else none
    | .str b => (match x with | .str a => some (occ a b) | _ => none)
    | _ => none)
  | .notin => (match y with
    | .lst ys => if okD 60 x && okDs 59 ys then some (!ys.any fun z => eqD z x) else none
    | .tup ys => if flatD x && ys.all flatD then some (!ys.any fun z => eqD z x) else none
    | .str b => (match x with | .str a => some (!occ a b) | _ => none)
    | _ => none)
  | .is => (match y with
    | .non => some (match x with | .non => true | _ => false)
    | .bl b => (match x with | .bl a => some (a == b) | _ => none)
    | _ => none)
  | .isnot => (match y with
    | .non => some (match x with | .non => false | _ => true)
    | .bl b => (match x with | .bl a => some (!(a == b)) | _ => none)
    | _ => none)
def atD {a : Type} (xs : List a) (i : Int) : Option a := (L2.ixN xs.length i).bind fun j => xs[j]?
def idxD (x y : D) : Option D := match y with
  | .int i => (match x with
    | .lst xs => atD xs i
    | .tup xs => atD xs i
    | .str a => if a.length ≤ sizeMax then (atD a.cps.toList i).map fun c => .str ⟨#[c]⟩ else none
    | .scr ns => (atD ns i).map .int
    | _ => none)
  | _ => none
/-- x[lo:hi] -/
def cutL {a : Type} (xs : List a) (lo hi : Option Int) : List a := (xs.drop (HT.sIx xs.length 0 lo)).take (HT.sIx xs.length xs.length hi - HT.sIx xs.length 0 lo)
def cutD (x : D) (lo hi : Option Int) : Option D := match x with
  | .lst xs => some (.lst (cutL xs lo hi))
  | .tup xs => some (.tup (cutL xs lo hi))
  | .str a => if a.length ≤ sizeMax then some (.str ⟨(cutL a.cps.toList lo hi).toArray⟩) else none
  | _ => none
def revD (x : D) : Option D := match x with
  | .lst xs => some (.lst xs.reverse)
  | .tup xs => some (.tup xs.reverse)
  | _ => none
def truD (x : D) : Option Bool := match x with
  | .non => some false
  | .bl b => some b
  | .int i => some (i != 0)
  | .str a => if a.length ≤ sizeMax then some ((a.length : Int) != 0) else none
  | .lst xs => some (!xs.isEmpty)
  | .tup xs => some (!xs.isEmpty)
  | .fn _ => none
  | .scr _ => none
def intsD : List D → Option (List Int)
  | [] => some []
  | x :: xs => (match x with | .int i => (intsD xs).map (i :: ·) | _ => none)
def blsD : List D → Option (List Bool)
  | [] => some []
  | x :: xs => (match x with | .bl i => (blsD xs).map (i :: ·) | _ => none)
def strsD : List D → Option (List Str)
  | [] => some []
  | x :: xs => (match x with | .str i => (strsD xs).map (i :: ·) | _ => none)
def seqD (x : D) : Option (List D) := match x with | .lst xs => some xs | .tup xs => some xs | _ => none
def maxI : List Int → Option Int
  | [] => none
  | x :: xs => some (xs.foldl (fun m y => if m < y then y else m) x)
def minI : List Int → Option Int
  | [] => none
  | x :: xs => some (xs.foldl (fun m y => if y < m then y else m) x)
def insI (x : Int) : List Int → List Int
  | [] => [x]
  | y :: ys => if y < x then y :: insI x ys else x :: y :: ys
def sortI : List Int → List Int
  | [] => []
  | x :: xs => insI x (sortI xs)
def biD (b : Bi) (x : D) : Option D := match b with
  | .len => (match x with
    | .lst xs => some (.int xs.length)
    | .tup xs => some (.int xs.length)
    | .scr ns => some (.int ns.length)
    | .str a => if a.length ≤ sizeMax then some (.int a.length) else none
    | _ => none)
  | .abs => (match x with | .int i => some (.int (if i < 0 then -i else i)) | _ => none)
  | .sum => (match x with | .lst xs => (intsD xs).map fun is => .int is.sum | _ => none)
  | .max => (match x with | .lst xs => (intsD xs).bind fun is => (maxI is).map .int | _ => none)
  | .min => (match x with | .lst xs => (intsD xs).bind fun is => (minI is).map .int | _ => none)
  | .sorted => (match x with | .lst xs => (intsD xs).map fun is => .lst ((sortI is).map .int) | _ => none)
  | .tuple => (seqD x).map .tup
  | .list => (seqD x).map .lst
  | .int => (match x with
    | .int i => some (.int i)
    | .bl b => some (.int (if b then 1 else 0))
    | .str a => if a.length ≤ 640 then (PySem.intText? a).map .int else none
    | _ => none)
  | .str => (match x with
    | .int i => if i.natAbs.log2 < 1920 then some (.str (toString i)) else none
    | _ => none)
  | .all => (match x with | .lst xs => (blsD xs).map fun bs => .bl (bs.all id) | _ => none)
  | .any => (match x with | .lst xs => (blsD xs).map fun bs => .bl (bs.any id) | _ => none)
  | .bool => (match x with | .bl b => some (.bl b) | _ => none)
end Ev

set_option Elab.async false
set_option linter.all false
set_option autoImplicit false
set_option maxRecDepth 100000
/-! The core language's syntax and evaluator. Own work. -/
namespace Ev
open PySem

mutual
/- expressions -/
inductive Ex where
  | var (i : Nat)
  | lit (x : D)
  | fnr (f : Nat)
  | glob (g : Nat)
  | tup (es : List Ex)
  | lst (es : List Ex)
  | box (es : List Ex)
  | boxof (e : Ex)
  | neg (e : Ex)
  | not (e : Ex)
  | bin (op : BOp) (a b : Ex)
  | cmp (op : COp) (a b : Ex)
  | chain (o1 o2 : COp) (a b c : Ex)
  | bool (isAnd : Bool) (es : List Ex)
  | ite (c : Tx) (a b : Ex)
  | idx (a b : Ex)
  | cut (a : Ex) (lo hi : List Ex)
  | rev (a : Ex)
  | back (h : Nat) (a : Ex)
  | revt (a : Ex)
  | call (f : Nat) (es : List Ex)
  | callv (i : Nat) (es : List Ex)
  | calll (f : Nat) (k : Nat) (cap : List Nat) (es : List Ex)
  | errl (k : Nat) (cap : List Nat) (told : Bool)
  | compb (k : IK) (es : List Ex) (tg : Tg) (ifs : List Tx) (elt : Ex) (own : List Nat)
  | bi (b : Bi) (e : Ex)
  | len (e : Ex)
  | isi (e : Ex) (c : Cls)
  | comp (k : IK) (es : List Ex) (tg : Tg) (ifs : List Tx) (elt : Ex) (own : List Nat)
  | fstr (es : List Ex)
  | fmt (e : Ex)
  | count (a b : Ex)
  | split (a b : Ex)
  | join (a b : Ex)
  | pop0 (i : Nat)
  | popl (i : Nat)
/- tests -/
inductive Tx where
  | val (e : Ex)
  | not (t : Tx)
  | bool (isAnd : Bool) (ts : List Tx)
end
inductive St where
  | set (t : Tg) (e : Ex)
  | setp (is : List Nat) (es : List Ex)
  | ret (e : Ex)
  | ifs (c : Tx) (a b : List St)
  | forr (k : IK) (es : List Ex) (tg : Tg) (body : List St)
  | whil (c : Tx) (body : List St)
  | rais (c : Nat) (x : Str)
  | append (i : Nat) (e : Ex)
  | seti (i : Nat) (a e : Ex)
  | expr (e : Ex)
  | frz (i : Nat)
  | tryx (body : List St) (h : Ex)
  | pass
structure FnC where
  ps : Nat
  ns : Nat
  body : List St
structure LamC where
  ps : List Nat
  body : Ex
/-- what a level of calls answers -/
structure Calls where
  fn : Nat → List Val → Sto → R Val
  lam : Nat → Env → List Val → Sto → R Val
  err : Bool → Nat → Env → Sto → R Val
  glob : Nat → Option D
  label : Nat → Option D

def getV (r : Env) (i : Nat) : Option Val := match r[i]? with | some (some v) => some v | _ => none
/-- a value read as data -/
def rdV (S : Sto) : Val → Option D
  | .d x => some x
  | .box n => (match S[n]? with | some (.lst xs) => some (.lst xs) | _ => none)
  | _ => none
/-- a value that a slot may take by a store: no closure -/
def slotV : Val → Bool
  | .clo _ _ => false
  | _ => true
/-- the slots that a lambda sees; one slot more, of no name -/
def keepV (r : Env) (cap : List Nat) : Env := ((List.range r.length).map fun i => if i ∈ cap then (r[i]?).join else none) ++ [none]
def R.ofO {a : Type} (x : Option a) (S : Sto) : R a := match x with | some y => .ok y S | none => .stuck
def bindD {a : Type} (x : R Val) (f : D → Sto → R a) : R a := x.bind fun v S => match rdV S v with | some y => f y S | none => .stuck
/-- plain data (no box) -/
def plainV : Val → Option D
  | .d x => some x
  | _ => none
def bindP {a : Type} (x : R Val) (f : D → Sto → R a) : R a := x.bind fun v S => match v with | .d y => f y S | _ => .stuck
def D.cls : D → Cls → Bool
  | .int _, .int => true
  | .bl _, .int => true
  | .bl _, .bool => true
  | .str _, .str => true
  | .tup _, .tuple => true
  | .lst _, .list => true
  | _, _ => false
def noFn : D → Bool
  | .fn _ => false
  | .scr _ => false
  | _ => true
def zipD : List D → List D → List D
  | [], _ => []
  | _ :: _, [] => []
  | x :: xs, y :: ys => .tup [x, y] :: zipD xs ys
def enumD (n : Int) : List D → List D
  | [] => []
  | x :: xs => .tup [.int n, x] :: enumD (n + 1) xs
def rngD (lo : Int) : Nat → List D
  | 0 => []
  | n + 1 => .int lo :: rngD (lo + 1) n
def rngOk (lo hi : Int) : Bool := decide (-(2 ^ 62) ≤ lo ∧ lo < 2 ^ 62 ∧ -(2 ^ 62) ≤ hi ∧ hi < 2 ^ 62)
def itemsD (x : D) : Option (List D) := match x with
  | .lst xs => some xs
  | .tup xs => some xs
  | .str a => some (a.cps.toList.map fun c => .str ⟨#[c]⟩)
  | _ => none
/-- the items that are walked -/
def walkD (k : IK) (xs : List D) : Option (List D) := match k with
  | .val => (match xs with | [x] => itemsD x | _ => none)
  | .range1 => (match xs with | [.int n] => if rngOk 0 n then some (rngD 0 n.toNat) else none | _ => none)
  | .range2 => (match xs with | [.int i, .int j] => if rngOk i j then some (rngD i (j - i).toNat) else none | _ => none)
  | .zip => (match xs with
    | [.lst a, .lst b] => some (zipD a b)
    | [.tup a, .tup b] => some (zipD a b)
    | _ => none)
  | .enum => (match xs with
    | [.lst a] => some (enumD 0 a)
    | _ => none)
mutual
/- a target takes a value -/
def setT : Tg → D → Env → Option Env
  | .v i, x, r => if i < r.length then some (r.set i (some (.d x))) else none
  | .t ts, x, r => (match x with | .tup xs => setTs ts xs r | _ => none)
def setTs : List Tg → List D → Env → Option Env
  | [], xs, r => (match xs with | [] => some r | _ => none)
  | t :: ts, xs, r => (match xs with | x :: xs => (setT t x r).bind (setTs ts xs) | [] => none)
end
def wipeV (r : Env) : List Nat → Env
  | [] => r
  | v :: vs => (wipeV r vs).set v none
def fmtD : D → Option Str
  | .str a => if a.length ≤ sizeMax then some a else none
  | .int i => if i.natAbs.log2 < 1920 then some (toString i) else none
  | _ => none
def splitD (x y : D) : Option D := match x with
  | .str a => (match y with
    | .str b => if (b.length == 0) = false ∧ a.length + 2 ≤ sizeMax then some (.lst ((Txt.split a b).map .str)) else none
    | _ => none)
  | _ => none
def joinD (x y : D) : Option D := match x with
  | .str a => ((seqD y).bind strsD).bind fun ys => if (ys.map (·.length)).sum + ys.length * a.length ≤ sizeMax then some (.str (Str.join a ys)) else none
  | _ => none
def countD (x y : D) : Option D := match x with
  | .lst xs => if okD 60 y && okDs 59 xs then some (.int ((xs.filter fun z => eqD z y).length)) else none
  | _ => none
/-- the turns of a comprehension, the new list at cell n: f tells of an item whether it is kept, and its value -/
def compLoop (f : D → Sto → R (Option D)) (n : Nat) : List D → Sto → R (List D)
  | [], S => (match S[n]? with | some (.lst acc) => .ok acc (S.set n .dead) | _ => .stuck)
  | x :: xs, S => (match f x S with
    | .ok none S1 => compLoop f n xs S1
    | .ok (some y) S1 => (match S1[n]? with
      | some (.lst acc) => if acc.length < sizeMax then compLoop f n xs (S1.set n (.lst (acc ++ [y]))) else .stuck
      | _ => .stuck)
    | _ => .stuck)
/-- a box n, its items -/
def boxAt (r : Env) (S : Sto) (i : Nat) : Option (Nat × List D) := match getV r i with
  | some (.box n) => (match S[n]? with | some (.lst xs) => some (n, xs) | _ => none)
  | _ => none
def optI (x : List D) : Option (Option Int) := match x with
  | [] => some none
  | [.int i] => some (some i)
  | _ => none

section
variable (C : Calls)
mutual
def evE : Ex → Env → Sto → R Val
  | .var i, r, S => .ofO (getV r i) S
  | .lit x, _, S => .ok (.d x) S
  | .fnr f, _, S => .ok (.d (.fn f)) S
  | .glob g, _, S => .ofO ((C.glob g).map .d) S
  | .tup es, r, S => (evDs es r S).bind fun xs S => .ok (.d (.tup xs)) S
  | .lst es, r, S => (evDs es r S).bind fun xs S => .ok (.d (.lst xs)) S
  | .box es, r, S => (evDs es r S).bind fun xs S => .ok (.box S.length) (S ++ [.lst xs])
  | .boxof e, r, S => bindP (evE e r S) fun x S => (match seqD x with | some xs => .ok (.box S.length) (S ++ [.lst xs]) | none => .stuck)
  | .neg e, r, S => bindP (evE e r S) fun x S => (match x with | .int i => .ok (.d (.int (-i))) S | _ => .stuck)
  | .not e, r, S => bindP (evE e r S) fun x S => (match x with | .bl b => .ok (.d (.bl (!b))) S | _ => .stuck)
  | .bin op a b, r, S => bindP (evE a r S) fun x S => bindP (evE b r S) fun y S => .ofO ((binD op x y).map .d) S
  | .cmp op a b, r, S => (evE a r S).bind fun v S => bindD (evE b r S) fun y S => (match rdV S v with | some x => .ofO ((cmpD op x y).map fun b => .d (.bl b)) S | none => .stuck)
  | .chain o1 o2 a b c, r, S => bindP (evE a r S) fun x S => bindP (evE b r S) fun y S => (match cmpD o1 x y with
    | some true => bindP (evE c r S) fun z S => .ofO ((cmpD o2 y z).map fun b => .d (.bl b)) S
    | some false => .ok (.d (.bl false)) S
    | none => .stuck)
  | .bool isAnd es, r, S => evBool isAnd es r S
  | .ite c a b, r, S => (evT c r S).bind fun t S => if t then evE a r S else evE b r S
  | .idx a b, r, S => (evE a r S).bind fun v S => bindP (evE b r S) fun y S => (match rdV S v with | some x => .ofO ((idxD x y).map .d) S | none => .stuck)
  | .cut a lo hi, r, S => bindP (evE a r S) fun x S => (evDs lo r S).bind fun l S => (match optI l with
    | none => .stuck
    | some l => (evDs hi r S).bind fun h S => (match optI h with
      | none => .stuck
      | some h => .ofO ((cutD x l h).map .d) S))
  | .rev a, r, S => bindP (evE a r S) fun x S => (match x with | .lst xs => .ok (.d (.lst xs.reverse)) S | _ => .stuck)
  | .back h a, r, S => bindP (evE a r S) fun x S => (match x with | .lst xs => .ok (.d (.lst (xs.drop (h + 1)).reverse)) S | _ => .stuck)
  | .revt a, r, S => bindP (evE a r S) fun x S => (match x with | .tup xs => .ok (.d (.tup xs.reverse)) S | _ => .stuck)
  | .call f es, r, S => (evVs es r S).bind fun vs S => C.fn f vs S
  | .callv i es, r, S => (match getV r i with
    | some (.d (.fn f)) => (evVs es r S).bind fun vs S => C.fn f vs S
    | some (.clo k q) => (evVs es r S).bind fun vs S => if vs.all slotV then C.lam k q vs S else .stuck
    | _ => .stuck)
  | .calll f k cap es, r, S => (evVs es r S).bind fun vs S => (match C.fn f (.clo k (keepV r cap) :: vs) S with
    | .ok v S => if slotV v then .ok v S else .stuck
    | _ => .stuck)
  | .errl k cap told, r, S => (match C.err told k (keepV r cap) S with
    | .ok v S => .ok v S
    | _ => .stuck)
  | .bi b e, r, S => bindP (evE e r S) fun x S => .ofO ((biD b x).map .d) S
  | .len e, r, S => bindD (evE e r S) fun x S => .ofO ((biD .len x).map .d) S
  | .isi e c, r, S => bindP (evE e r S) fun x S => if noFn x then .ok (.d (.bl (x.cls c))) S else .stuck
  | .comp k es tg ifs elt own, r, S => ((evDs es r S).bind fun xs S => .ofO (walkD k xs) S).bind fun its S => (compLoop (fun x S => (match setT tg x (wipeV r own) with
        | none => .stuck
        | some r1 => (evAnd ifs r1 S).bind fun t S => if t then bindP (evE elt r1 S) fun y S => .ok (some y) S else .ok none S)) S.length its (S ++ [.lst []])).bind fun ys S1 => .ok (.d (.lst ys)) (S1.take S.length)
  | .compb k es tg ifs elt own, r, S => ((evDs es r S).bind fun xs S => .ofO (walkD k xs) S).bind fun its S => (compLoop (fun x S => (match setT tg x (wipeV r own) with
        | none => .stuck
        | some r1 => (evAnd ifs r1 S).bind fun t S => if t then bindP (evE elt r1 S) fun y S => .ok (some y) S else .ok none S)) S.length its (S ++ [.lst []])).bind fun ys S1 => .ok (.box S.length) ((S1.take S.length) ++ [.lst ys])
  | .fstr es, r, S => (evCat es Str.empty r S).bind fun a S => .ok (.d (.str a)) S
  | .fmt e, r, S => bindP (evE e r S) fun x S => .ofO ((fmtD x).map fun a => .d (.str a)) S
  | .count a b, r, S => bindP (evE a r S) fun x S => bindP (evE b r S) fun y S => .ofO ((countD x y).map .d) S
  | .split a b, r, S => bindP (evE a r S) fun x S => (match x with
    | .str t => bindP (evE b r S) fun y S => .ofO ((splitD (.str t) y).map .d) S
    | _ => .stuck)
  | .join a b, r, S => bindP (evE a r S) fun x S => (match x with
    | .str t => bindP (evE b r S) fun y S => .ofO ((joinD (.str t) y).map .d) S
    | _ => .stuck)
  | .pop0 i, r, S => (match boxAt r S i with
    | some (n, x :: xs) => .ok (.d x) (S.set n (.lst xs))
    | _ => .stuck)
  | .popl i, r, S => (match boxAt r S i with
    | some (n, xs) => (match xs.getLast? with | some x => .ok (.d x) (S.set n (.lst xs.dropLast)) | none => .stuck)
    | _ => .stuck)
def evT : Tx → Env → Sto → R Bool
  | .val e, r, S => bindD (evE e r S) fun x S => .ofO (truD x) S
  | .not t, r, S => (evT t r S).bind fun b S => .ok (!b) S
  | .bool true ts, r, S => evAnd ts r S
  | .bool false ts, r, S => evOr ts r S
def evAnd : List Tx → Env → Sto → R Bool
  | [], _, S => .ok true S
  | t :: ts, r, S => (evT t r S).bind fun b S => if b then evAnd ts r S else .ok false S
def evOr : List Tx → Env → Sto → R Bool
  | [], _, S => .ok false S
  | t :: ts, r, S => (evT t r S).bind fun b S => if b then .ok true S else evOr ts r S
/- and, or as values: all but the last are bools -/
def evBool (isAnd : Bool) : List Ex → Env → Sto → R Val
  | [], _, _ => .stuck
  | e :: es, r, S => (match es with
    | [] => evE e r S
    | _ :: _ => bindP (evE e r S) fun x S => (match x with
      | .bl b => if b == isAnd then evBool isAnd es r S else .ok (.d (.bl b)) S
      | _ => .stuck))
def evDs : List Ex → Env → Sto → R (List D)
  | [], _, S => .ok [] S
  | e :: es, r, S => bindP (evE e r S) fun x S => (evDs es r S).bind fun xs S => .ok (x :: xs) S
/- the parts of a text, one behind the other -/
def evCat : List Ex → Str → Env → Sto → R Str
  | [], acc, _, S => .ok acc S
  | e :: es, acc, r, S => bindP (evE e r S) fun x S => (match x with
    | .str y => if (acc ++ y).length ≤ sizeMax then evCat es (acc ++ y) r S else .stuck
    | _ => .stuck)
def evVs : List Ex → Env → Sto → R (List Val)
  | [], _, S => .ok [] S
  | e :: es, r, S => (evE e r S).bind fun x S => (evVs es r S).bind fun xs S => .ok (x :: xs) S
end
end

inductive RS where
  | nx (r : Env) (S : Sto) | ret (v : Val) (S : Sto) | exc (c : Nat) (S : Sto) | stuck
def RS.of {a : Type} (x : R a) (f : a → Sto → RS) : RS := match x with
  | .ok x S => f x S
  | .exc c S => .exc c S
  | .stuck => .stuck
def RS.andThen (x : RS) (f : Env → Sto → RS) : RS := match x with
  | .nx r S => f r S
  | y => y
def loopF (f : D → Env → Sto → RS) : List D → Env → Sto → RS
  | [], r, S => .nx r S
  | x :: xs, r, S => (f x r S).andThen (loopF f xs)
def loopW (f : Env → Sto → RS) (c : Env → Sto → R Bool) : Nat → Env → Sto → RS
  | 0, _, _ => .stuck
  | n + 1, r, S => .of (c r S) fun b S => if b then (f r S).andThen (loopW f c n) else .nx r S
def whileMax : Nat := 1000000000
def setV (t : Tg) (v : Val) (r : Env) : Option Env := match t with
  | .v i => if i < r.length && slotV v then some (r.set i (some v)) else none
  | .t ts => (match v with | .d (.tup xs) => setTs ts xs r | _ => none)
def setPar : List Nat → List Val → Env → Option Env
  | [], vs, r => (match vs with | [] => some r | _ => none)
  | i :: is, vs, r => (match vs with | v :: vs => if i < r.length && slotV v then setPar is vs (r.set i (some v)) else none | [] => none)
def RS.ofO {a : Type} (x : Option a) (f : a → RS) : RS := match x with | some y => f y | none => .stuck
section
variable (C : Calls)
mutual
def evS : St → Env → Sto → RS
  | .set t e, r, S => .of (evE C e r S) fun v S => .ofO (setV t v r) fun r => .nx r S
  | .setp is es, r, S => .of (evVs C es r S) fun vs S => .ofO (setPar is vs r) fun r => .nx r S
  | .ret e, r, S => .of (evE C e r S) fun v S => .ret v S
  | .ifs c a b, r, S => .of (evT C c r S) fun t S => if t then evSs a r S else evSs b r S
  | .forr k es tg body, r, S => .of ((evDs C es r S).bind fun xs S => .ofO (walkD k xs) S) fun its S => loopF (fun x r S => .ofO (setT tg x r) fun r => evSs body r S) its r S
  | .whil c body, r, S => loopW (fun r S => evSs body r S) (fun r S => evT C c r S) whileMax r S
  | .rais c _, _, S => .exc c S
  | .append i e, r, S => .ofO (boxAt r S i) fun _ => .of (bindP (evE C e r S) fun x S => .ok x S) fun x S => .ofO (boxAt r S i) fun (n, xs) => if xs.length < sizeMax then .nx r (S.set n (.lst (xs ++ [x]))) else .stuck
  | .seti i a e, r, S => .ofO (boxAt r S i) fun _ => .of (bindP (evE C e r S) fun x S => .ok x S) fun x S => .of (bindP (evE C a r S) fun x S => .ok x S) fun y S => .ofO (boxAt r S i) fun (n, xs) => (match y with
    | .int k => .ofO (L2.ixN xs.length k) fun j => .nx r (S.set n (.lst (xs.set j x)))
    | _ => .stuck)
  | .expr e, r, S => .of (evE C e r S) fun _ S => .nx r S
  | .frz i, r, S => .ofO (boxAt r S i) fun (n, xs) => .nx (r.set i (some (.d (.lst xs)))) (S.set n .dead)
  | .tryx body h, r, S => (match evSs body r S with
    | .exc c S => .of (evE { C with glob := fun g => if g = 0 then C.label c else C.glob g } h r S) fun v S => .ret v S
    | y => y)
  | .pass, r, S => .nx r S
def evSs : List St → Env → Sto → RS
  | [], r, S => .nx r S
  | s :: ss, r, S => (evS s r S).andThen fun r S => evSs ss r S
end
end

/-! ### levels of calls -/
/-- what of the store is left when a def is left -/
def leaveV (n : Nat) (v : Val) (S : Sto) : R Val := match v with
  | .d x => .ok (.d x) (S.take n)
  | .box j => if j < n then .ok (.box j) (S.take n) else (match S[j]? with | some c => .ok (.box n) (S.take n ++ [c]) | none => .stuck)
  | .obj j => if j < n then .ok (.obj j) (S.take n) else (match S[j]? with | some c => .ok (.obj n) (S.take n ++ [c]) | none => .stuck)
  | .clo _ _ => .stuck
def leaveS (n : Nat) (x : RS) : R Val := match x with
  | .nx _ S => .ok (.d .non) (S.take n)
  | .ret v S => leaveV n v S
  | .exc c S => .exc c (S.take n)
  | .stuck => .stuck
def leaveR (n : Nat) (x : R Val) : R Val := match x with
  | .ok v S => leaveV n v S
  | .exc c S => .exc c (S.take n)
  | .stuck => .stuck
structure Prog where
  fn : Nat → Option FnC
  lam : Nat → Option LamC
  glob : Nat → Option D
  label : Nat → Option D
def setArgs : List Nat → List Val → Env → Option Env
  | [], vs, r => (match vs with | [] => some r | _ => none)
  | i :: is, vs, r => (match vs with | v :: vs => if i < r.length && slotV v then setArgs is vs (r.set i (some v)) else none | [] => none)
def runFn (C : Calls) (c : FnC) (vs : List Val) (S : Sto) : R Val :=
  if vs.length = c.ps then leaveS S.length (evSs C c.body (vs.map some ++ List.replicate (c.ns - c.ps) none) S) else .stuck
def runLam (C : Calls) (c : LamC) (r : Env) (vs : List Val) (S : Sto) : R Val := match setArgs c.ps vs r with
  | some r => leaveR S.length (evE C c.body r S)
  | none => .stuck
/-- what a def answers that calls what it got, and names the error -/
def errR (told : Bool) (label : Nat → Option D) (x : R Val) : R Val := match x with
  | .ok v S => (match v with
    | .d x => .ok (.d (if told then .tup [x, .str Str.empty] else .str Str.empty)) S
    | _ => if told then .stuck else .ok (.d (.str Str.empty)) S)
  | .exc c S => (match label c with
    | some x => .ok (.d (if told then .tup [.non, x] else x)) S
    | none => .stuck)
  | .stuck => .stuck
def calls (P : Prog) : Nat → Calls
  | 0 => ⟨fun _ _ _ => .stuck, fun _ _ _ _ => .stuck, fun _ _ _ _ => .stuck, P.glob, P.label⟩
  | n + 1 => ⟨fun f vs S => (match P.fn f with | some c => runFn (calls P n) c vs S | none => .stuck),
      fun k r vs S => (match P.lam k with | some c => runLam (calls P n) c r vs S | none => .stuck), fun told k r S => errR told P.label ((calls P n).lam k r [] S), P.glob, P.label⟩
end Ev

set_option Elab.async false
set_option linter.all false
set_option autoImplicit false
set_option maxRecDepth 100000
/-! What stands in the abstract heap for a deep value, a store, a frame; steps; answers. Own work. -/
namespace Ev
open PySem PySem.Spec PyProof.Rows L2

/-- a lambda of the text: its maker's slots, its parameters' slots, its parts -/
structure LamD where
  N : List Str
  ps : List Nat
  params : Arguments
  body : Expr
  scope : Scope
  qual : Str
/-- the names of defs, classes, constants, fields, by number -/
structure Names where
  fname : Nat → Option Str
  cname : Nat → Option Str
  gname : Nat → Option Str
  flds : Nat → List Str
  lam : Nat → Option LamD
  mkq : List (List Str × Str)
  ename : Bool → Option Str
/-- what is fixed: the program, the written part, the module's names, the tables of code objects -/
structure Dom extends Names where
  prog : Program
  w : World
  K : PySem.W.Frag
  mg : Str → Option Value
  base : Heap
  T : List (Addr × Str)

/-- a list from outside: nobody changes it -/
def SqF (K : PySem.W.Frag) (H : Hp) (a : Addr) (xs : List V) : Prop := (∃ o, H a = some (.frz o (.lst xs))) ∨ ∀ H2 : Hp, SqL K H2 a xs
theorem SqF.sqL {K : PySem.W.Frag} {H : Hp} {a : Addr} {xs : List V} (h : SqF K H a xs) : SqL K H a xs := by
  rcases h with ⟨o, h⟩ | h
  · exact .inl (.inr ⟨o, h⟩)
  · exact h H
section
variable (G : Dom)
mutual
def RepD (L : Addr → Prop) (H : Hp) : D → V → Prop
  | .non, v => v = .non
  | .bl b, v => v = .bl b
  | .int i, v => v = .int i
  | .str x, v => v = .str x
  | .lst xs, v => ∃ a vs, v = .ref a ∧ H a = some (.lst vs) ∧ ¬ L a ∧ RepDs L H xs vs
  | .tup xs, v => ∃ a vs, v = .ref a ∧ SqT G.K H a vs ∧ RepDs L H xs vs
  | .fn f, v => ∃ a x, v = .ref a ∧ G.fname f = some x ∧ G.mg x = some (.ref a)
  | .scr ns, v => ∃ a, v = .ref a ∧ SqF G.K H a (ns.map V.int)
def RepDs (L : Addr → Prop) (H : Hp) : List D → List V → Prop
  | [], vs => vs = []
  | x :: xs, vs => ∃ v r, vs = v :: r ∧ RepD L H x v ∧ RepDs L H xs r
end
end
def isTbl (o : HO) : Prop := ∃ ps, o = .tbl ps
/-- live things are lists or instances -/
def LiveOk (L : Addr → Prop) (H : Hp) : Prop := ∀ a, L a → (∃ xs, H a = some (.lst xs)) ∨ ∃ C dx fs, H a = some (.ins C dx fs)
structure Ext (L L' : Addr → Prop) (H H' : Hp) : Prop where
  keep : ∀ a o, H a = some o → ¬ L a → ¬ isTbl o → H' a = some o
  live : ∀ a, L' a → L a ∨ ∀ o, H a = some o → isTbl o
theorem Ext.refl (L : Addr → Prop) (H : Hp) : Ext L L H H := ⟨fun _ _ h _ _ => h, fun _ h => .inl h⟩
section
variable {G : Dom} {L L' L2 : Addr → Prop} {H H' H2 : Hp}
theorem Ext.trans (a : Ext L L' H H') (b : Ext L' L2 H' H2) : Ext L L2 H H2 where
  keep := fun x o e n t => by
    refine b.keep x o (a.keep x o e n t) (fun z => ?_) t
    rcases a.live x z with z | z
    · exact n z
    · exact t (z o e)
  live := fun x z => by
    rcases b.live x z with z | z
    · exact a.live x z
    · by_cases l : L x
      · exact .inl l
      · refine .inr fun o e => ?_
        by_cases t : isTbl o
        · exact t
        · exact z o (a.keep x o e l t)
theorem notTbl_lst {xs : List V} : ¬ isTbl (.lst xs) := fun ⟨_, h⟩ => by cases h
theorem notTbl_tup {xs : List V} : ¬ isTbl (.tup xs) := fun ⟨_, h⟩ => by cases h
theorem notTbl_frz {o : Obj} {u : HO} : ¬ isTbl (.frz o u) := fun ⟨_, h⟩ => by cases h
theorem LiveOk.not (k : LiveOk L H) {a : Addr} {o : HO} (e : H a = some o) (h1 : ∀ xs, o ≠ .lst xs) (h2 : ∀ C dx fs, o ≠ .ins C dx fs) : ¬ L a := fun l => by
  rcases k a l with ⟨xs, z⟩ | ⟨C, dx, fs, z⟩
  · rw [e] at z; cases z; exact h1 _ rfl
  · rw [e] at z; cases z; exact h2 _ _ _ rfl
theorem Ext.rdl (x : Ext L L' H H') {a : Addr} {vs : List V} (r : H a = some (.lst vs)) (n : ¬ L a) : H' a = some (.lst vs) ∧ ¬ L' a := by
  refine ⟨x.keep a _ r n notTbl_lst, fun z => ?_⟩
  rcases x.live a z with z | z
  · exact n z
  · exact notTbl_lst (z _ r)
theorem Ext.tup (x : Ext L L' H H') {a : Addr} {vs : List V} (k : LiveOk L H) (r : SqT G.K H a vs) : SqT G.K H' a vs := by
  rcases r with r | r
  · rcases r with r | ⟨o, r⟩
    · exact .inl (.inl (x.keep a _ r (k.not r (fun _ q => by cases q) (fun _ _ _ q => by cases q)) notTbl_tup))
    · exact .inl (.inr ⟨o, x.keep a _ r (k.not r (fun _ q => by cases q) (fun _ _ _ q => by cases q)) notTbl_frz⟩)
  · exact .inr r
mutual
theorem RepD.ext (x : Ext L L' H H') (k : LiveOk L H) : ∀ (d : D) (v : V), RepD G L H d v → RepD G L' H' d v
  | .non, _, h => h
  | .bl _, _, h => h
  | .int _, _, h => h
  | .str _, _, h => h
  | .fn _, _, h => h
  | .scr _, _, ⟨a, e, h⟩ => ⟨a, e, h.imp (fun ⟨o, h⟩ => ⟨o, x.keep a _ h (k.not h (fun _ q => by cases q) (fun _ _ _ q => by cases q)) notTbl_frz⟩) id⟩
  | .lst ds, v, h => by
    obtain ⟨a, vs, e, r, n, q⟩ := h
    obtain ⟨r', n'⟩ := x.rdl r n
    exact ⟨a, vs, e, r', n', RepDs.ext x k ds vs q⟩
  | .tup ds, v, h => by
    obtain ⟨a, vs, e, r, q⟩ := h
    exact ⟨a, vs, e, x.tup k r, RepDs.ext x k ds vs q⟩
theorem RepDs.ext (x : Ext L L' H H') (k : LiveOk L H) : ∀ (ds : List D) (vs : List V), RepDs G L H ds vs → RepDs G L' H' ds vs
  | [], _, h => h
  | d :: ds, vs, h => by
    obtain ⟨v, r, e, h1, h2⟩ := h
    exact ⟨v, r, e, RepD.ext x k d v h1, RepDs.ext x k ds r h2⟩
end
theorem RepDs.len : ∀ {ds : List D} {vs : List V}, RepDs G L H ds vs → vs.length = ds.length
  | [], vs, h => by cases (show vs = [] from h); rfl
  | d :: ds, vs, h => by
    obtain ⟨v, r, rfl, _, h2⟩ := h
    simp [RepDs.len h2]
theorem RepDs.get : ∀ {ds : List D} {vs : List V} {i : Nat} {d : D}, RepDs G L H ds vs → ds[i]? = some d → ∃ v, vs[i]? = some v ∧ RepD G L H d v
  | [], _, _, _, _, e => by simp at e
  | d :: ds, vs, 0, _, h, e => by
    obtain ⟨v, r, rfl, h1, _⟩ := h
    simp at e; subst e
    exact ⟨v, rfl, h1⟩
  | d :: ds, vs, i + 1, _, h, e => by
    obtain ⟨v, r, rfl, _, h2⟩ := h
    simp at e
    obtain ⟨w, h3, h4⟩ := RepDs.get h2 e
    exact ⟨w, by simpa using h3, h4⟩
theorem RepDs.app : ∀ {ds es : List D} {vs ws : List V}, RepDs G L H ds vs → RepDs G L H es ws → RepDs G L H (ds ++ es) (vs ++ ws)
  | [], es, vs, ws, h, g => by cases (show vs = [] from h); exact g
  | d :: ds, es, vs, ws, h, g => by
    obtain ⟨v, r, rfl, h1, h2⟩ := h
    exact ⟨v, r ++ ws, rfl, h1, RepDs.app h2 g⟩
theorem RepDs.take : ∀ {ds : List D} {vs : List V} (n : Nat), RepDs G L H ds vs → RepDs G L H (ds.take n) (vs.take n)
  | _, _, 0, _ => by simp [RepDs]
  | [], vs, n + 1, h => by cases (show vs = [] from h); simp [RepDs]
  | d :: ds, vs, n + 1, h => by
    obtain ⟨v, r, rfl, h1, h2⟩ := h
    exact ⟨v, r.take n, rfl, h1, RepDs.take n h2⟩
theorem RepDs.drop : ∀ {ds : List D} {vs : List V} (n : Nat), RepDs G L H ds vs → RepDs G L H (ds.drop n) (vs.drop n)
  | _, _, 0, h => by simpa using h
  | [], vs, n + 1, h => by cases (show vs = [] from h); simp [RepDs]
  | d :: ds, vs, n + 1, h => by
    obtain ⟨v, r, rfl, h1, h2⟩ := h
    exact RepDs.drop n h2
theorem RepDs.set : ∀ {ds : List D} {vs : List V} {d : D} {v : V} (i : Nat), RepDs G L H ds vs → RepD G L H d v → RepDs G L H (ds.set i d) (vs.set i v)
  | [], vs, _, _, _, h, _ => by cases (show vs = [] from h); simp [RepDs]
  | d :: ds, vs, _, _, 0, h, g => by
    obtain ⟨v, r, rfl, h1, h2⟩ := h
    exact ⟨_, r, rfl, g, h2⟩
  | d :: ds, vs, _, _, i + 1, h, g => by
    obtain ⟨v, r, rfl, h1, h2⟩ := h
    exact ⟨v, _, rfl, h1, RepDs.set i h2 g⟩
theorem RepDs.rev {ds : List D} {vs : List V} (h : RepDs G L H ds vs) : RepDs G L H ds.reverse vs.reverse := by
  induction ds generalizing vs with
  | nil => cases (show vs = [] from h); simp [RepDs]
  | cons d ds ih =>
    obtain ⟨v, r, rfl, h1, h2⟩ := h
    rw [List.reverse_cons, List.reverse_cons]
    exact RepDs.app (ih h2) ⟨v, [], rfl, h1, rfl⟩
theorem RepDs.rep {ds : List D} {vs : List V} (h : RepDs G L H ds vs) : ∀ n : Nat, RepDs G L H (List.replicate n ds).flatten (List.replicate n vs).flatten
  | 0 => by simp [RepDs]
  | n + 1 => by
    rw [List.replicate_succ, List.replicate_succ, List.flatten_cons, List.flatten_cons]
    exact RepDs.app h (RepDs.rep h n)
theorem RepDs.cut {ds : List D} {vs : List V} (h : RepDs G L H ds vs) (lo hi : Option Int) : RepDs G L H (cutL ds lo hi) (cutV vs lo hi) := by
  have e := RepDs.len h
  unfold cutL cutV
  rw [e]
  exact (h.drop _).take _
mutual
/-- data: what the library's equality takes -/
theorem RepD.dp : ∀ (n : Nat) (d : D) (v : V), okD n d = true → RepD G L H d v → Dp G.K H v (toPy d)
  | _, .non, v, _, h => by cases (show v = _ from h); exact .non
  | _, .bl b, v, _, h => by cases (show v = _ from h); exact .bl b
  | _, .int b, v, _, h => by cases (show v = _ from h); exact .int b
  | _, .str b, v, _, h => by cases (show v = _ from h); exact .str b
  | n, .fn _, _, o, _ => by cases n <;> simp [okD] at o
  | n, .scr _, _, o, _ => by cases n <;> simp [okD] at o
  | 0, .lst _, _, o, _ => by simp [okD] at o
  | 0, .tup _, _, o, _ => by simp [okD] at o
  | n + 1, .lst ds, v, o, h => by
    obtain ⟨a, vs, rfl, r, _, q⟩ := h
    exact .lst (.of r) (RepDs.dp n ds vs (by simpa [okD] using o) q)
  | n + 1, .tup ds, v, o, h => by
    obtain ⟨a, vs, rfl, r, q⟩ := h
    exact .tup r (RepDs.dp n ds vs (by simpa [okD] using o) q)
theorem RepDs.dp : ∀ (n : Nat) (ds : List D) (vs : List V), okDs n ds = true → RepDs G L H ds vs → DpAll G.K H vs (toPys ds)
  | _, [], vs, _, h => by cases (show vs = _ from h); exact .nil
  | n, d :: ds, vs, o, h => by
    obtain ⟨v, r, rfl, h1, h2⟩ := h
    have o' : okD n d = true ∧ okDs n ds = true := by simpa [okDs] using o
    exact .cons (RepD.dp n d v o'.1 h1) (RepDs.dp n ds r o'.2 h2)
end
end
mutual
theorem eqv_eqD : ∀ (n m : Nat) (x y : D), okD n x = true → okD m y = true → PyData.eqv (toPy x) (toPy y) = eqD x y
  | n, m, .non, y, _, o => by cases y <;> simp_all [toPy, PyData.eqv, eqD] <;> (cases m <;> simp [okD] at o)
  | n, m, .bl a, y, _, o => by cases y <;> simp_all [toPy, PyData.eqv, eqD] <;> (cases m <;> simp [okD] at o)
  | n, m, .int a, y, _, o => by cases y <;> simp_all [toPy, PyData.eqv, eqD] <;> (cases m <;> simp [okD] at o)
  | n, m, .str a, y, _, o => by cases y <;> simp_all [toPy, PyData.eqv, eqD] <;> (cases m <;> simp [okD] at o)
  | n, m, .fn a, y, o, _ => by cases n <;> simp [okD] at o
  | n, m, .scr a, y, o, _ => by cases n <;> simp [okD] at o
  | 0, m, .lst xs, y, o, _ => by simp [okD] at o
  | 0, m, .tup xs, y, o, _ => by simp [okD] at o
  | n + 1, m, .lst xs, y, o, p => by
    cases y with
    | lst ys =>
      cases m with
      | zero => simp [okD] at p
      | succ m =>
        simp only [toPy, PyData.eqv, eqD]
        exact eqvs_eqDs n m xs ys (by simpa [okD] using o) (by simpa [okD] using p)
    | fn f => cases m <;> simp [okD] at p
    | scr f => cases m <;> simp [okD] at p
    | _ => simp [toPy, PyData.eqv, eqD]
  | n + 1, m, .tup xs, y, o, p => by
    cases y with
    | tup ys =>
      cases m with
      | zero => simp [okD] at p
      | succ m =>
        simp only [toPy, PyData.eqv, eqD]
        exact eqvs_eqDs n m xs ys (by simpa [okD] using o) (by simpa [okD] using p)
    | fn f => cases m <;> simp [okD] at p
    | scr f => cases m <;> simp [okD] at p
    | _ => simp [toPy, PyData.eqv, eqD]
theorem eqvs_eqDs : ∀ (n m : Nat) (xs ys : List D), okDs n xs = true → okDs m ys = true → PyData.eqvAll (toPys xs) (toPys ys) = eqDs xs ys
  | n, m, [], ys, _, _ => by cases ys <;> simp [toPys, PyData.eqvAll, eqDs]
  | n, m, x :: xs, ys, o, p => by
    cases ys with
    | nil => simp [toPys, PyData.eqvAll, eqDs]
    | cons y ys =>
      have o' : okD n x = true ∧ okDs n xs = true := by simpa [okDs] using o
      have p' : okD m y = true ∧ okDs m ys = true := by simpa [okDs] using p
      simp only [toPys, PyData.eqvAll, eqDs]
      rw [eqv_eqD n m x y o'.1 p'.1, eqvs_eqDs n m xs ys o'.2 p'.2]
end
mutual
theorem okD_lay : ∀ (n : Nat) (d : D), okD n d = true → (toPy d).canLay0 = true ∧ (toPy d).depth ≤ n
  | _, .non, _ => by simp [toPy, PyData.canLay0, PyData.depth]
  | _, .bl _, _ => by simp [toPy, PyData.canLay0, PyData.depth]
  | _, .int _, _ => by simp [toPy, PyData.canLay0, PyData.depth]
  | n, .str x, o => by
    have o' : PyData.strOk x = true := by cases n <;> simpa [okD] using o
    simp [toPy, PyData.canLay0, PyData.depth, o']
  | n, .fn _, o => by cases n <;> simp [okD] at o
  | n, .scr _, o => by cases n <;> simp [okD] at o
  | 0, .lst _, o => by simp [okD] at o
  | 0, .tup _, o => by simp [okD] at o
  | n + 1, .lst ds, o => by
    have h := okDs_lay n ds (by simpa [okD] using o)
    simp only [toPy, PyData.canLay0, PyData.depth]
    exact ⟨h.1, by omega⟩
  | n + 1, .tup ds, o => by
    have h := okDs_lay n ds (by simpa [okD] using o)
    simp only [toPy, PyData.canLay0, PyData.depth]
    exact ⟨h.1, by omega⟩
theorem okDs_lay : ∀ (n : Nat) (ds : List D), okDs n ds = true → PyData.canLayAll0 (toPys ds) = true ∧ PyData.depthAll (toPys ds) ≤ n
  | _, [], _ => by simp [toPys, PyData.canLayAll0, PyData.depthAll]
  | n, d :: ds, o => by
    have o' : okD n d = true ∧ okDs n ds = true := by simpa [okDs] using o
    have h1 := okD_lay n d o'.1
    have h2 := okDs_lay n ds o'.2
    simp only [toPys, PyData.canLayAll0, PyData.depthAll, h1.1, h2.1]
    exact ⟨rfl, by omega⟩
end
theorem okD_shaped {n : Nat} {d : D} (o : okD n d = true) (h : n ≤ 64) : SeqAt.shaped (toPy d) = true := by
  have q := okD_lay n d o
  unfold SeqAt.shaped
  rw [q.1]
  simp
  omega
theorem any_eqv (n m : Nat) (x : D) (o : okD n x = true) : ∀ ys : List D, okDs m ys = true → ((toPys ys).any fun z => PyData.eqv z (toPy x)) = ys.any fun z => eqD z x
  | [], _ => by simp [toPys]
  | y :: ys, p => by
    have p' : okD m y = true ∧ okDs m ys = true := by simpa [okDs] using p
    simp only [toPys, List.any_cons, eqv_eqD m n y x p'.1 o, any_eqv n m x o ys p'.2]
/-- without these -/
def minus (H : Hp) (cs : List Addr) : Hp := fun a => if a ∈ cs then none else H a
theorem minus_some {H : Hp} {cs : List Addr} {a : Addr} {o : HO} (h : minus H cs a = some o) : a ∉ cs ∧ H a = some o := by
  unfold minus at h
  split at h
  · cases h
  · rename_i n; exact ⟨n, h⟩
theorem minus_of {H : Hp} {cs : List Addr} {a : Addr} {o : HO} (n : a ∉ cs) (h : H a = some o) : minus H cs a = some o := by
  unfold minus
  rw [if_neg n]
  exact h
theorem Ext.minus {L L' : Addr → Prop} {H H' : Hp} (x : Ext L L' H H') (cs : List Addr) : Ext L L' (minus H cs) (minus H' cs) where
  keep := fun a o e n t => by
    obtain ⟨n1, e1⟩ := minus_some e
    exact minus_of n1 (x.keep a o e1 n t)
  live := fun a l => by
    rcases x.live a l with h | h
    · exact .inl h
    · exact .inr fun o e => h o (minus_some e).2
/-- exactly this object stands there -/
def ObjO (a : Addr) (ob : Obj) : HO := .ext fun h => h.get? a = some ob
theorem notTbl_ext {φ : Heap → Prop} : ¬ isTbl (.ext φ) := fun ⟨_, h⟩ => by cases h
/-- these are ghosts -/
def Exts (H : Hp) (cs : List Addr) : Prop := ∀ c ∈ cs, ∃ φ, H c = some (.ext φ)
theorem LiveOk.minus {L : Addr → Prop} {H : Hp} (k : LiveOk L H) {cs : List Addr} (hc : Exts H cs) : LiveOk L (minus H cs) := fun a l => by
  have n : a ∉ cs := fun z => by
    obtain ⟨o, e⟩ := hc a z
    rcases k a l with ⟨xs, q⟩ | ⟨C, dx, fs, q⟩
    · rw [e] at q; cases q
    · rw [e] at q; cases q
  rcases k a l with ⟨xs, q⟩ | ⟨C, dx, fs, q⟩
  · exact .inl ⟨xs, minus_of n q⟩
  · exact .inr ⟨C, dx, fs, minus_of n q⟩
end Ev

set_option Elab.async false
set_option linter.all false
set_option autoImplicit false
set_option maxRecDepth 100000
/-! The store and the frame in the abstract heap; steps; answers. Own work. -/
namespace Ev
open PySem PySem.Spec PyProof.Rows L2

def Live (B : List Addr) (S : Sto) (a : Addr) : Prop := ∃ (i : Nat) (c : Cell), B[i]? = some a ∧ S[i]? = some c ∧ c ≠ Cell.dead
/-- what a cell says of its address -/
def RepC (G : Dom) (L : Addr → Prop) (H : Hp) (a : Addr) : Cell → Prop
  | .dead => True
  | .lst xs => ∃ vs, H a = some (.lst vs) ∧ RepDs G L H xs vs
  | .obj c fs => ∃ C dx vs x, G.cname c = some x ∧ G.mg x = some (.ref C) ∧ H a = some (.ins C dx ((G.flds c).zip vs)) ∧ (G.flds c).length = vs.length ∧ RepDs G L H fs vs
structure RepS (G : Dom) (B : List Addr) (S : Sto) (H : Hp) : Prop where
  len : B.length = S.length
  cell : ∀ (i : Nat) (c : Cell) (a : Addr), S[i]? = some c → B[i]? = some a → RepC G (Live B S) H a c
  nd : ∀ (i j : Nat) (c d : Cell) (a : Addr), S[i]? = some c → S[j]? = some d → c ≠ Cell.dead → d ≠ Cell.dead → B[i]? = some a → B[j]? = some a → i = j
  tabs : LamX.Tabs G.T H
structure Stp (B : List Addr) (S : Sto) (H : Hp) (B' : List Addr) (S' : Sto) (H' : Hp) : Prop where
  ext : Ext (Live B S) (Live B' S') H H'
  pre : B'.take B.length = B
theorem Stp.refl (B : List Addr) (S : Sto) (H : Hp) : Stp B S H B S H := ⟨Ext.refl _ _, by simp⟩
section
variable {G : Dom} {B B' B2 : List Addr} {S S' S2 : Sto} {H H' H2 : Hp}
theorem Stp.len (a : Stp B S H B' S' H') : B.length ≤ B'.length := by
  have h := congrArg List.length a.pre
  rw [List.length_take] at h
  omega
theorem Stp.trans (a : Stp B S H B' S' H') (b : Stp B' S' H' B2 S2 H2) : Stp B S H B2 S2 H2 := by
  refine ⟨a.ext.trans b.ext, ?_⟩
  have h1 := a.len
  have h2 := b.len
  have e1 := a.pre
  have e2 := b.pre
  rw [← e2, List.take_take, Nat.min_eq_left h1] at e1
  exact e1
theorem Stp.get (a : Stp B S H B' S' H') {n : Nat} {x : Addr} (h : B[n]? = some x) : B'[n]? = some x := by
  have hl : n < B.length := (List.getElem?_eq_some_iff.mp h).1
  rw [← a.pre, List.getElem?_take_of_lt hl] at h
  exact h
theorem RepS.liveOk (r : RepS G B S H) : LiveOk (Live B S) H := fun a ⟨i, c, e1, e2, e3⟩ => by
  have h := r.cell i c a e2 e1
  cases c with
  | dead => exact absurd rfl e3
  | lst xs => obtain ⟨vs, h, _⟩ := h; exact .inl ⟨vs, h⟩
  | obj c fs => obtain ⟨C, dx, vs, _, _, _, h, _⟩ := h; exact .inr ⟨C, dx, _, h⟩

end
mutual
/-- what stands for a value -/
def RepV (G : Dom) (B : List Addr) (S : Sto) : Hp → Val → V → Prop
  | H, .d x, v => RepD G (Live B S) H x v
  | _, .box n, v => ∃ a, v = .ref a ∧ B[n]? = some a
  | _, .obj n, v => ∃ a, v = .ref a ∧ B[n]? = some a
  | H, .clo k r, v => ∃ f c' clo LD pm ctv σ0, v = .ref f ∧ G.lam k = some LD ∧ H f = some (ObjO f (PySem.W.kla_obj "<lambda>" LD.qual LD.params LD.body LD.scope clo pm c' ctv)) ∧ H c' = some (LamX.CodeO c' LD.qual) ∧
      (∀ (x y : Str) (c : Addr), clo.lookup x = some c → clo.lookup y = some c → x = y) ∧
      (∀ p ∈ clo, ∃ ob w, H p.2 = some (ObjO p.2 ob) ∧ ob.data = .cell w ∧ ∀ (i : Nat) (u : V), LD.N[i]? = some p.1 → σ0[i]? = some (some u) → ∃ z, w = some z ∧ RelV u z) ∧
      σ0.length = LD.N.length ∧ (∀ y, LD.scope.names.lookup y = some .free → ∃ c, clo.lookup y = some c) ∧ RepL G B S (minus H (clo.map (·.2))) r σ0
/-- what stands for a frame's values -/
def RepL (G : Dom) (B : List Addr) (S : Sto) : Hp → List (Option Val) → List (Option V) → Prop
  | _, [], us => us = []
  | H, o :: r, us => ∃ u us', us = u :: us' ∧ (match o with | none => True | some w => ∃ v, u = some v ∧ RepV G B S H w v) ∧ RepL G B S H r us'
end
section
variable {G : Dom} {B B' B2 : List Addr} {S S' S2 : Sto} {H H' H2 : Hp}
theorem cells_minus {clo : List (Str × Addr)} {Pr : Str × Addr → Obj → Option Value → Prop} (h : ∀ p ∈ clo, ∃ ob w, H p.2 = some (ObjO p.2 ob) ∧ Pr p ob w) : Exts H (clo.map (·.2)) := fun c hc => by
  obtain ⟨p, hp, rfl⟩ := List.mem_map.mp hc
  obtain ⟨ob, w, e, _⟩ := h p hp
  exact ⟨_, e⟩
theorem liveOk_not {L : Addr → Prop} {H : Hp} (k : LiveOk L H) {a : Addr} {φ : Heap → Prop} (e : H a = some (.ext φ)) : ¬ L a := k.not e (fun _ q => by cases q) (fun _ _ _ q => by cases q)
mutual
theorem RepV.ext (pre : ∀ (n : Nat) (a : Addr), B[n]? = some a → B'[n]? = some a) : ∀ {H H' : Hp} (x : Val) (v : V), Ext (Live B S) (Live B' S') H H' → LiveOk (Live B S) H → RepV G B S H x v → RepV G B' S' H' x v
  | H, H', .d x, v, xt, k, h => by
    unfold RepV at h ⊢
    exact RepD.ext xt k x v h
  | H, H', .box n, v, xt, k, h => by
    unfold RepV at h ⊢
    obtain ⟨c, e, h⟩ := h
    exact ⟨c, e, pre _ _ h⟩
  | H, H', .obj n, v, xt, k, h => by
    unfold RepV at h ⊢
    obtain ⟨c, e, h⟩ := h
    exact ⟨c, e, pre _ _ h⟩
  | H, H', .clo q r, v, xt, k, h => by
    unfold RepV at h ⊢
    obtain ⟨f, c', clo, LD, pm, ctv, σ0, e, h1, h2, h3, h4, h5, h6, h7, h8⟩ := h
    exact ⟨f, c', clo, LD, pm, ctv, σ0, e, h1, xt.keep _ _ h2 (liveOk_not k h2) notTbl_ext, xt.keep _ _ h3 (liveOk_not k h3) notTbl_ext, h4,
      fun p hp => by obtain ⟨ob, w, e, q⟩ := h5 p hp; exact ⟨ob, w, xt.keep _ _ e (liveOk_not k e) notTbl_ext, q⟩, h6, h7,
      RepL.ext pre r σ0 (xt.minus _) (k.minus (cells_minus h5)) h8⟩
theorem RepL.ext (pre : ∀ (n : Nat) (a : Addr), B[n]? = some a → B'[n]? = some a) : ∀ {H H' : Hp} (r : List (Option Val)) (us : List (Option V)), Ext (Live B S) (Live B' S') H H' → LiveOk (Live B S) H → RepL G B S H r us → RepL G B' S' H' r us
  | H, H', [], us, xt, k, h => by
    unfold RepL at h ⊢
    exact h
  | H, H', o :: r, us, xt, k, h => by
    unfold RepL at h ⊢
    obtain ⟨u, us', e, h1, h2⟩ := h
    refine ⟨u, us', e, ?_, RepL.ext pre r us' xt k h2⟩
    cases o with
    | none => trivial
    | some w =>
      obtain ⟨v, e1, h3⟩ := h1
      exact ⟨v, e1, RepV.ext pre w v xt k h3⟩
end
theorem RepV.stp (a : Stp B S H B' S' H') (r : RepS G B S H) {x : Val} {v : V} (h : RepV G B S H x v) : RepV G B' S' H' x v :=
  RepV.ext (fun _ _ => a.get) x v a.ext r.liveOk h
theorem repV_d {x : D} {v : V} : RepV G B S H (.d x) v ↔ RepD G (Live B S) H x v := by
  unfold RepV
  exact Iff.rfl
theorem repV_box {n : Nat} {v : V} : RepV G B S H (.box n) v ↔ ∃ a, v = .ref a ∧ B[n]? = some a := by
  unfold RepV
  exact Iff.rfl
end
section
variable {G : Dom} {B B' B2 : List Addr} {S S' S2 : Sto} {H H' H2 : Hp}
structure RepE (G : Dom) (B : List Addr) (S : Sto) (H : Hp) (σ : L2.St) (r : Env) : Prop where
  len : r.length = σ.length
  at_ : ∀ (i : Nat) (v : Val), r[i]? = some (some v) → ∃ u, σ[i]? = some (some u) ∧ RepV G B S H v u
theorem RepE.stp {σ : L2.St} {r : Env} (a : Stp B S H B' S' H') (s : RepS G B S H) (e : RepE G B S H σ r) : RepE G B' S' H' σ r :=
  ⟨e.len, fun i v h => by
    obtain ⟨u, h1, h2⟩ := e.at_ i v h
    exact ⟨u, h1, h2.stp a s⟩⟩
theorem RepE.get {σ : L2.St} {r : Env} (e : RepE G B S H σ r) {i : Nat} {v : Val} (h : getV r i = some v) : ∃ u, σ[i]? = some (some u) ∧ RepV G B S H v u := by
  unfold getV at h
  split at h
  · rename_i v' q
    cases h
    exact e.at_ i _ q
  · cases h

/-! ### answers -/
/-- W: what is wanted of an error -/
def Ans {α : Type} (G : Dom) (W : WX) (σ : L2.St) (x : R α) (B : List Addr) (S : Sto) (H : Hp) (P : α → List Addr → Sto → Hp → Prop) : Prop :=
  match x with
  | .ok a S' => ∀ B' H', Stp B S H B' S' H' → RepS G B' S' H' → P a B' S' H'
  | .exc c S' => ∀ B' H', Stp B S H B' S' H' → RepS G B' S' H' → ∀ x C, G.cname c = some x → G.mg x = some (.ref C) → W (.ref C) none σ H'
  | .stuck => False
variable {α β : Type} {W : WX} {σ : L2.St}
theorem Ans.bind {x : R α} {f : α → Sto → R β} {P : β → List Addr → Sto → Hp → Prop} (h : Ans G W σ (x.bind f) B S H P) :
    Ans G W σ x B S H fun a B1 S1 H1 => Ans G W σ (f a S1) B1 S1 H1 P := by
  cases x with
  | ok a S1 =>
    intro B1 H1 s1 r1
    have h' : Ans G W σ (f a S1) B S H P := h
    unfold Ans at h' ⊢
    cases e : f a S1 with
    | ok b S2 => rw [e] at h'; exact fun B2 H2 s2 r2 => h' B2 H2 (s1.trans s2) r2
    | exc c S2 => rw [e] at h'; exact fun B2 H2 s2 r2 => h' B2 H2 (s1.trans s2) r2
    | stuck => rw [e] at h'; exact h'
  | exc c S1 => exact h
  | stuck => exact h
theorem Ans.mono {x : R α} {P Q : α → List Addr → Sto → Hp → Prop} (h : Ans G W σ x B S H P) (k : ∀ a B' S' H', Stp B S H B' S' H' → RepS G B' S' H' → P a B' S' H' → Q a B' S' H') : Ans G W σ x B S H Q := by
  cases x with
  | ok a S1 => exact fun B1 H1 s1 r1 => k a B1 S1 H1 s1 r1 (h B1 H1 s1 r1)
  | exc c S1 => exact h
  | stuck => exact h
theorem Ans.done {a : α} {P : α → List Addr → Sto → Hp → Prop} (h : Ans G W σ (.ok a S) B S H P) (r : RepS G B S H) : P a B S H := h B H (Stp.refl _ _ _) r
theorem Ans.ok {a : α} {P : α → List Addr → Sto → Hp → Prop} (h : Ans G W σ (.ok a S') B S H P) {B' : List Addr} {H' : Hp} (s : Stp B S H B' S' H') (r : RepS G B' S' H') : P a B' S' H' := h B' H' s r
theorem Ans.ofO {x : Option α} {P : α → List Addr → Sto → Hp → Prop} (h : Ans G W σ (.ofO x S) B S H P) : ∃ a, x = some a ∧ Ans G W σ (.ok a S) B S H P := by
  cases x with
  | none => exact h.elim
  | some a => exact ⟨a, rfl, h⟩
theorem Ans.bindP {x : R Val} {f : D → Sto → R β} {P : β → List Addr → Sto → Hp → Prop} (h : Ans G W σ (Ev.bindP x f) B S H P) :
    Ans G W σ x B S H fun v B1 S1 H1 => ∃ d, v = .d d ∧ Ans G W σ (f d S1) B1 S1 H1 P := by
  refine (Ans.bind (x := x) h).mono fun v B' S' H' _ _ q => ?_
  cases v with
  | d x => exact ⟨x, rfl, q⟩
  | _ => exact q.elim
theorem Ans.bindD {x : R Val} {f : D → Sto → R β} {P : β → List Addr → Sto → Hp → Prop} (h : Ans G W σ (Ev.bindD x f) B S H P) :
    Ans G W σ x B S H fun v B1 S1 H1 => ∃ d, rdV S1 v = some d ∧ Ans G W σ (f d S1) B1 S1 H1 P := by
  refine (Ans.bind (x := x) h).mono fun v B' S' H' _ _ q => ?_
  cases e : rdV S' v with
  | some d => rw [e] at q; exact ⟨d, rfl, q⟩
  | none => rw [e] at q; exact q.elim
/-- what is tracked has grown -/
theorem RepS.grow (r : RepS G B S H) (g : ∀ b o, H b = some o → H' b = some o) : RepS G B S H' := by
  have x : Ext (Live B S) (Live B S) H H' := ⟨fun a o e _ _ => g a o e, fun _ h => .inl h⟩
  refine ⟨r.len, fun i c a e1 e2 => ?_, r.nd, r.tabs.ext g⟩
  have h := r.cell i c a e1 e2
  cases c with
  | dead => exact h
  | lst xs => obtain ⟨vs, h1, h2⟩ := h; exact ⟨vs, g _ _ h1, RepDs.ext x r.liveOk _ _ h2⟩
  | obj c fs => obtain ⟨C, dx, vs, y, h0, h1, h2, h3, h4⟩ := h; exact ⟨C, dx, vs, y, h0, h1, g _ _ h2, h3, RepDs.ext x r.liveOk _ _ h4⟩
theorem Stp.grow (g : ∀ b o, H b = some o → H' b = some o) : Stp B S H B S H' := ⟨⟨fun a o e _ _ => g a o e, fun _ h => .inl h⟩, by simp⟩
/-- what an expression, a test, an argument list answers, as a reading -/
def tE (G : Dom) (W : WX) (m : Env → Sto → R Val) : TE := fun σ H Q => ∃ r S B, RepE G B S H σ r ∧ RepS G B S H ∧ Ans G W σ (m r S) B S H fun v B' S' H' => ∀ u, RepV G B' S' H' v u → Q u H'
def tT (G : Dom) (W : WX) (m : Env → Sto → R Bool) : TT := fun σ H Q => ∃ r S B, RepE G B S H σ r ∧ RepS G B S H ∧ Ans G W σ (m r S) B S H fun b _ _ H' => Q b H'
def RepVs (G : Dom) (B : List Addr) (S : Sto) (H : Hp) : List Val → List V → Prop
  | [], us => us = []
  | v :: vs, us => ∃ u r, us = u :: r ∧ RepV G B S H v u ∧ RepVs G B S H vs r
def tA (G : Dom) (W : WX) (m : Env → Sto → R (List Val)) : TA := fun σ H Q => ∃ r S B, RepE G B S H σ r ∧ RepS G B S H ∧ Ans G W σ (m r S) B S H fun vs B' S' H' => ∀ us, RepVs G B' S' H' vs us → Q us H'
def tD (G : Dom) (W : WX) (m : Env → Sto → R (List D)) : TA := fun σ H Q => ∃ r S B, RepE G B S H σ r ∧ RepS G B S H ∧ Ans G W σ (m r S) B S H fun vs B' S' H' => ∀ us, RepDs G (Live B' S') H' vs us → Q us H'
theorem RepVs.stp (a : Stp B S H B' S' H') (r : RepS G B S H) : ∀ {xs : List Val} {vs : List V}, RepVs G B S H xs vs → RepVs G B' S' H' xs vs
  | [], _, h => h
  | x :: xs, vs, h => by
    obtain ⟨u, us, e, h1, h2⟩ := h
    exact ⟨u, us, e, h1.stp a r, h2.stp a r⟩
theorem RepVs.len : ∀ {xs : List Val} {vs : List V}, RepVs G B S H xs vs → vs.length = xs.length
  | [], vs, h => by cases (show vs = [] from h); rfl
  | x :: xs, vs, h => by
    obtain ⟨u, us, rfl, _, h2⟩ := h
    simp [RepVs.len h2]
theorem RepD.stp (a : Stp B S H B' S' H') (r : RepS G B S H) {x : D} {v : V} (h : RepD G (Live B S) H x v) : RepD G (Live B' S') H' x v := RepD.ext a.ext r.liveOk x v h
theorem RepDs.stp (a : Stp B S H B' S' H') (r : RepS G B S H) {x : List D} {v : List V} (h : RepDs G (Live B S) H x v) : RepDs G (Live B' S') H' x v := RepDs.ext a.ext r.liveOk x v h
end
end Ev

set_option Elab.async false
set_option linter.all false
set_option autoImplicit false
set_option maxRecDepth 100000
set_option maxHeartbeats 4000000
/-! A tuple times 1, times 0 or less. Own work. -/
namespace Ev
open PySem PySem.Spec PyProof.Rows L2
theorem tuple_mul1 (l : Addr) (items : Array Value) (n : Nat) (dd : Option Addr) (sl : Array (Option Value)) (u : Tok) :
    Meets (Builtin.«tuple.__mul__» ⟨[.ref l, .int 1 u], []⟩) (fun _ R s => s.heap.get? l = some { cls := .type "tuple", dict := dd, data := .seq items n, slots := sl } ∧ R (.ok (.ret (Value.ref l))) s) :=
  .of_wp fun prog w A R s h => by
    obtain ⟨hp, g, d, tk, os⟩ := s
    obtain ⟨hl, h⟩ := h
    have f1 := AutoSeq1.idx_int
    have c0 : (decide ((1 : Int) < -(2 ^ 63)) || decide ((1 : Int) ≥ 2 ^ 63)) = false := by decide
    have c1 : (items.isEmpty || ((1 : Int) == 1)) = true := by simp
    wp_walk using wpAny_loadPart' hl
    repeat (first
      | (refine wpAny_ite_false (decide_eq_false (by rw [c0]; exact Bool.false_ne_true)) ?_; wp_walk using wpAny_loadPart' hl)
      | (refine wpAny_ite_true (decide_eq_true c1) ?_; wp_walk using wpAny_loadPart' hl))
    exact ⟨_, rfl, h⟩
theorem tuple_mul0 (l : Addr) (items : Array Value) (n : Nat) (dd : Option Addr) (sl : Array (Option Value)) (x : Int) (u : Tok) (c0 : (decide (x < -(2 ^ 63)) || decide (x ≥ 2 ^ 63)) = false) (c1 : (items.isEmpty || x == 1) = false) (c2 : (decide (x ≤ 0) || items.isEmpty) = true) :
    Meets (Builtin.«tuple.__mul__» ⟨[.ref l, .int x u], []⟩) (fun _ R s => s.heap.get? l = some { cls := .type "tuple", dict := dd, data := .seq items n, slots := sl } ∧
      R (.ok (.ret (Value.ref s.heap.objs.size))) { s with heap := s.heap.push { cls := Value.type "tuple", data := Data.seq #[] }, toks := s.toks }) :=
  .of_wp fun prog w A R s h => by
    obtain ⟨hp, g, d, tk, os⟩ := s
    obtain ⟨hl, h⟩ := h
    have f1 := AutoSeq1.idx_int
    wp_walk using wpAny_loadPart' hl
    repeat (first
      | (refine wpAny_ite_false (decide_eq_false (by rw [c0]; exact Bool.false_ne_true)) ?_; wp_walk using wpAny_loadPart' hl)
      | (refine wpAny_ite_false (decide_eq_false (by rw [c1]; exact Bool.false_ne_true)) ?_; wp_walk using wpAny_loadPart' hl)
      | (refine wpAny_ite_true (decide_eq_true c2) ?_; wp_walk using wpAny_loadPart' hl)
      | (refine wpAny_ite_false (decide_eq_false (Nat.not_lt.mpr (Nat.zero_le _))) ?_; wp_walk using wpAny_loadPart' hl))
    exact ⟨_, rfl, h⟩
section
variable {X : Cx}
/-- once -/
theorem op_repT1 : OpR X (binaryOp .Mult) (fun x y H Q => ∃ l xs, x = .ref l ∧ y = .int 1 ∧ SqT X.K H l xs ∧ Q (.ref l) H) := by
  intro pins s σ H x y v u Q I rx ry h
  obtain ⟨l, xs, rfl, rfl, hT, q⟩ := h
  cases rx
  obtain ⟨t, rfl⟩ := ry
  obtain ⟨its, r, ⟨⟨cls, dd, data, sl⟩, ho, hc, n, hd⟩, hs⟩ := I.tuple hT
  simp only at hc hd
  subst hc hd
  refine wpAny_binaryOp_repeat_ref (T := "tuple") (U := "int") (by decide) ⟨_, ho, rfl⟩ (fun s' => typeIs_int s' 1 t) noFill_tuple_mul F.fills_int_mul F.slot_int_rmul repeat_tuple F.slot_int_index.lookup
    (call_meets F.slot_int_rmul (typeIs_int s 1 t) F.entry_int_rmul (F.args_int_rmul_2 _ _) (int_rmul_tuple 1 t l its.toArray n dd sl)
      ⟨ho, rfl, ⟨_, ho, rfl⟩, call_meets F.slot_tuple_mul ⟨_, ho, rfl⟩ F.entry_tuple_mul (F.args_tuple_mul_2 _ _) (tuple_mul1 l its.toArray n dd sl t) ⟨ho, ?_⟩⟩)
  exact ⟨.ref l, H, I, rfl, q⟩
/-- no more than 0 times -/
theorem op_repT0 : OpR X (binaryOp .Mult) (fun x y H Q => ∃ l k xs, x = .ref l ∧ y = .int k ∧ SqT X.K H l xs ∧ xs ≠ [] ∧ -1000 ≤ k ∧ k ≤ 0 ∧ ∀ p, H p = none → Q (.ref p) (upd H p (.tup []))) := by
  intro pins s σ H x y v u Q I rx ry h
  obtain ⟨l, k, xs, rfl, rfl, hT, hne, h1, h2, q⟩ := h
  cases rx
  obtain ⟨t, rfl⟩ := ry
  obtain ⟨its, r, ⟨⟨cls, dd, data, sl⟩, ho, hc, n, hd⟩, hs⟩ := I.tuple hT
  simp only at hc hd
  subst hc hd
  have hi : its.toArray.isEmpty = false := by
    cases its with
    | nil => exact absurd (List.eq_nil_of_length_eq_zero r.length) hne
    | cons a b => rfl
  have c0 : (decide (k < -(2 ^ 63)) || decide (k ≥ 2 ^ 63)) = false := by
    rw [decide_eq_false (by omega), decide_eq_false (by omega)] <;> rfl
  have c1 : (its.toArray.isEmpty || k == 1) = false := by
    rw [hi, Bool.false_or]
    exact beq_eq_false_iff_ne.mpr (by omega)
  have c2 : (decide (k ≤ 0) || its.toArray.isEmpty) = true := by
    rw [decide_eq_true h2] <;> rfl
  refine wpAny_binaryOp_repeat_ref (T := "tuple") (U := "int") (by decide) ⟨_, ho, rfl⟩ (fun s' => typeIs_int s' k t) noFill_tuple_mul F.fills_int_mul F.slot_int_rmul repeat_tuple F.slot_int_index.lookup
    (call_meets F.slot_int_rmul (typeIs_int s k t) F.entry_int_rmul (F.args_int_rmul_2 _ _) (int_rmul_tuple k t l its.toArray n dd sl)
      ⟨ho, rfl, ⟨_, ho, rfl⟩, call_meets F.slot_tuple_mul ⟨_, ho, rfl⟩ F.entry_tuple_mul (F.args_tuple_mul_2 _ _) (tuple_mul0 l its.toArray n dd sl k t c0 c1 c2) ⟨ho, ?_⟩⟩)
  refine ⟨.ref s.heap.objs.size, _, I.laid (t' := s.toks) (o := .tup []) (fun b ob q => Heap.get?_push_of_some _ q) (Nat.le_refl _) ?_, rfl, q _ (I.hok.fresh (Nat.le_refl _))⟩
  exact ⟨Nat.zero_le _, _, .nil, IsTup.new _ _⟩
end
end Ev

set_option Elab.async false
set_option linter.all false
set_option autoImplicit false
set_option maxRecDepth 100000
/-! Operators, comparisons, subscripts over deep values, by the layer's rules. Own work. -/
namespace Ev
open PySem PySem.Spec PyProof.Rows L2

/-- the heap grew -/
def Grow (H H' : Hp) : Prop := ∀ b o, H b = some o → H' b = some o
theorem Grow.refl (H : Hp) : Grow H H := fun _ _ h => h
theorem Grow.new {H : Hp} {p : Addr} {o : HO} (h : H p = none) : Grow H (upd H p o) := fun b u e => by rw [upd_ne (ne_of_none e h)]; exact e
theorem Grow.ext {H H' : Hp} (g : Grow H H') (L : Addr → Prop) : Ext L L H H' := ⟨fun a o e _ _ => g a o e, fun a h => .inl h⟩
/-- a value is handed on in a heap that has grown -/
def Gives (G : Dom) (L : Addr → Prop) (H : Hp) (z : D) (Q : VK) : Prop := ∀ v H', Grow H H' → RepD G L H' z v → Q v H'
section
variable {G : Dom} {L : Addr → Prop} {H : Hp} {Q : VK}
theorem Gives.int {i : Int} (h : Gives G L H (.int i) Q) : Q (.int i) H := h _ _ (Grow.refl _) rfl
theorem Gives.bl {i : Bool} (h : Gives G L H (.bl i) Q) : Q (.bl i) H := h _ _ (Grow.refl _) rfl
theorem Gives.str {i : Str} (h : Gives G L H (.str i) Q) : Q (.str i) H := h _ _ (Grow.refl _) rfl
theorem Gives.here {z : D} {v : V} (h : Gives G L H z Q) (r : RepD G L H z v) : Q v H := h _ _ (Grow.refl _) r
theorem LiveOk.fresh (k : LiveOk L H) {p : Addr} (h : H p = none) : ¬ L p := fun l => by
  rcases k p l with ⟨xs, z⟩ | ⟨C, dx, fs, z⟩ <;> (rw [h] at z; cases z)
theorem Gives.lst {zs : List D} {vs : List V} (h : Gives G L H (.lst zs) Q) (k : LiveOk L H) (r : RepDs G L H zs vs) {p : Addr} (e : H p = none) : Q (.ref p) (upd H p (.lst vs)) :=
  h _ _ (Grow.new e) ⟨p, vs, rfl, upd_same, k.fresh e, RepDs.ext ((Grow.new e).ext L) k zs vs r⟩
theorem Gives.tup {zs : List D} {vs : List V} (h : Gives G L H (.tup zs) Q) (k : LiveOk L H) (r : RepDs G L H zs vs) {p : Addr} (e : H p = none) : Q (.ref p) (upd H p (.tup vs)) :=
  h _ _ (Grow.new e) ⟨p, vs, rfl, .of upd_same, RepDs.ext ((Grow.new e).ext L) k zs vs r⟩
end
/-- a two-place operation on data -/
def rOp (G : Dom) (f : D → D → Option D) : R2 := fun x y H Q => ∃ L dx dy dz, LiveOk L H ∧ RepD G L H dx x ∧ RepD G L H dy y ∧ f dx dy = some dz ∧ Gives G L H dz Q
def pyB : BOp → Operator
  | .add => .Add | .sub => .Sub | .mul => .Mult | .fdiv => .FloorDiv | .mod => .Mod | .pow => .Pow
theorem sizeMax_eq : sizeMax = sizeLine := by rw [sizeLine_eq]; rfl
section
variable {X : Cx} {G : Dom} {L : Addr → Prop} {H : Hp}
theorem RepDs.nil_iff {zs : List D} {vs : List V} (r : RepDs G L H zs vs) : vs = [] ↔ zs = [] := by
  have e := RepDs.len r
  constructor
  · intro h; subst h; exact List.eq_nil_of_length_eq_zero e.symm
  · intro h; subst h; exact List.eq_nil_of_length_eq_zero e
theorem op_add_D (hK : X.K = G.K) : OpR X (binaryOp .Add) (rOp G (binD .add)) := by
  intro pins s σ H x y v u Q I rx ry ⟨L, dx, dy, dz, lo, hx, hy, e, k⟩
  cases dx with
  | int i =>
    cases dy <;> simp [binD] at e
    subst e
    cases (show x = _ from hx); cases (show y = _ from hy)
    exact op_add pins s σ H _ _ v u Q I rx ry ⟨_, _, rfl, rfl, k.int⟩
  | bl b =>
    cases dy <;> simp [binD] at e
    subst e
    cases (show x = _ from hx); cases (show y = _ from hy)
    cases rx
    obtain ⟨t', rfl⟩ := ry
    exact PySem.IntBool.add_bool_int ⟨.int _, H, I.tok _, ⟨_, rfl⟩, k.int⟩
  | str i =>
    cases dy <;> simp [binD] at e
    obtain ⟨hz, e⟩ := e
    subst e
    cases (show x = _ from hx); cases (show y = _ from hy)
    exact op_add_str pins s σ H _ _ v u Q I rx ry ⟨_, _, rfl, rfl, by rw [← sizeMax_eq]; exact hz, k.str⟩
  | lst xs =>
    cases dy <;> simp [binD] at e
    rename_i ys
    obtain ⟨hz, e⟩ := e
    subst e
    obtain ⟨a, vs, rfl, h1, n1, r1⟩ := hx
    obtain ⟨b, ws, rfl, h2, n2, r2⟩ := hy
    refine op_cat pins s σ H _ _ v u Q I rx ry ⟨a, b, vs, ws, rfl, rfl, h1, h2, ?_, fun p hp => ?_⟩
    · rw [RepDs.len r1, RepDs.len r2, ← sizeMax_eq]; exact hz
    · exact k.lst lo (r1.app r2) hp
  | tup xs =>
    cases dy <;> simp [binD] at e
    rename_i ys
    obtain ⟨hz, e⟩ := e
    subst e
    obtain ⟨a, vs, rfl, h1, r1⟩ := hx
    obtain ⟨b, ws, rfl, h2, r2⟩ := hy
    refine op_catA pins s σ H _ _ v u Q I rx ry ⟨a, b, vs, ws, rfl, rfl, by rw [hK]; exact h1, by rw [hK]; exact h2, ?_, fun q => ?_, fun q q' => ?_, fun q q' p hp => ?_⟩
    · rw [RepDs.len r1, RepDs.len r2, ← sizeMax_eq]; exact hz
    · have e0 := (r1.nil_iff).mp q
      subst e0
      exact k.here ⟨b, ws, rfl, h2, r2⟩
    · have e0 := (r2.nil_iff).mp q'
      subst e0
      rw [List.append_nil] at k
      exact k.here ⟨a, vs, rfl, h1, r1⟩
    · exact k.tup lo (r1.app r2) hp
  | _ => simp [binD] at e
theorem op_sub_D : OpR X (binaryOp .Sub) (rOp G (binD .sub)) := by
  intro pins s σ H x y v u Q I rx ry ⟨L, dx, dy, dz, lo, hx, hy, e, k⟩
  cases dx with
  | int i =>
    cases dy <;> simp [binD] at e
    subst e
    cases (show x = _ from hx); cases (show y = _ from hy)
    exact op_sub pins s σ H _ _ v u Q I rx ry ⟨_, _, rfl, rfl, k.int⟩
  | bl b =>
    cases dy <;> simp [binD] at e
    subst e
    cases (show x = _ from hx); cases (show y = _ from hy)
    cases rx
    obtain ⟨t', rfl⟩ := ry
    exact PySem.IntBool.sub_bool_int ⟨.int _, H, I.tok _, ⟨_, rfl⟩, k.int⟩
  | _ => simp [binD] at e
theorem op_mul_D (hK : X.K = G.K) : OpR X (binaryOp .Mult) (rOp G (binD .mul)) := by
  intro pins s σ H x y v u Q I rx ry ⟨L, dx, dy, dz, lo, hx, hy, e, k⟩
  cases dx with
  | int i =>
    cases dy <;> simp [binD] at e
    obtain ⟨hz, e⟩ := e
    subst e
    cases (show x = _ from hx); cases (show y = _ from hy)
    exact op_mulW pins s σ H _ _ v u Q I rx ry ⟨_, _, rfl, rfl, by simpa [mulOk, CMulW] using hz, k.int⟩
  | lst xs =>
    cases dy <;> simp [binD] at e
    rename_i j
    obtain ⟨⟨h0, h1, hz⟩, e⟩ := e
    subst e
    obtain ⟨a, vs, rfl, h2, n1, r1⟩ := hx
    cases (show y = _ from hy)
    refine op_rep pins s σ H _ _ v u Q I rx ry ⟨a, j, vs, rfl, rfl, h2, by omega, by omega, ?_, fun p hp => ?_⟩
    · rw [RepDs.len r1, sizeLine_eq]
      have a1 : xs.length * j.toNat ≤ 1000 * 1000 := Nat.mul_le_mul hz (by omega)
      omega
    · exact k.lst lo (r1.rep _) hp
  | tup xs =>
    cases dy <;> simp [binD] at e
    rename_i j
    obtain ⟨⟨h0, h1, hz, hne⟩, e⟩ := e
    subst e
    obtain ⟨a, vs, rfl, h2, r1⟩ := hx
    cases (show y = _ from hy)
    have hv : vs ≠ [] := fun q => hne (r1.nil_iff.mp q)
    by_cases j0 : j ≤ 0
    · have e0 : j.toNat = 0 := by omega
      rw [e0] at k
      exact op_repT0 pins s σ H _ _ v u Q I rx ry ⟨a, j, vs, rfl, rfl, by rw [hK]; exact h2, hv, h0, j0, fun p hp => k.tup lo rfl hp⟩
    by_cases j1 : j = 1
    · subst j1
      have e1 : (List.replicate (1 : Int).toNat xs).flatten = xs := by simp [List.replicate_succ]
      rw [e1] at k
      exact op_repT1 pins s σ H _ _ v u Q I rx ry ⟨a, vs, rfl, rfl, by rw [hK]; exact h2, k _ _ (fun _ _ e => e) ⟨a, vs, rfl, h2, r1⟩⟩
    refine op_repT pins s σ H _ _ v u Q I rx ry ⟨a, j, vs, rfl, rfl, by rw [hK]; exact h2, hv, by omega, h1, by rw [RepDs.len r1]; exact hz, fun p hp => ?_⟩
    exact k.tup lo (r1.rep _) hp
  | str a =>
    cases dy <;> simp [binD] at e
    rename_i j
    obtain ⟨⟨h0, h1, hz⟩, e⟩ := e
    subst e
    cases (show x = _ from hx); cases (show y = _ from hy)
    obtain ⟨t, rfl⟩ := rx
    obtain ⟨t', rfl⟩ := ry
    have m1 : (decide (j < -(2 ^ 63 : Int)) || decide (j ≥ 2 ^ 63)) = false := by
      have a1 : ¬ j < -(2 ^ 63 : Int) := by omega
      have a2 : ¬ j ≥ 2 ^ 63 := by omega
      rw [decide_eq_false a1, decide_eq_false a2]
      rfl
    refine SB.mul ⟨m1, fun _ _ => ?_, fun _ _ => ?_⟩ fun t2 tk => ⟨.str (Txt.mul a j), H, I.tok _, ⟨_, rfl⟩, k.str⟩
    · have h3 : (1000 : Int) ≤ (2 ^ 63 - 1) / j := by
        rw [Int.le_ediv_iff_mul_le (by omega)]
        omega
      omega
    · have a1 : a.length * j.toNat ≤ 1000 * 1000 := Nat.mul_le_mul hz (by omega)
      unfold Builtin.Str.tooLong
      rw [decide_eq_false]
      rw [sizeLine_eq]
      omega
  | _ => simp [binD] at e
theorem op_fdiv_D : OpR X (binaryOp .FloorDiv) (rOp G (binD .fdiv)) := by
  intro pins s σ H x y v u Q I rx ry ⟨L, dx, dy, dz, lo, hx, hy, e, k⟩
  cases dx with
  | int i =>
    cases dy <;> simp [binD] at e
    obtain ⟨hz, e⟩ := e
    subst e
    cases (show x = _ from hx); cases (show y = _ from hy)
    exact op_fdivW pins s σ H _ _ v u Q I rx ry ⟨_, _, rfl, rfl, hz, k.int⟩
  | _ => simp [binD] at e
theorem op_mod_D : OpR X (binaryOp .Mod) (rOp G (binD .mod)) := by
  intro pins s σ H x y v u Q I rx ry ⟨L, dx, dy, dz, lo, hx, hy, e, k⟩
  cases dx with
  | int i =>
    cases dy <;> simp [binD] at e
    obtain ⟨hz, e⟩ := e
    subst e
    cases (show x = _ from hx); cases (show y = _ from hy)
    exact op_mod pins s σ H _ _ v u Q I rx ry ⟨_, _, rfl, rfl, hz, k.int⟩
  | _ => simp [binD] at e
theorem op_pow_D : OpR X (binaryOp .Pow) (rOp G (binD .pow)) := by
  intro pins s σ H x y v u Q I rx ry ⟨L, dx, dy, dz, lo, hx, hy, e, k⟩
  cases dx with
  | int i =>
    cases dy <;> simp [binD] at e
    obtain ⟨⟨h0, h1, h2⟩, e⟩ := e
    subst e
    cases (show x = _ from hx); cases (show y = _ from hy)
    exact op_pow pins s σ H _ _ v u Q I rx ry ⟨_, _, rfl, rfl, ⟨h0, by omega, h2⟩, k.int⟩
  | _ => simp [binD] at e
theorem op_bin_D (hK : X.K = G.K) : ∀ op : BOp, OpR X (binaryOp (pyB op)) (rOp G (binD op))
  | .add => op_add_D hK
  | .sub => op_sub_D
  | .mul => op_mul_D hK
  | .fdiv => op_fdiv_D
  | .mod => op_mod_D
  | .pow => op_pow_D

/-! ### comparisons -/
def pyC : COp → CmpOp
  | .eq => .Eq | .ne => .NotEq | .lt => .Lt | .le => .LtE | .gt => .Gt | .ge => .GtE | .isin => .In | .notin => .NotIn | .is => .Is | .isnot => .IsNot
def rCmp (G : Dom) (op : COp) : R2 := fun x y H Q => ∃ L dx dy b, LiveOk L H ∧ RepD G L H dx x ∧ RepD G L H dy y ∧ cmpD op dx dy = some b ∧ Q (.bl b) H
theorem op_int_D {f : CmpOp} {op : COp} {g : Int → Int → Bool} (rule : OpR X (compareOp f) (rI0 fun i j => .bl (g i j))) (hf : ∀ x y b, cmpD op x y = some b → ∃ i j, x = .int i ∧ y = .int j ∧ b = g i j) : OpR X (compareOp f) (rCmp G op) := by
  intro pins s σ H x y v u Q I rx ry ⟨L, dx, dy, b, lo, hx, hy, e, k⟩
  obtain ⟨i, j, rfl, rfl, rfl⟩ := hf _ _ _ e
  cases (show x = _ from hx); cases (show y = _ from hy)
  exact rule pins s σ H _ _ v u Q I rx ry ⟨_, _, rfl, rfl, k⟩
theorem RepD.flat {d : D} {v : V} (f : flatD d = true) (r : RepD G L H d v) : L2.flatV v = true := by
  cases d <;> simp [flatD] at f <;> (cases (show v = _ from r); rfl)
theorem RepD.eqf {d e : D} {v w : V} (f : flatD d = true) (g : flatD e = true) (r : RepD G L H d v) (q : RepD G L H e w) : L2.eqV v w = eqD d e := by
  cases d <;> simp [flatD] at f <;> (cases (show v = _ from r); cases e <;> simp [flatD] at g <;> (cases (show w = _ from q); simp [L2.eqV, eqD]))
theorem RepDs.flat : ∀ {ds : List D} {vs : List V}, ds.all flatD = true → RepDs G L H ds vs → vs.all L2.flatV = true
  | [], vs, _, h => by cases (show vs = _ from h); rfl
  | d :: ds, vs, f, h => by
    obtain ⟨v, r, rfl, h1, h2⟩ := h
    have f' : flatD d = true ∧ ds.all flatD = true := by simpa using f
    have q1 := h1.flat f'.1
    have q2 := RepDs.flat f'.2 h2
    simp only [List.all_cons, q1, q2, Bool.and_self]
theorem RepDs.inf {e : D} {w : V} (g : flatD e = true) (q : RepD G L H e w) : ∀ {ds : List D} {vs : List V}, ds.all flatD = true → RepDs G L H ds vs → L2.inV w vs = ds.any fun z => eqD z e
  | [], vs, _, h => by cases (show vs = _ from h); rfl
  | d :: ds, vs, f, h => by
    obtain ⟨v, r, rfl, h1, h2⟩ := h
    have f' : flatD d = true ∧ ds.all flatD = true := by simpa using f
    have e1 := RepD.eqf f'.1 g h1 q
    have e2 := RepDs.inf g q f'.2 h2
    unfold L2.inV at e2 ⊢
    simp only [List.any_cons, e1, e2]
theorem op_cmp_D (hK : X.K = G.K) (hu : X.A.units + 65 < cLine) : ∀ op : COp, OpR X (compareOp (pyC op)) (rCmp G op)
  | .lt => op_int_D op_lt fun x y b e => by cases x <;> cases y <;> simp [cmpD] at e; exact ⟨_, _, rfl, rfl, e.symm⟩
  | .le => op_int_D op_le fun x y b e => by cases x <;> cases y <;> simp [cmpD] at e; exact ⟨_, _, rfl, rfl, e.symm⟩
  | .gt => op_int_D op_gt fun x y b e => by cases x <;> cases y <;> simp [cmpD] at e; exact ⟨_, _, rfl, rfl, e.symm⟩
  | .ge => op_int_D op_ge fun x y b e => by cases x <;> cases y <;> simp [cmpD] at e; exact ⟨_, _, rfl, rfl, e.symm⟩
  | .eq => by
    intro pins s σ H x y v u Q I rx ry ⟨L, dx, dy, b, lo, hx, hy, e, k⟩
    simp only [cmpD] at e
    split at e
    · rename_i o
      simp only [Bool.and_eq_true] at o
      cases e
      refine op_eqD (by omega) pins s σ H x y v u Q I rx ry ⟨_, _, by rw [hK]; exact hx.dp 60 dx x o.1, by rw [hK]; exact hy.dp 60 dy y o.2, okD_shaped o.1 (by decide), okD_shaped o.2 (by decide), ?_⟩
      rw [eqv_eqD 60 60 dx dy o.1 o.2]
      exact k
    · cases e
  | .ne => by
    intro pins s σ H x y v u Q I rx ry ⟨L, dx, dy, b, lo, hx, hy, e, k⟩
    simp only [cmpD] at e
    split at e
    · rename_i o
      simp only [Bool.and_eq_true] at o
      cases e
      refine op_neD (by omega) pins s σ H x y v u Q I rx ry ⟨_, _, by rw [hK]; exact hx.dp 60 dx x o.1, by rw [hK]; exact hy.dp 60 dy y o.2, okD_shaped o.1 (by decide), okD_shaped o.2 (by decide), ?_⟩
      rw [eqv_eqD 60 60 dx dy o.1 o.2]
      exact k
    · cases e
  | .isin => by
    intro pins s σ H x y v u Q I rx ry ⟨L, dx, dy, b, lo, hx, hy, e, k⟩
    cases dy <;> simp only [cmpD] at e <;> try (cases e; done)
    · rename_i z
      cases dx <;> simp at e
      cases (show x = _ from hx); cases (show y = _ from hy)
      refine op_in_str pins s σ H _ _ v u Q I rx ry ⟨_, _, rfl, rfl, ?_⟩
      rw [← e] at k
      exact k
    · rename_i ys
      split at e
      · rename_i o
        simp only [Bool.and_eq_true] at o
        cases e
        have oy : okD 60 (.lst ys) = true := by simpa [okD] using o.2
        refine op_inD hu pins s σ H x y v u Q I rx ry ⟨toPy dx, toPys ys, by rw [hK]; exact hx.dp 60 dx x o.1, by rw [hK]; exact hy.dp 60 (.lst ys) y oy, okD_shaped o.1 (by decide), okD_shaped (d := .lst ys) oy (by decide), ?_⟩
        rw [any_eqv 60 59 dx o.1 ys o.2]
        exact k
      · cases e
    · rename_i ys
      split at e
      · rename_i o
        simp only [Bool.and_eq_true] at o
        cases e
        obtain ⟨a, vs, rfl, h1, r1⟩ := hy
        refine op_in_seq pins s σ H x _ v u Q I rx ry ⟨a, vs, rfl, .inr (by rw [hK]; exact h1), hx.flat o.1, r1.flat o.2, ?_⟩
        rw [if_neg (by decide), RepDs.inf o.1 hx o.2 r1]
        exact k
      · cases e
  | .notin => by
    intro pins s σ H x y v u Q I rx ry ⟨L, dx, dy, b, lo, hx, hy, e, k⟩
    cases dy <;> simp only [cmpD] at e <;> try (cases e; done)
    · rename_i z
      cases dx <;> simp at e
      cases (show x = _ from hx); cases (show y = _ from hy)
      refine op_notin_str pins s σ H _ _ v u Q I rx ry ⟨_, _, rfl, rfl, ?_⟩
      have e' : (!(!(Builtin.Str.occurrences z _ 0 z.length 1).isEmpty)) = b := (congrArg (fun q => !q) e).trans (Bool.not_not b)
      rw [← e'] at k
      exact k
    · rename_i ys
      split at e
      · rename_i o
        simp only [Bool.and_eq_true] at o
        cases e
        have oy : okD 60 (.lst ys) = true := by simpa [okD] using o.2
        refine op_notInD hu pins s σ H x y v u Q I rx ry ⟨toPy dx, toPys ys, by rw [hK]; exact hx.dp 60 dx x o.1, by rw [hK]; exact hy.dp 60 (.lst ys) y oy, okD_shaped o.1 (by decide), okD_shaped (d := .lst ys) oy (by decide), ?_⟩
        rw [any_eqv 60 59 dx o.1 ys o.2]
        exact k
      · cases e
    · rename_i ys
      split at e
      · rename_i o
        simp only [Bool.and_eq_true] at o
        cases e
        obtain ⟨a, vs, rfl, h1, r1⟩ := hy
        refine op_notIn_seq pins s σ H x _ v u Q I rx ry ⟨a, vs, rfl, .inr (by rw [hK]; exact h1), hx.flat o.1, r1.flat o.2, ?_⟩
        rw [if_pos rfl, RepDs.inf o.1 hx o.2 r1]
        exact k
      · cases e
  | .is => by
    intro pins s σ H x y v u Q I rx ry ⟨L, dx, dy, b, lo, hx, hy, e, k⟩
    cases dy <;> simp only [cmpD] at e <;> try (cases e; done)
    · cases (show y = _ from hy)
      refine op_isN pins s σ H _ _ v u Q I rx ry ⟨rfl, ?_⟩
      have q : decide (x = V.non) = b := by
        cases e
        cases dx <;> simp only [RepD] at hx <;> first
          | (subst hx; rfl)
          | (obtain ⟨_, _, rfl, _⟩ := hx; rfl)
          | (obtain ⟨_, rfl, _⟩ := hx; rfl)
      rw [q]; exact k
    · cases dx <;> simp at e
      cases (show x = _ from hx); cases (show y = _ from hy)
      refine op_is_bl pins s σ H _ _ v u Q I rx ry ⟨_, _, rfl, rfl, ?_⟩
      rw [← e] at k
      rw [← Bool.beq_eq_decide_eq]
      exact k
  | .isnot => by
    intro pins s σ H x y v u Q I rx ry ⟨L, dx, dy, b, lo, hx, hy, e, k⟩
    cases dy <;> simp only [cmpD] at e <;> try (cases e; done)
    · cases (show y = _ from hy)
      refine op_notN pins s σ H _ _ v u Q I rx ry ⟨rfl, ?_⟩
      have q : (!decide (x = V.non)) = b := by
        cases e
        cases dx <;> simp only [RepD] at hx <;> first
          | (subst hx; rfl)
          | (obtain ⟨_, _, rfl, _⟩ := hx; rfl)
          | (obtain ⟨_, rfl, _⟩ := hx; rfl)
      rw [q]; exact k
    · cases dx <;> simp at e
      cases (show x = _ from hx); cases (show y = _ from hy)
      refine op_isnot_bl pins s σ H _ _ v u Q I rx ry ⟨_, _, rfl, rfl, ?_⟩
      rw [← Bool.beq_eq_decide_eq, e, Bool.not_not]
      exact k
/-! ### subscripts -/
theorem atD_eq {α : Type} (xs : List α) (i : Int) : atD xs i = L2.atI xs i := rfl
theorem RepDs.at_ {ds : List D} {vs : List V} {i : Int} {d : D} (r : RepDs G L H ds vs) (e : atD ds i = some d) : ∃ v, L2.atI vs i = some v ∧ RepD G L H d v := by
  unfold atD at e
  unfold L2.atI
  rw [RepDs.len r]
  cases q : L2.ixN ds.length i with
  | none => rw [q] at e; cases e
  | some j =>
    rw [q] at e
    exact r.get e
theorem atI_map {α β : Type} (f : α → β) (xs : List α) (i : Int) : L2.atI (xs.map f) i = (L2.atI xs i).map f := by
  unfold L2.atI
  rw [List.length_map]
  cases L2.ixN xs.length i with
  | none => rfl
  | some j => simp
theorem ix_D (hK : X.K = G.K) : IxR X (rOp G idxD) := by
  intro value slice pins s σ H x y v u Q I rx ry ⟨L, dx, dy, dz, lo, hx, hy, e, k⟩ hs
  cases dy <;> simp only [idxD] at e <;> try (cases e; done)
  rename_i i
  cases (show y = _ from hy)
  cases dx <;> simp only at e <;> try (cases e; done)
  · rename_i z
    cases (show x = _ from hx)
    split at e
    · rename_i hz
      cases q : atD z.cps.toList i with
      | none => rw [q] at e; cases e
      | some c =>
        rw [q] at e
        cases e
        exact ix_str value slice pins s σ H _ _ v u Q I rx ry ⟨z, i, c, rfl, rfl, by rw [← sizeMax_eq]; exact hz, q, k.str⟩ hs
    · cases e
  · rename_i xs
    obtain ⟨a, vs, rfl, h1, n1, r1⟩ := hx
    obtain ⟨w, e1, e2⟩ := r1.at_ e
    exact ix_list value slice pins s σ H _ _ v u Q I rx ry ⟨a, vs, i, w, rfl, rfl, .of h1, e1, k.here e2⟩ hs
  · rename_i xs
    obtain ⟨a, vs, rfl, h1, r1⟩ := hx
    obtain ⟨w, e1, e2⟩ := r1.at_ e
    exact ix_tup value slice pins s σ H _ _ v u Q I rx ry ⟨a, vs, i, w, rfl, rfl, by rw [hK]; exact h1, e1, k.here e2⟩ hs
  · rename_i ns
    obtain ⟨a, rfl, h1⟩ := hx
    cases q : atD ns i with
    | none => rw [q] at e; cases e
    | some c =>
      rw [q] at e
      cases e
      refine ix_list value slice pins s σ H _ _ v u Q I rx ry ⟨a, ns.map V.int, i, .int c, rfl, rfl, by rw [hK]; exact h1.sqL, ?_, k.int⟩ hs
      rw [atI_map, show L2.atI ns i = some c from q]
      rfl
/-- x[lo:hi] -/
def rCut (G : Dom) : V → Option Int → Option Int → Hp → VK → Prop := fun x lo hi H Q => ∃ L dx dz, LiveOk L H ∧ RepD G L H dx x ∧ cutD dx lo hi = some dz ∧ Gives G L H dz Q
theorem cut_whole {α : Type} {xs : List α} {lo hi : Option Int} (h : HT.sIx xs.length 0 lo = 0 ∧ HT.sIx xs.length xs.length hi = xs.length) : cutL xs lo hi = xs := by
  unfold cutL
  rw [h.1, h.2]
  simp
theorem sl_D (hK : X.K = G.K) : SlR X (rCut G) := by
  intro pins s σ H x v vl vu lo hi sl Q I rx hs pl pu ⟨L, dx, dz, lv, hx, e, k⟩
  cases dx <;> simp only [cutD] at e <;> try (cases e; done)
  · rename_i z
    cases (show x = _ from hx)
    split at e
    · rename_i hz
      cases e
      exact sl_str pins s σ H _ v vl vu lo hi sl Q I rx hs pl pu ⟨z, rfl, by rw [← sizeMax_eq]; exact hz, k.str⟩
    · cases e
  · rename_i xs
    cases e
    obtain ⟨a, vs, rfl, h1, n1, r1⟩ := hx
    exact sl_list pins s σ H _ v vl vu lo hi sl Q I rx hs pl pu ⟨a, vs, rfl, .of h1, fun p hp => k.lst lv (r1.cut lo hi) hp⟩
  · rename_i xs
    cases e
    obtain ⟨a, vs, rfl, h1, r1⟩ := hx
    refine sl_tupA pins s σ H _ v vl vu lo hi sl Q I rx hs pl pu ⟨a, vs, rfl, by rw [hK]; exact h1, fun w => ?_, fun w p hp => k.tup lv (r1.cut lo hi) hp⟩
    rw [RepDs.len r1] at w
    rw [cut_whole w] at k
    exact k.here ⟨a, vs, rfl, h1, r1⟩
end

/-! ### one value -/
def rUn (G : Dom) (f : D → Option D) : V → Hp → VK → Prop := fun x H Q => ∃ L dx dz, LiveOk L H ∧ RepD G L H dx x ∧ f dx = some dz ∧ Gives G L H dz Q
def rC1 (G : Dom) (f : D → Option D) : List V → Hp → VK → Prop := fun xs H Q => ∃ x, xs = [x] ∧ rUn G f x H Q
section
variable {X : Cx} {G : Dom} {L : Addr → Prop} {H : Hp}
theorem RepDs.ints : ∀ {ds : List D} {vs : List V} {is : List Int}, RepDs G L H ds vs → intsD ds = some is → vs = is.map V.int
  | [], vs, is, h, e => by
    cases (show vs = _ from h)
    cases (show some [] = some is from e)
    rfl
  | d :: ds, vs, is, h, e => by
    obtain ⟨v, r, rfl, h1, h2⟩ := h
    cases d <;> simp [intsD] at e
    obtain ⟨js, e1, rfl⟩ := e
    cases (show v = _ from h1)
    rw [RepDs.ints h2 e1]
    rfl
theorem RepDs.bls : ∀ {ds : List D} {vs : List V} {is : List Bool}, RepDs G L H ds vs → blsD ds = some is → vs = is.map V.bl
  | [], vs, is, h, e => by
    cases (show vs = _ from h)
    cases (show some [] = some is from e)
    rfl
  | d :: ds, vs, is, h, e => by
    obtain ⟨v, r, rfl, h1, h2⟩ := h
    cases d <;> simp [blsD] at e
    obtain ⟨js, e1, rfl⟩ := e
    cases (show v = _ from h1)
    rw [RepDs.bls h2 e1]
    rfl
theorem RepDs.strs : ∀ {ds : List D} {vs : List V} {is : List Str}, RepDs G L H ds vs → strsD ds = some is → vs = is.map V.str
  | [], vs, is, h, e => by
    cases (show vs = _ from h)
    cases (show some [] = some is from e)
    rfl
  | d :: ds, vs, is, h, e => by
    obtain ⟨v, r, rfl, h1, h2⟩ := h
    cases d <;> simp [strsD] at e
    obtain ⟨js, e1, rfl⟩ := e
    cases (show v = _ from h1)
    rw [RepDs.strs h2 e1]
    rfl
theorem repDs_ints : ∀ is : List Int, RepDs G L H (is.map D.int) (is.map V.int)
  | [] => rfl
  | i :: is => ⟨_, _, rfl, rfl, repDs_ints is⟩
theorem repDs_strs : ∀ is : List Str, RepDs G L H (is.map D.str) (is.map V.str)
  | [] => rfl
  | i :: is => ⟨_, _, rfl, rfl, repDs_strs is⟩
theorem un_neg_D : UnR X (unaryOp .USub) (rUn G fun x => match x with | .int i => some (.int (-i)) | _ => none) := by
  intro pins s σ H x v Q I rx ⟨L, dx, dz, lv, hx, e, k⟩
  cases dx <;> simp at e
  subst e
  cases (show x = _ from hx)
  exact un_neg pins s σ H _ v Q I rx ⟨_, rfl, k.int⟩

/-! ### truth -/
theorem truD_ok {d : D} {v : V} {b : Bool} (r : RepD G L H d v) (e : truD d = some b) : L2.TruV G.K v H b := by
  cases d <;> simp [truD] at e
  · subst e; cases (show v = _ from r); rfl
  · subst e; cases (show v = _ from r); rfl
  · subst e; cases (show v = _ from r); rfl
  · obtain ⟨hz, e⟩ := e
    subst e
    cases (show v = _ from r)
    exact ⟨by rw [← sizeMax_eq]; exact hz, rfl⟩
  · rename_i xs
    obtain ⟨a, vs, rfl, h1, _, r1⟩ := r
    refine .inl ⟨vs, .of h1, ?_⟩
    cases xs with
    | nil => cases (show vs = _ from r1); simpa using e
    | cons x xs => obtain ⟨_, _, rfl, _⟩ := r1; simpa using e
  · rename_i xs
    obtain ⟨a, vs, rfl, h1, r1⟩ := r
    refine .inr (.inl ⟨vs, h1, ?_⟩)
    cases xs with
    | nil => cases (show vs = _ from r1); simpa using e
    | cons x xs => obtain ⟨_, _, rfl, _⟩ := r1; simpa using e

/-! ### built-ins of one value -/
theorem cr_len_D (hK : X.K = G.K) : CallR X (.builtin "len") (rC1 G (biD .len)) := by
  intro pins s σ H xs us Q I rs ⟨x, ex, L, dx, dz, lv, hx, e, k⟩
  subst ex
  cases dx <;> simp [biD] at e
  · rename_i z
    obtain ⟨hz, e⟩ := e
    subst e
    cases (show x = _ from hx)
    exact call_len_str pins s σ H _ us Q I rs ⟨z, rfl, by rw [← sizeMax_eq]; exact hz, k.int⟩
  · subst e
    obtain ⟨a, vs, rfl, h1, _, r1⟩ := hx
    refine call_len_seq pins s σ H _ us Q I rs ⟨a, vs, rfl, .inl (.of h1), ?_⟩
    rw [RepDs.len r1]
    exact k.int
  · subst e
    obtain ⟨a, vs, rfl, h1, r1⟩ := hx
    refine call_len_seq pins s σ H _ us Q I rs ⟨a, vs, rfl, .inr (by rw [hK]; exact h1), ?_⟩
    rw [RepDs.len r1]
    exact k.int
  · subst e
    obtain ⟨a, rfl, h1⟩ := hx
    refine call_len_seq pins s σ H _ us Q I rs ⟨a, _, rfl, .inl (by rw [hK]; exact h1.sqL), ?_⟩
    rw [List.length_map]
    exact k.int
theorem cr_abs_D : CallR X (.builtin "abs") (rC1 G (biD .abs)) := by
  intro pins s σ H xs us Q I rs ⟨x, ex, L, dx, dz, lv, hx, e, k⟩
  subst ex
  cases dx <;> simp [biD] at e
  subst e
  cases (show x = _ from hx)
  exact call_abs pins s σ H _ us Q I rs ⟨_, rfl, k.int⟩
theorem cr_sum_D (hc : X.calm = true) (hK : X.K = G.K) : CallR X (.builtin "sum") (rC1 G (biD .sum)) := by
  intro pins s σ H xs us Q I rs ⟨x, ex, L, dx, dz, lv, hx, e, k⟩
  subst ex
  cases dx <;> simp [biD] at e
  obtain ⟨is, e1, e2⟩ := e
  subst e2
  obtain ⟨a, vs, rfl, h1, _, r1⟩ := hx
  refine cr_sum hc pins s σ H _ us Q I rs ⟨a, is, rfl, .of ?_, k.int⟩
  rw [← r1.ints e1]
  exact h1
theorem maxI_ok : ∀ {is : List Int} {m : Int}, maxI is = some m → m ∈ is ∧ ∀ y ∈ is, y ≤ m := by
  have aux : ∀ (xs : List Int) (x : Int), (xs.foldl (fun m y => if m < y then y else m) x = x ∨ xs.foldl (fun m y => if m < y then y else m) x ∈ xs) ∧ x ≤ xs.foldl (fun m y => if m < y then y else m) x ∧ ∀ y ∈ xs, y ≤ xs.foldl (fun m y => if m < y then y else m) x := by
    intro xs
    induction xs with
    | nil => intro x; simp
    | cons z xs ih =>
      intro x
      simp only [List.foldl_cons]
      obtain ⟨h1, h2, h3⟩ := ih (if x < z then z else x)
      refine ⟨?_, ?_, ?_⟩
      · rcases h1 with h1 | h1
        · rw [h1]; split <;> simp
        · exact .inr (List.mem_cons_of_mem _ h1)
      · exact Int.le_trans (by split <;> omega) h2
      · intro y hy
        rcases List.mem_cons.mp hy with rfl | hy
        · exact Int.le_trans (by split <;> omega) h2
        · exact h3 y hy
  intro is m e
  cases is with
  | nil => cases e
  | cons x xs =>
    cases e
    obtain ⟨h1, h2, h3⟩ := aux xs x
    refine ⟨?_, fun y hy => ?_⟩
    · rcases h1 with h1 | h1
      · rw [h1]; exact List.mem_cons_self
      · exact List.mem_cons_of_mem _ h1
    · rcases List.mem_cons.mp hy with rfl | hy
      · exact h2
      · exact h3 y hy
theorem minI_ok : ∀ {is : List Int} {m : Int}, minI is = some m → m ∈ is ∧ ∀ y ∈ is, m ≤ y := by
  have aux : ∀ (xs : List Int) (x : Int), (xs.foldl (fun m y => if y < m then y else m) x = x ∨ xs.foldl (fun m y => if y < m then y else m) x ∈ xs) ∧ xs.foldl (fun m y => if y < m then y else m) x ≤ x ∧ ∀ y ∈ xs, xs.foldl (fun m y => if y < m then y else m) x ≤ y := by
    intro xs
    induction xs with
    | nil => intro x; simp
    | cons z xs ih =>
      intro x
      simp only [List.foldl_cons]
      obtain ⟨h1, h2, h3⟩ := ih (if z < x then z else x)
      refine ⟨?_, ?_, ?_⟩
      · rcases h1 with h1 | h1
        · rw [h1]; split <;> simp
        · exact .inr (List.mem_cons_of_mem _ h1)
      · exact Int.le_trans h2 (by split <;> omega)
      · intro y hy
        rcases List.mem_cons.mp hy with rfl | hy
        · exact Int.le_trans h2 (by split <;> omega)
        · exact h3 y hy
  intro is m e
  cases is with
  | nil => cases e
  | cons x xs =>
    cases e
    obtain ⟨h1, h2, h3⟩ := aux xs x
    refine ⟨?_, fun y hy => ?_⟩
    · rcases h1 with h1 | h1
      · rw [h1]; exact List.mem_cons_self
      · exact List.mem_cons_of_mem _ h1
    · rcases List.mem_cons.mp hy with rfl | hy
      · exact h2
      · exact h3 y hy
theorem cr_max_D (hc : X.calm = true) : CallR X (.builtin "max") (rC1 G (biD .max)) := by
  intro pins s σ H xs us Q I rs ⟨x, ex, L, dx, dz, lv, hx, e, k⟩
  subst ex
  cases dx <;> simp only [biD] at e <;> try (cases e; done)
  · simp only [Option.bind_eq_some_iff, Option.map_eq_some_iff] at e
    obtain ⟨is, e1, m, e2, e3⟩ := e
    subst e3
    obtain ⟨a, vs, rfl, h1, _, r1⟩ := hx
    refine cr_max hc pins s σ H _ us Q I rs ⟨a, is, rfl, .of ?_, ?_, fun m' hm hg => ?_⟩
    · rw [← r1.ints e1]; exact h1
    · cases is with
      | nil => cases e2
      | cons _ _ => simp
    · obtain ⟨q1, q2⟩ := maxI_ok e2
      have : m' = m := Int.le_antisymm (q2 _ hm) (hg _ q1)
      rw [this]
      exact k.int
theorem cr_min_D (hc : X.calm = true) : CallR X (.builtin "min") (rC1 G (biD .min)) := by
  intro pins s σ H xs us Q I rs ⟨x, ex, L, dx, dz, lv, hx, e, k⟩
  subst ex
  cases dx <;> simp only [biD] at e <;> try (cases e; done)
  · simp only [Option.bind_eq_some_iff, Option.map_eq_some_iff] at e
    obtain ⟨is, e1, m, e2, e3⟩ := e
    subst e3
    obtain ⟨a, vs, rfl, h1, _, r1⟩ := hx
    refine cr_min hc pins s σ H _ us Q I rs ⟨a, is, rfl, .of ?_, ?_, fun m' hm hg => ?_⟩
    · rw [← r1.ints e1]; exact h1
    · cases is with
      | nil => cases e2
      | cons _ _ => simp
    · obtain ⟨q1, q2⟩ := minI_ok e2
      have : m' = m := Int.le_antisymm (hg _ q1) (q2 _ hm)
      rw [this]
      exact k.int
theorem sortI_perm : ∀ is : List Int, (sortI is).Perm is ∧ (sortI is).Pairwise (· ≤ ·) := by
  have ins : ∀ (x : Int) (ys : List Int), ys.Pairwise (· ≤ ·) → (insI x ys).Perm (x :: ys) ∧ (insI x ys).Pairwise (· ≤ ·) := by
    intro x ys
    induction ys with
    | nil => intro _; simp [insI]
    | cons y ys ih =>
      intro h
      have h' := List.pairwise_cons.mp h
      unfold insI
      split
      · rename_i c
        obtain ⟨p, q⟩ := ih h'.2
        refine ⟨(List.Perm.cons y p).trans (List.Perm.swap x y ys), List.pairwise_cons.mpr ⟨fun z hz => ?_, q⟩⟩
        rcases List.mem_cons.mp (p.mem_iff.mp hz) with rfl | hz
        · omega
        · exact h'.1 z hz
      · rename_i c
        refine ⟨List.Perm.refl _, List.pairwise_cons.mpr ⟨fun z hz => ?_, h⟩⟩
        rcases List.mem_cons.mp hz with rfl | hz
        · omega
        · exact Int.le_trans (by omega) (h'.1 z hz)
  intro is
  induction is with
  | nil => exact ⟨List.Perm.refl _, List.Pairwise.nil⟩
  | cons x xs ih =>
    obtain ⟨p, q⟩ := ins x (sortI xs) ih.2
    exact ⟨p.trans (List.Perm.cons x ih.1), q⟩
theorem sorted_eq : ∀ {xs ys : List Int}, xs.Perm ys → xs.Pairwise (· ≤ ·) → ys.Pairwise (· ≤ ·) → xs = ys
  | [], ys, p, _, _ => (List.Perm.nil_eq p)
  | x :: xs, [], p, _, _ => by have := p.length_eq; simp at this
  | x :: xs, y :: ys, p, h, g => by
    have h' := List.pairwise_cons.mp h
    have g' := List.pairwise_cons.mp g
    have e1 : x ≤ y := by
      rcases List.mem_cons.mp (p.mem_iff.mpr (List.mem_cons_self (a := y) (l := ys))) with e | e
      · omega
      · exact h'.1 y e
    have e2 : y ≤ x := by
      rcases List.mem_cons.mp (p.mem_iff.mp (List.mem_cons_self (a := x) (l := xs))) with e | e
      · omega
      · exact g'.1 x e
    have e : x = y := Int.le_antisymm e1 e2
    subst e
    rw [sorted_eq ((List.perm_cons x).mp p) h'.2 g'.2]
theorem cr_sorted_D : CallR X (.builtin "sorted") (rC1 G (biD .sorted)) := by
  intro pins s σ H xs us Q I rs ⟨x, ex, L, dx, dz, lv, hx, e, k⟩
  subst ex
  cases dx <;> simp [biD] at e
  obtain ⟨is, e1, e2⟩ := e
  subst e2
  obtain ⟨a, vs, rfl, h1, _, r1⟩ := hx
  refine cr_sortedI pins s σ H _ us Q I rs ⟨a, is, rfl, .of ?_, fun ns' p hp hs hf => ?_⟩
  · rw [← r1.ints e1]; exact h1
  · obtain ⟨q1, q2⟩ := sortI_perm is
    have : ns' = sortI is := sorted_eq (hp.trans q1.symm) hs q2
    rw [this]
    exact k.lst lv (repDs_ints _) hf
theorem cr_tuple_D (hK : X.K = G.K) : CallR X (.type "tuple") (rC1 G (biD .tuple)) := by
  intro pins s σ H xs us Q I rs ⟨x, ex, L, dx, dz, lv, hx, e, k⟩
  subst ex
  cases dx <;> simp [biD, seqD] at e
  · subst e
    obtain ⟨a, vs, rfl, h1, _, r1⟩ := hx
    exact call_tuple_of pins s σ H _ us Q I rs ⟨a, vs, rfl, .inl ⟨.of h1, fun p hp => k.tup lv r1 hp⟩⟩
  · subst e
    obtain ⟨a, vs, rfl, h1, r1⟩ := hx
    exact call_tuple_of pins s σ H _ us Q I rs ⟨a, vs, rfl, .inr ⟨by rw [hK]; exact h1, k.here ⟨a, vs, rfl, h1, r1⟩⟩⟩
theorem cr_list_D (hK : X.K = G.K) : CallR X (.type "list") (rC1 G (biD .list)) := by
  intro pins s σ H xs us Q I rs ⟨x, ex, L, dx, dz, lv, hx, e, k⟩
  subst ex
  cases dx <;> simp [biD, seqD] at e
  · subst e
    obtain ⟨a, vs, rfl, h1, _, r1⟩ := hx
    exact call_list_of pins s σ H _ us Q I rs ⟨a, vs, rfl, .inl (.of h1), fun p hp => k.lst lv r1 hp⟩
  · subst e
    obtain ⟨a, vs, rfl, h1, r1⟩ := hx
    exact call_list_of pins s σ H _ us Q I rs ⟨a, vs, rfl, .inr (by rw [hK]; exact h1), fun p hp => k.lst lv r1 hp⟩
theorem cr_int_D : CallR X (.type "int") (rC1 G (biD .int)) := by
  intro pins s σ H xs us Q I rs ⟨x, ex, L, dx, dz, lv, hx, e, k⟩
  subst ex
  cases dx <;> simp [biD] at e
  · subst e
    cases (show x = _ from hx)
    exact call_int1 pins s σ H _ us Q I rs (.inr ⟨_, rfl, k.int⟩)
  · subst e
    cases (show x = _ from hx)
    exact call_int1 pins s σ H _ us Q I rs (.inl ⟨_, rfl, k.int⟩)
  · obtain ⟨hz, n, e1, e2⟩ := e
    subst e2
    cases (show x = _ from hx)
    exact call_int_str pins s σ H _ us Q I rs ⟨_, n, rfl, e1, hz, k.int⟩
theorem cr_str_D : CallR X (.type "str") (rC1 G (biD .str)) := by
  intro pins s σ H xs us Q I rs ⟨x, ex, L, dx, dz, lv, hx, e, k⟩
  subst ex
  cases dx <;> simp [biD] at e
  obtain ⟨hz, e⟩ := e
  subst e
  cases (show x = _ from hx)
  exact call_str_int pins s σ H _ us Q I rs ⟨_, rfl, hz, k.str⟩
theorem cr_all_D (hc : X.calm = true) : CallR X (.builtin "all") (rC1 G (biD .all)) := by
  intro pins s σ H xs us Q I rs ⟨x, ex, L, dx, dz, lv, hx, e, k⟩
  subst ex
  cases dx <;> simp [biD] at e
  obtain ⟨is, e1, e2⟩ := e
  subst e2
  obtain ⟨a, vs, rfl, h1, _, r1⟩ := hx
  refine cr_all hc pins s σ H _ us Q I rs ⟨a, is, rfl, .of ?_, k.bl⟩
  rw [← r1.bls e1]; exact h1
theorem cr_any_D (hc : X.calm = true) : CallR X (.builtin "any") (rC1 G (biD .any)) := by
  intro pins s σ H xs us Q I rs ⟨x, ex, L, dx, dz, lv, hx, e, k⟩
  subst ex
  cases dx <;> simp [biD] at e
  obtain ⟨is, e1, e2⟩ := e
  subst e2
  obtain ⟨a, vs, rfl, h1, _, r1⟩ := hx
  refine cr_any hc pins s σ H _ us Q I rs ⟨a, is, rfl, .of ?_, k.bl⟩
  rw [← r1.bls e1]; exact h1
theorem cr_bool_D : CallR X (.type "bool") (rC1 G (biD .bool)) := by
  intro pins s σ H xs us Q I rs ⟨x, ex, L, dx, dz, lv, hx, e, k⟩
  subst ex
  cases dx <;> simp [biD] at e
  · subst e
    cases (show x = _ from hx)
    exact call_bool1 pins s σ H _ us Q I rs (.inr ⟨_, rfl, k.bl⟩)
/-! ### isinstance -/
def Cls.py : Cls → Option String
  | .int => some "int" | .bool => some "bool" | .str => some "str" | .tuple => some "tuple" | .list => some "list" | .own _ => none
theorem RepD.ty {d : D} {v : V} (f : noFn d = true) (r : RepD G L H d v) : ∃ t : String, TyX G.K H v (.type t) ∧ ∀ (c : Cls) (n : String), c.py = some n → PySem.W.kitOne G.K (.type t) (.type n) = some (d.cls c) := by
  cases d with
  | non => cases (show v = _ from r); exact ⟨_, .base .non, fun c n e => by cases c <;> simp [Cls.py] at e <;> subst e <;> (refine kit_ty ?_; first | (show _ = some true; decide +kernel) | (show _ = some false; decide +kernel))⟩
  | bl b => cases (show v = _ from r); exact ⟨_, .base (.bl b), fun c n e => by cases c <;> simp [Cls.py] at e <;> subst e <;> (refine kit_ty ?_; first | (show _ = some true; decide +kernel) | (show _ = some false; decide +kernel))⟩
  | int b => cases (show v = _ from r); exact ⟨_, .base (.int b), fun c n e => by cases c <;> simp [Cls.py] at e <;> subst e <;> (refine kit_ty ?_; first | (show _ = some true; decide +kernel) | (show _ = some false; decide +kernel))⟩
  | str b => cases (show v = _ from r); exact ⟨_, .base (.str b), fun c n e => by cases c <;> simp [Cls.py] at e <;> subst e <;> (refine kit_ty ?_; first | (show _ = some true; decide +kernel) | (show _ = some false; decide +kernel))⟩
  | lst xs => obtain ⟨a, vs, rfl, h1, _⟩ := r; exact ⟨_, .base (.lst h1), fun c n e => by cases c <;> simp [Cls.py] at e <;> subst e <;> (refine kit_ty ?_; first | (show _ = some true; decide +kernel) | (show _ = some false; decide +kernel))⟩
  | tup xs =>
    obtain ⟨a, vs, rfl, h1, _⟩ := r
    have q : ∀ (c : Cls) (n : String), c.py = some n → PySem.W.kitOne G.K (.type "tuple") (.type n) = some ((D.tup xs).cls c) := fun c n e => by cases c <;> simp [Cls.py] at e <;> subst e <;> (refine kit_ty ?_; first | (show _ = some true; decide +kernel) | (show _ = some false; decide +kernel))
    rcases h1 with (h1 | ⟨o, h1⟩) | ⟨o, its, n, h1, h2, _⟩
    · exact ⟨_, .base (.tup h1), q⟩
    · exact ⟨_, .fTuple h1, q⟩
    · exact ⟨_, .kTuple h1 h2, q⟩
  | fn f => simp [noFn] at f
  | scr ns => simp [noFn] at f
end
end Ev

set_option Elab.async false
set_option linter.all false
set_option autoImplicit false
set_option maxRecDepth 100000
set_option maxHeartbeats 4000000
/-! Closures (ghosts) that the abstract heap tracks: without their cells, and with them again. Own work. -/
namespace Ev
open PySem PySem.Spec PyProof.Rows L2
/-- with the cells again -/
def plus (Hm H : Hp) (cs : List Addr) : Hp := fun a => if a ∈ cs then H a else Hm a
theorem plus_in {Hm H : Hp} {cs : List Addr} {a : Addr} (h : a ∈ cs) : plus Hm H cs a = H a := by unfold plus; rw [if_pos h]
theorem plus_out {Hm H : Hp} {cs : List Addr} {a : Addr} (h : a ∉ cs) : plus Hm H cs a = Hm a := by unfold plus; rw [if_neg h]
theorem minus_in {H : Hp} {cs : List Addr} {a : Addr} (h : a ∈ cs) : minus H cs a = none := by unfold minus; rw [if_pos h]
theorem minus_out {H : Hp} {cs : List Addr} {a : Addr} (h : a ∉ cs) : minus H cs a = H a := by unfold minus; rw [if_neg h]
/-- none of them is a code object -/
def NoCode (H : Hp) (cs : List Addr) : Prop := ∀ c ∈ cs, ∀ q, H c ≠ some (LamX.CodeO c q)
section
variable {G : Dom} {B B' : List Addr} {S S' : Sto} {H H' Hm : Hp} {cs : List Addr} {P : Program} {w : World} {h h' : Heap}
theorem Exts.not (k : Exts H cs) {a : Addr} {o : HO} (e : H a = some o) (n : ∀ φ, o ≠ .ext φ) : a ∉ cs := fun z => by
  obtain ⟨o', e'⟩ := k a z
  rw [e] at e'
  exact n _ (Option.some.inj e')
theorem notLst {xs : List V} : ∀ φ, HO.lst xs ≠ .ext φ := fun _ z => by cases z
theorem notTup {xs : List V} : ∀ φ, HO.tup xs ≠ .ext φ := fun _ z => by cases z
theorem notIns {C d : Addr} {xs : List (Str × V)} : ∀ φ, HO.ins C d xs ≠ .ext φ := fun _ z => by cases z
theorem notFrz {o : Obj} {u : HO} : ∀ φ, HO.frz o u ≠ .ext φ := fun _ z => by cases z
theorem notTblE {o : Array Value} : ∀ φ, HO.tbl o ≠ .ext φ := fun _ z => by cases z
theorem notOwn {o : Addr} : ∀ φ, HO.own o ≠ .ext φ := fun _ z => by cases z
theorem hok_minus (k : Exts H cs) (x : HOk P w H h) : HOk P w (minus H cs) h := fun a o e => by
  obtain ⟨n, e⟩ := minus_some e
  exact (x a o e).stay (fun b u _ q => q) (fun b q => minus_of (k.not q notOwn) q) (fun b xs q => minus_of (k.not q notTup) q)
mutual
theorem RepD.minus {L : Addr → Prop} (k : Exts H cs) : ∀ (d : D) (v : V), RepD G L H d v → RepD G L (minus H cs) d v
  | .non, _, h => h
  | .bl _, _, h => h
  | .int _, _, h => h
  | .str _, _, h => h
  | .fn _, _, h => h
  | .scr _, _, ⟨a, e, q⟩ => ⟨a, e, q.imp (fun ⟨o, q⟩ => ⟨o, minus_of (k.not q notFrz) q⟩) id⟩
  | .lst ds, v, q => by
    obtain ⟨a, vs, e, r, n, q⟩ := q
    exact ⟨a, vs, e, minus_of (k.not r notLst) r, n, RepDs.minus k ds vs q⟩
  | .tup ds, v, q => by
    obtain ⟨a, vs, e, r, q⟩ := q
    refine ⟨a, vs, e, ?_, RepDs.minus k ds vs q⟩
    rcases r with r | r
    · rcases r with r | ⟨o, r⟩
      · exact .inl (.inl (minus_of (k.not r notTup) r))
      · exact .inl (.inr ⟨o, minus_of (k.not r notFrz) r⟩)
    · exact .inr r
theorem RepDs.minus {L : Addr → Prop} (k : Exts H cs) : ∀ (ds : List D) (vs : List V), RepDs G L H ds vs → RepDs G L (minus H cs) ds vs
  | [], _, h => h
  | d :: ds, vs, q => by
    obtain ⟨v, r, e, h1, h2⟩ := q
    exact ⟨v, r, e, RepD.minus k d v h1, RepDs.minus k ds r h2⟩
end
theorem tabs_minus {T : List (Addr × Str)} (k : Exts H cs) (x : NoCode H cs) (t : LamX.Tabs T H) : LamX.Tabs T (minus H cs) := fun p hp => by
  obtain ⟨ps, h1, h2, h3⟩ := t p hp
  refine ⟨ps, minus_of (k.not h1 notTblE) h1, h2, fun pos cv hc => ?_⟩
  obtain ⟨c, e1, e2⟩ := h3 pos cv hc
  exact ⟨c, e1, minus_of (fun z => x c z _ e2) e2⟩
theorem RepS.minus (k : Exts H cs) (x : NoCode H cs) (r : RepS G B S H) : RepS G B S (minus H cs) := by
  refine ⟨r.len, fun i c a e1 e2 => ?_, r.nd, tabs_minus k x r.tabs⟩
  have q := r.cell i c a e1 e2
  cases c with
  | dead => exact q
  | lst xs => obtain ⟨vs, h1, h2⟩ := q; exact ⟨vs, minus_of (k.not h1 notLst) h1, RepDs.minus k _ _ h2⟩
  | obj c fs => obtain ⟨C, dx, vs, y, h0, h1, h2, h3, h4⟩ := q; exact ⟨C, dx, vs, y, h0, h1, minus_of (k.not h2 notIns) h2, h3, RepDs.minus k _ _ h4⟩
theorem grow_plus (hn : ∀ c ∈ cs, Hm c = none) : ∀ b o, Hm b = some o → plus Hm H cs b = some o := fun b o e => by
  have n : b ∉ cs := fun z => by rw [hn b z] at e; cases e
  rw [plus_out n]
  exact e
theorem stp_plus (k : Exts H cs) (s : Stp B S (minus H cs) B' S' Hm) (r : RepS G B' S' Hm) (hn : ∀ c ∈ cs, Hm c = none) : Stp B S H B' S' (plus Hm H cs) ∧ RepS G B' S' (plus Hm H cs) := by
  refine ⟨⟨⟨fun a o e n t => ?_, fun a l => ?_⟩, s.pre⟩, r.grow (grow_plus hn)⟩
  · by_cases ha : a ∈ cs
    · rw [plus_in ha]; exact e
    · rw [plus_out ha]; exact s.ext.keep a o (minus_of ha e) n t
  · rcases s.ext.live a l with z | z
    · exact .inl z
    · by_cases ha : a ∈ cs
      · rcases r.liveOk a l with ⟨xs, q⟩ | ⟨C, dx, fs, q⟩ <;> (rw [hn a ha] at q; cases q)
      · exact .inr fun o e => z o (minus_of ha e)
theorem repV_plus (hn : ∀ c ∈ cs, Hm c = none) {v : Val} {u : V} (r : RepS G B S Hm) (h : RepV G B S Hm v u) : RepV G B S (plus Hm H cs) v u := h.stp (Stp.grow (grow_plus hn)) r
/-- the answer asked in the heap without the cells -/
theorem Ans.minus {W W' : WX} {σ σ' : L2.St} {x : R Val} {Q : VK} (k : Exts H cs) (an : Ans G W σ x B S H fun v B' S' H' => ∀ u, RepV G B' S' H' v u → Q u H')
    (hW : ∀ C Hm, (∀ c ∈ cs, Hm c = none → True) → (∀ c ∈ cs, Hm c = none) → W (.ref C) none σ (plus Hm H cs) → W' (.ref C) none σ' Hm) (hW' : ∀ C Hm, ¬ (∀ c ∈ cs, Hm c = none) → W' (.ref C) none σ' Hm) :
    Ans G W' σ' x B S (Ev.minus H cs) fun v B' S' Hm => ∀ u, RepV G B' S' Hm v u → (∀ c ∈ cs, Hm c = none) → Q u (plus Hm H cs) := by
  cases x with
  | stuck => exact an
  | ok v S' =>
    intro B' Hm s r u ru hn
    obtain ⟨s2, r2⟩ := stp_plus k s r hn
    exact an.ok s2 r2 u (repV_plus hn r ru)
  | exc c S' =>
    intro B' Hm s r y C h1 h2
    by_cases hn : ∀ c ∈ cs, Hm c = none
    · obtain ⟨s2, r2⟩ := stp_plus k s r hn
      exact hW C Hm (fun _ _ _ => trivial) hn (an B' _ s2 r2 y C h1 h2)
    · exact hW' C Hm hn
end
section
variable {P : Program} {w : World} {H Hm : Hp} {cs : List Addr} {outer : List PySem.Env} {s s' : Shared} {Q : VK} {E : XK}
theorem hok_plus {h h' : Heap} (k : Exts H cs) (x : HOk P w H h) (y : HOk P w Hm h') (hn : ∀ c ∈ cs, Hm c = none) (kp : ∀ c ∈ cs, ∀ o, h.get? c = some o → h'.get? c = some o) : HOk P w (plus Hm H cs) h' := fun a o e => by
  by_cases ha : a ∈ cs
  · rw [plus_in ha] at e
    obtain ⟨o', e'⟩ := k a ha
    rw [e] at e'
    cases Option.some.inj e'
    obtain ⟨q1, ⟨ob, q2⟩, q3⟩ := x a _ e
    exact ⟨q3 _ _ q1 fun o z => kp a ha o z, ⟨ob, kp a ha ob q2⟩, q3⟩
  · rw [plus_out ha] at e
    exact (y a o e).stay (fun b u _ q => q) (fun b q => grow_plus hn b _ q) (fun b xs q => grow_plus hn b _ q)
/-- a call's end, the cells tracked again -/
theorem cr_plus {r : Result} (k : Exts H cs) (x : HOk P w H s.heap) (nf : ∀ c ∈ cs, c ∉ frs outer)
    (h : CR (L2N.CX P w) outer P w (minus H cs) s (fun u Hm => (∀ c ∈ cs, Hm c = none) → Q u (plus Hm H cs)) (fun cls d Hm => (∀ c ∈ cs, Hm c = none) → E cls d (plus Hm H cs)) r s') :
    CR (L2N.CX P w) outer P w H s Q E r s' := by
  have there : ∀ c ∈ cs, ∃ o, s.heap.get? c = some o := fun c hc => by
    obtain ⟨o, e⟩ := k c hc
    obtain ⟨_, q, _⟩ := x c _ e
    exact q
  cases r with
  | error e =>
    obtain ⟨a, B, Hm, cls, d, rfl, fl, hok, ub, na, os, ag, hE⟩ := (show L2N.CX P w outer (minus H cs) s _ e s' from h)
    have hn : ∀ c ∈ cs, Hm c = none := fun c hc => by
      obtain ⟨o, q⟩ := there c hc
      exact ub.free c o q (minus_in hc)
    have ac : a ∉ cs := fun z => by
      obtain ⟨o, q⟩ := there a z
      have := ub.keep a o q (minus_in z) (nf a z)
      rw [fl.2.1] at this
      cases this
    refine (show L2N.CX P w outer H s E (.ref a) s' from ⟨a, B, plus Hm H cs, cls, d, rfl, fl, hok_plus k x hok hn (fun c hc o q => ub.keep c o q (minus_in hc) (nf c hc)), ⟨fun b o q n hb => ?_, ub.slot, fun b o q n => ?_, ub.there, fun b xs q => ?_, fun b o u q => ?_, fun b ps q => ?_⟩, by rw [plus_out ac]; exact na, os, ag, hE hn⟩)
    · have nb : b ∉ cs := fun z => by obtain ⟨o', e'⟩ := k b z; rw [n] at e'; cases e'
      exact ub.keep b o q (by rw [minus_out nb]; exact n) hb
    · have nb : b ∉ cs := fun z => by obtain ⟨o', e'⟩ := k b z; rw [n] at e'; cases e'
      rw [plus_out nb]
      exact ub.free b o q (by rw [minus_out nb]; exact n)
    · exact grow_plus hn _ _ (ub.tups b xs (minus_of (k.not q notTup) q))
    · exact grow_plus hn _ _ (ub.frzs b o u (minus_of (k.not q notFrz) q))
    · obtain ⟨more, e⟩ := ub.tbls b ps (minus_of (k.not q notTblE) q)
      exact ⟨more, grow_plus hn _ _ e⟩
  | ok fl =>
    cases fl with
    | next => exact (show False from h).elim
    | brk => exact (show False from h).elim
    | cont => exact (show False from h).elim
    | ret u =>
      obtain ⟨v, Hm, os, bare, un, hok, rv, q⟩ := (show CE outer P w (minus H cs) s _ u s' from h)
      have hn : ∀ c ∈ cs, Hm c = none := fun c hc => by
        obtain ⟨o, q⟩ := there c hc
        exact un.free c o q (minus_in hc) (by simp)
      refine (show CE outer P w H s Q u s' from ⟨v, plus Hm H cs, os, bare, ⟨fun b o q n hb hx => ?_, fun b o q n hb hx => ?_, fun b o q n hx => ?_, un.there, fun b xs q => ?_, fun b o u q => ?_, fun b ps q => ?_⟩, hok_plus k x hok hn (fun c hc o q => un.keep c o q (minus_in hc) (nf c hc) (by simp)), rv, q hn⟩)
      · have nb : b ∉ cs := fun z => by obtain ⟨o', e'⟩ := k b z; rw [n] at e'; cases e'
        exact un.keep b o q (by rw [minus_out nb]; exact n) hb hx
      · have nb : b ∉ cs := fun z => by obtain ⟨o', e'⟩ := k b z; rw [n] at e'; cases e'
        exact un.slot b o q (by rw [minus_out nb]; exact n) hb hx
      · have nb : b ∉ cs := fun z => by obtain ⟨o', e'⟩ := k b z; rw [n] at e'; cases e'
        rw [plus_out nb]
        exact un.free b o q (by rw [minus_out nb]; exact n) hx
      · exact grow_plus hn _ _ (un.tups b xs (minus_of (k.not q notTup) q))
      · exact grow_plus hn _ _ (un.frzs b o u (minus_of (k.not q notFrz) q))
      · obtain ⟨more, e⟩ := un.tbls b ps (minus_of (k.not q notTblE) q)
        exact ⟨more, grow_plus hn _ _ e⟩
end
end Ev

set_option Elab.async false
set_option linter.all false
set_option autoImplicit false
set_option maxRecDepth 100000
set_option maxHeartbeats 2000000
/-! xs[:h:-1]. Own work. -/
namespace Ev
open PySem PySem.Spec PyProof.Rows L2
theorem back_range {α : Type} (xs : Array α) : ∀ (c : Nat), c ≤ xs.size → ((List.range c).map fun k => xs.size - 1 - k).filterMap (xs[·]?) = (xs.toList.drop (xs.size - c)).reverse
  | 0, _ => by
    rw [Nat.sub_zero, List.drop_eq_nil_of_le (by rw [Array.length_toList]; exact Nat.le_refl _)]
    rfl
  | c + 1, h => by
    have ih := back_range xs c (by omega)
    have hlt : xs.size - (c + 1) < xs.toList.length := by rw [Array.length_toList]; omega
    rw [List.range_succ, List.map_append, List.filterMap_append, ih, List.drop_eq_getElem_cons hlt, List.reverse_cons, show xs.size - (c + 1) + 1 = xs.size - c by omega]
    congr 1
    have e : xs[xs.size - 1 - c]? = some (xs.toList[xs.size - (c + 1)]) := by
      rw [show xs.size - 1 - c = xs.size - (c + 1) by omega, Array.getElem_toList, Array.getElem?_eq_getElem (by rw [Array.length_toList] at hlt; exact hlt)]
    simp [e]
theorem back_bounds (h n : Nat) : sliceBounds none (some (h : Int)) (some (-1)) n = ((n : Int) - 1, max (-1) (min (h : Int) ((n : Int) - 1)), -1) := by
  have h0 : ¬ ((h : Int) < 0) := by omega
  simp [sliceBounds, h0]
theorem back_pick (items : Array Value) (h : Nat) : slicePick items none (some (h : Int)) (some (-1)) = ((items.toList.drop (h + 1)).reverse).toArray := by
  unfold slicePick
  rw [back_bounds]
  show ((sliceRange ((items.size : Int) - 1) (max (-1) (min (h : Int) ((items.size : Int) - 1))) (-1)).filterMap (items[·]?)).toArray = _
  congr 1
  by_cases hn : items.size ≤ h + 1
  · have e : sliceRange ((items.size : Int) - 1) (max (-1) (min (h : Int) ((items.size : Int) - 1))) (-1) = [] := by
      unfold sliceRange
      have h1 : ¬ ((-1 : Int) > 0) := by decide
      have h2 : ¬ ((items.size : Int) - 1 > max (-1) (min (h : Int) ((items.size : Int) - 1))) := by omega
      simp only [h1, if_false, h2]
      rfl
    rw [e, List.drop_eq_nil_of_le (by rw [Array.length_toList]; exact hn)]
    rfl
  · have e : sliceRange ((items.size : Int) - 1) (max (-1) (min (h : Int) ((items.size : Int) - 1))) (-1) = (List.range (items.size - (h + 1))).map fun k => items.size - 1 - k := by
      unfold sliceRange
      have h1 : ¬ ((-1 : Int) > 0) := by decide
      have hm : max (-1) (min (h : Int) ((items.size : Int) - 1)) = (h : Int) := by omega
      have h2 : (items.size : Int) - 1 > (h : Int) := by omega
      have h3 : ((items.size : Int) - 1 - (h : Int) - -1 - 1) / (- -1) = ((items.size - (h + 1) : Nat) : Int) := by
        rw [show (- -1 : Int) = 1 by decide, Int.ediv_one]
        omega
      simp only [hm, h1, if_false, h2, if_true, h3, Int.toNat_natCast]
      apply List.map_congr_left
      intro k hk
      have := List.mem_range.mp hk
      omega
    rw [e, back_range items _ (by omega), show items.size - (items.size - (h + 1)) = h + 1 by omega]
def tBack (K : PySem.W.Frag) (h : Nat) (te : TE) : TE := fun σ H Q => te σ H fun x H1 => ∃ a xs, x = .ref a ∧ SqL K H1 a xs ∧ ∀ p, H1 p = none → Q (.ref p) (upd H1 p (.lst (xs.drop (h + 1)).reverse))
theorem vals_drop {xs : List V} {us : List Value} (n : Nat) (r : Vals xs us) : Vals (xs.drop n) (us.drop n) := by
  induction n generalizing xs us with
  | zero => exact r
  | succ n ih =>
    cases r with
    | nil => exact .nil
    | cons _ r2 => exact ih r2
theorem pe_back {X : Cx} {e : Expr} {te : TE} {h k k2 : Nat} {p1 p2 p3 p4 pos : Pos} (he : PE X e te) : PE X (.Subscript e (.Slice none (some (.Constant (.int h) k2 p4)) (some (.UnaryOp .USub (.Constant (.int 1) k p1) p2)) p3) pos) (tBack X.K h te) := by
  refine ⟨fun pins s σ H Q I hh => ?_⟩
  refine Subscript_ (thn (he.run pins s σ H _ I hh) fun v s1 ⟨x, H1, I1, r1, q1⟩ => ?_)
  obtain ⟨a, xs, ex, hx, q⟩ := q1
  subst ex
  cases r1
  have hst : PO X (some (.UnaryOp .USub (.Constant (.int 1) k p1) p2)) (tPart (tUn (rU fun i => .int (-i)) (tC (.int 1)))) := po_some (pe_un un_neg pe_int)
  have hup : PO X (some (.Constant (.int h) k2 p4)) (tPart (tC (.int h))) := po_some pe_int
  refine wpAny_Slice (thn (po_none.run pins s1 σ H1 (fun o H2 => o = none ∧ H2 = H1) I1 ⟨rfl, rfl⟩) fun vl s2 ⟨l, H2, I2, pl, el, e2⟩ => ?_)
  subst el e2
  refine thn (hup.run pins s2 σ H2 (fun o H3 => o = some (h : Int) ∧ H3 = H2) I2 ⟨(h : Int), rfl, rfl, rfl⟩) fun vu s3 ⟨u, H3, I3, pu, eu, e3⟩ => ?_
  subst eu e3
  refine thn (hst.run pins s3 σ H3 (fun o H4 => o = some (-1) ∧ H4 = H3) I3 ⟨1, rfl, -1, rfl, rfl, rfl⟩) fun vs s4 ⟨o, H4, I4, ps, eo, e4⟩ => ?_
  subst eo e4
  have I5 : L2.Inv X pins σ H4 { s4 with heap := s4.heap.push { cls := .type "slice", data := .fields #[vl, vu, vs] } } := I4.kept (t' := s4.toks) fun b ob q => Heap.get?_push_of_some _ q
  obtain ⟨its, r, ht, hz⟩ := I5.list hx
  have hlen := r.length
  show wpAny (model X.prog X.w) X.A (subscriptTail e (.Slice none (some (.Constant (.int h) k2 p4)) (some (.UnaryOp .USub (.Constant (.int 1) k p1) p2)) p3) (.ref a) (.ref s4.heap.objs.size)) (EP X pins σ Q) X.xe { s4 with heap := s4.heap.push { cls := .type "slice", data := .fields #[vl, vu, vs] } }
  refine tail_any (ops := [.ref a, .ref s4.heap.objs.size]) ht.isList.typeIs (PySem.slot_list_getitem.lookup) ?_ (by with_unfolding_all rfl)
  refine wpAny_getItem_list_slice ht.isList (Heap.IsSliceOf.new _ vl vu vs) pl pu ps (by decide) ?_ (by rw [List.size_toArray]; omega)
  rw [back_pick]
  refine ⟨.ref _, _, I5.laid (t' := s4.toks) (o := .lst (xs.drop (h + 1)).reverse) (fun b ob q => Heap.get?_push_of_some _ q) (Nat.le_refl _) ?_, rfl, q _ (I5.hok.fresh (Nat.le_refl _))⟩
  exact ⟨by rw [List.length_reverse, List.length_drop]; omega, _, 0, (vals_drop (h + 1) r).reverse, Heap.get?_push_size _ rfl⟩
end Ev

set_option Elab.async false
set_option linter.all false
set_option autoImplicit false
set_option maxRecDepth 100000
set_option maxHeartbeats 4000000
/-! t[::-1] of a tuple. Own work. -/
namespace Ev
open PySem PySem.Spec PyProof.Rows L2 HT
theorem fm_map {a b : Type} {f : a → Option b} {g : a → b} : ∀ {l : List a}, (∀ k ∈ l, f k = some (g k)) → l.filterMap f = l.map g
  | [], _ => rfl
  | x :: l, h => by rw [List.filterMap_cons, h x (by simp), List.map_cons, fm_map fun k hk => h k (by simp [hk])]
theorem rev_pick (xs : Array Value) : ((List.range xs.size).filterMap fun (k : Nat) => xs[((xs.size : Int) - 1 + (k : Int) * (-1)).toNat]?) = xs.toList.reverse := by
  have e : (List.range xs.size).filterMap (fun (k : Nat) => xs[((xs.size : Int) - 1 + (k : Int) * (-1)).toNat]?) = (List.range xs.size).map fun k => (xs.toList.reverse[k]?).getD .none := by
    refine fm_map fun k hk => ?_
    have hk := List.mem_range.mp hk
    have e1 : ((xs.size : Int) - 1 + (k : Int) * (-1)).toNat = xs.size - 1 - k := by omega
    rw [e1, List.getElem?_reverse (by simpa using hk)]
    have h2 : xs.size - 1 - k < xs.size := by omega
    simp [h2]
  rw [e]
  refine List.ext_getElem (by simp) fun i h1 h2 => ?_
  have hi : i < xs.toList.reverse.length := h2
  rw [List.getElem_map, List.getElem_range, List.getElem?_eq_getElem hi]
  rfl
section
variable {prog : Program} {w : World} {A : Around} {E : Value → Shared → Prop} {s : Shared}
theorem getItem_tuple_rev {t sl : Addr} {items : Array Value} {vl vu vs : Value} {Q : Value → Shared → Prop} (ht : IsTup s.heap t items) (hs : s.heap.IsSliceOf sl vl vu vs) (pl : IsPart vl none) (pu : IsPart vu none) (ps : IsPart vs (some (-1)))
    (h : Q (.ref s.heap.objs.size) { s with heap := s.heap.push { cls := .type "tuple", data := .seq items.toList.reverse.toArray } }) (hsz : items.size ≤ sizeLine) : wpAny (model prog w) A (getItem (.ref t) (.ref sl)) Q E s := by
  have hrev : sizeOk (.seq items.toList.reverse.toArray) := by
    show items.toList.reverse.toArray.size ≤ sizeLine
    rw [List.size_toArray, List.length_reverse, Array.length_toList]
    exact hsz
  obtain ⟨os, hos, hcs, hds⟩ := id hs
  have hTs : s.TypeIs (.ref sl) "slice" := ⟨os, hos, hcs⟩
  unfold getItem
  try with_reducible refine wpAny_holding ?_
  first | refine wpAny_bind (wpAny_pure ?_) | skip
  refine wpAny_bind (wpAny_sequenceKey ht.typeIs (by decide) ?_)
  refine wpAny_bind (wpAny_callSpecial?_slot (name := Str.ofString "__getitem__") ht.typeIs PyProof.Rows.slot_tuple_getitem (wpAny_call_entry PyProof.Rows.slot_tuple_getitem ht.typeIs entry_tuple_getitem ?_ (args_tuple_getitem _ _)))
  show wpAny _ _ (Builtin.Tuple.tupleItemsOf (.ref t) >>= _) _ _ s
  refine wpAny_bind (tupleItemsOf_ ht ?_)
  refine wpAny_bind (wpAny_typeOf hTs ?_)
  rw [if_pos (by decide)]
  have ap : ∀ Q2 : Int × Int × Nat → Shared → Prop, Q2 ((items.size : Int) - 1, -1, items.size) s → wpAny (model prog w) A.in1 (Builtin.Slice.sliceApplied (.ref sl) (pure (items.size : Int))) Q2 E s ∧ wpAny (model prog w) A (Builtin.Slice.sliceApplied (.ref sl) (pure (items.size : Int))) Q2 E s := by
    intro Q2 hq
    have gen : ∀ A' : Around, wpAny (model prog w) A' (Builtin.Slice.sliceApplied (.ref sl) (pure (items.size : Int))) Q2 E s := by
      intro A'
      unfold Builtin.Slice.sliceApplied Builtin.Slice.sliceFields
      refine wpAny_bind (wpAny_bind (wpAny_field hos hds (x := vl) rfl (wpAny_bind (wpAny_field hos hds (x := vu) rfl (wpAny_bind (wpAny_field hos hds (x := vs) rfl (wpAny_pure ?_)))))))
      refine wpAny_bind (slicePart_ ps ?_)
      show wpAny _ _ (if ((-1 : Int) == 0) = true then _ else _) _ _ s
      rw [if_neg (by decide)]
      refine wpAny_bind (slicePart_ pl (wpAny_bind (slicePart_ pu (wpAny_bind (wpAny_pure ?_)))))
      have e1 : Builtin.Slice.sliceAdjust none none (-1) (items.size : Int) = ((items.size : Int) - 1, -1) := by
        unfold Builtin.Slice.sliceAdjust
        simp
      have e2 : Builtin.Slice.slicePlaces ((items.size : Int) - 1) (-1) (-1) = items.size := by
        unfold Builtin.Slice.slicePlaces
        rw [if_neg (by decide)]
        by_cases z : items.size = 0
        · rw [z]; decide
        · rw [if_pos (by omega)]
          have : ((items.size : Int) - 1 - -1 - 1) / (- -1) + 1 = (items.size : Int) := by
            rw [show (- -1 : Int) = 1 by decide, Int.ediv_one]
            omega
          rw [this]
          simp
      show wpAny _ _ (match Builtin.Slice.sliceAdjust none none (-1) (items.size : Int) with | (lo, hi) => pure (lo, (-1 : Int), Builtin.Slice.slicePlaces lo hi (-1))) _ _ s
      rw [e1]
      show wpAny _ _ (pure ((items.size : Int) - 1, (-1 : Int), Builtin.Slice.slicePlaces ((items.size : Int) - 1) (-1) (-1))) _ _ s
      rw [e2]
      exact wpAny_pure hq
    exact ⟨gen _, gen _⟩
  refine wpAny_bind (ap _ ?_).1
  have hno : ¬ ((((items.size : Int) - 1) == 0 && (-1 : Int) == 1 && items.size == items.size) = true) := by simp
  show wpAny _ _ (if (((items.size : Int) - 1) == 0 && (-1 : Int) == 1 && items.size == items.size) = true then _ else _) _ _ s
  rw [if_neg hno, rev_pick]
  first
    | exact wpAny_bind (m := Builtin.Tuple.tupleExact _) (wpAny_newObj_type (wpAny_pure ⟨_, rfl, wpAny_pure h⟩) hrev)
    | exact wpAny_bind (m := Builtin.Tuple.tupleExact _) (wpAny_newObj_type (wpAny_bind (wpAny_pure (wpAny_pure ⟨_, rfl, wpAny_pure h⟩))) hrev)
    | exact wpAny_bind (wpAny_bind (m := Builtin.Tuple.tupleExact _) (wpAny_newObj_type (wpAny_pure (wpAny_pure ⟨_, rfl, wpAny_pure h⟩)) hrev))
    | exact wpAny_bind (wpAny_bind (m := Builtin.Tuple.tupleExact _) (wpAny_newObj_type (wpAny_pure ⟨_, rfl, wpAny_pure h⟩) hrev))
end
end Ev
namespace Ev
open PySem PySem.Spec PyProof.Rows L2 HT
/-- t[::-1] -/
def tRevT (K : PySem.W.Frag) (te : TE) : TE := fun σ H Q => te σ H fun x H1 => ∃ a xs, x = .ref a ∧ SqT K H1 a xs ∧ ∀ p, H1 p = none → Q (.ref p) (upd H1 p (.tup xs.reverse))
theorem pe_revT {X : Cx} {e : Expr} {te : TE} {k : Nat} {p1 p2 p3 pos : Pos} (he : PE X e te) : PE X (.Subscript e (.Slice none none (some (.UnaryOp .USub (.Constant (.int 1) k p1) p2)) p3) pos) (tRevT X.K te) := by
  refine ⟨fun pins s σ H Q I hh => ?_⟩
  refine Subscript_ (thn (he.run pins s σ H _ I hh) fun v s1 ⟨x, H1, I1, r1, q1⟩ => ?_)
  obtain ⟨a, xs, ex, hx, q⟩ := q1
  subst ex
  cases r1
  have hst : PO X (some (.UnaryOp .USub (.Constant (.int 1) k p1) p2)) (tPart (tUn (rU fun i => .int (-i)) (tC (.int 1)))) := po_some (pe_un un_neg pe_int)
  refine wpAny_Slice (thn (po_none.run pins s1 σ H1 (fun o H2 => o = none ∧ H2 = H1) I1 ⟨rfl, rfl⟩) fun vl s2 ⟨l, H2, I2, pl, el, e2⟩ => ?_)
  subst el e2
  refine thn (po_none.run pins s2 σ H2 (fun o H3 => o = none ∧ H3 = H2) I2 ⟨rfl, rfl⟩) fun vu s3 ⟨u, H3, I3, pu, eu, e3⟩ => ?_
  subst eu e3
  refine thn (hst.run pins s3 σ H3 (fun o H4 => o = some (-1) ∧ H4 = H3) I3 ⟨1, rfl, -1, rfl, rfl, rfl⟩) fun vs s4 ⟨o, H4, I4, ps, eo, e4⟩ => ?_
  subst eo e4
  have I5 : L2.Inv X pins σ H4 { s4 with heap := s4.heap.push { cls := .type "slice", data := .fields #[vl, vu, vs] } } := I4.kept (t' := s4.toks) fun b ob q => Heap.get?_push_of_some _ q
  obtain ⟨its, r, ht, hz⟩ := I5.tuple hx
  have hlen := r.length
  show wpAny (model X.prog X.w) X.A (subscriptTail e (.Slice none none (some (.UnaryOp .USub (.Constant (.int 1) k p1) p2)) p3) (.ref a) (.ref s4.heap.objs.size)) (EP X pins σ Q) X.xe { s4 with heap := s4.heap.push { cls := .type "slice", data := .fields #[vl, vu, vs] } }
  refine tail_any (ops := [.ref a, .ref s4.heap.objs.size]) ht.typeIs (PyProof.Rows.slot_tuple_getitem.lookup) ?_ (by with_unfolding_all rfl)
  refine getItem_tuple_rev ht (Heap.IsSliceOf.new _ vl vu vs) pl pu ps ?_ (by rw [List.size_toArray]; omega)
  refine ⟨.ref _, _, I5.laid (t' := s4.toks) (o := .tup xs.reverse) (fun b ob q => Heap.get?_push_of_some _ q) (Nat.le_refl _) ?_, rfl, q _ (I5.hok.fresh (Nat.le_refl _))⟩
  exact ⟨by rw [List.length_reverse]; omega, _, r.reverse, IsTup.new _ _⟩
end Ev

set_option Elab.async false
set_option linter.all false
set_option autoImplicit false
set_option maxRecDepth 100000
/-! Expressions: each construct's answer, by the layer's rules. Own work. -/
namespace Ev
open PySem PySem.Spec PyProof.Rows L2

/-- what a def promises, by what its level answers -/
def spF (G : Dom) (n : Nat) (m : List Val → Sto → R Val) : Sp := fun us H Q E => us.length = n ∧ ∃ S B vs, RepS G B S H ∧ RepVs G B S H vs us ∧
  Ans G (fun c d _ H' => E c d H') [] (m vs S) B S H fun v B' S' H' => ∀ u, RepV G B' S' H' v u → Q u H'
def FnFact (G : Dom) (n : Nat) (x : Str) (m : List Val → Sto → R Val) : Prop := ∃ a fd ps, G.mg x = some (.ref a) ∧ PySem.W.keepIn G.K (.ref a) = true ∧ Binds G.K fd ps [] ∧
  FnOk G.prog G.w G.K G.mg G.base (L2N.CX G.prog G.w) n a fd ps (spF G ps.length m) ∧ ∀ vs S, m vs S ≠ .stuck → vs.length = ps.length
def blts : List Str := ["len", "abs", "sum", "max", "min", "sorted", "tuple", "list", "int", "str", "all", "any", "bool", "isinstance", "range", "zip", "enumerate"]
/-- what a lambda's function object has captured, as the state tells it; the cells are not tracked -/
structure CloAt (L : LamD) (clo : List (Str × Addr)) (s : Shared) (H : Hp) (σ0 : L2.St) : Prop where
  has : ∀ y, L.scope.names.lookup y = some .free → ∃ c, clo.lookup y = some c
  inj : ∀ x y c, clo.lookup x = some c → clo.lookup y = some c → x = y
  cell : ∀ y c, clo.lookup y = some c → H c = none ∧ ∃ v : Option Value, s.heap.IsCell c v ∧ ∀ (i : Nat) (u : V), L.N[i]? = some y → σ0[i]? = some (some u) → L.scope.names.lookup y = some .free → ∃ w, v = some w ∧ RelV u w
  len : σ0.length = L.N.length
/-- what a lambda promises, by what its level answers -/
def LamFact (G : Dom) (n : Nat) (k : Nat) (m : Env → List Val → Sto → R Val) : Prop :=
  ∀ (LD : LamD) (A : Around) (outer : List PySem.Env) (s : Shared) (H : Hp) (f c' : Addr) (clo : List (Str × Addr)) (pm ctv : Value) (σ0 : L2.St) (r : Env) (vs : List Val) (us : List V) (uvals : List Value) (S : Sto) (B : List Addr) (Q : VK) (E : XK),
    G.lam k = some LD → Room n A → Env0 G.prog G.w G.K G.mg G.base A outer s H → s.heap.get? f = some (PySem.W.kla_obj "<lambda>" LD.qual LD.params LD.body LD.scope clo pm c' ctv) →
    (∃ (oc : Obj) (vs : Array Value) (t : Tok), s.heap.get? c' = some oc ∧ oc.data = .fields vs ∧ vs[1]? = some (.str LD.qual t)) → CloAt LD clo s H σ0 → RepS G B S H → RepE G B S H σ0 r → RepVs G B S H vs us → Vals us uvals →
    Ans G (fun c d _ H' => E c d H') [] (m r vs S) B S H (fun v B' S' H' => ∀ u, RepV G B' S' H' v u → Q u H') → codeAny (model G.prog G.w) A (.call (.ref f) ⟨uvals, []⟩) (CR (L2N.CX G.prog G.w) outer G.prog G.w H s Q E) s
/-- what a def promises that calls the lambda it got -/
def ErrFact (G : Dom) (n : Nat) (x : Str) (m : Nat → Env → Sto → R Val) : Prop := ∃ a fd a0, G.mg x = some (.ref a) ∧ PySem.W.keepIn G.K (.ref a) = true ∧ Binds G.K fd [a0] [] ∧
  ∀ (LD : LamD) (A : Around) (outer : List PySem.Env) (s : Shared) (H : Hp) (f c' : Addr) (clo : List (Str × Addr)) (pm ctv : Value) (σ0 : L2.St) (k : Nat) (r : Env) (S : Sto) (B : List Addr) (Q : VK) (args : Args),
    G.lam k = some LD → Room n A → Env0 G.prog G.w G.K G.mg G.base A outer s H → s.heap.get? f = some (PySem.W.kla_obj "<lambda>" LD.qual LD.params LD.body LD.scope clo pm c' ctv) → H f = none → f ∉ frs outer →
    H c' = some (LamX.CodeO c' LD.qual) → CloAt LD clo s H σ0 → RepS G B S H → RepE G B S H σ0 r → BindsTo s fd args ([a0].zip [.ref f]) →
    Ans G (fun _ _ _ _ => False) [] (m k r S) B S H (fun v B' S' H' => ∀ u, RepV G B' S' H' v u → Q u H') → codeAny (model G.prog G.w) A (.call (.ref a) args) (CR (L2N.CX G.prog G.w) outer G.prog G.w H s Q fun _ _ _ => False) s
structure Gok (G : Dom) (C : Calls) (n : Nat) : Prop where
  fns : ∀ f x, G.fname f = some x → FnFact G n x (C.fn f)
  lams : ∀ k, LamFact G n k (C.lam k)
  errs : ∀ told x, G.ename told = some x → ErrFact G n x (C.err told)
  glob : ∀ g x d, G.gname g = some x → C.glob g = some d → ∃ u v, G.mg x = some u ∧ RelV v u ∧ ∀ L H, RepD G L H d v
  blt : ∀ x ∈ blts, G.mg x = none
  exc : ∀ c x, G.cname c = some x → ∃ Cd, G.mg x = some (.ref Cd) ∧ PySem.W.excIn G.K Cd He.veBase "ValueError.__new__" = true ∧ PySem.W.keepIn G.K (.ref Cd) = true ∧
    PySem.W.subIn G.K (.ref Cd) (.type "BaseException") = some true ∧ PySem.W.typeIn G.K (.ref Cd) = some (.type "type")
structure Cok (G : Dom) (C : Calls) (n : Nat) (X : Cx) (N : List Str) (sc : Scope) (W : WX) : Prop where
  gok : Gok G C n
  hP : X.prog = G.prog
  hw : X.w = G.w
  hK : X.K = G.K
  hm : X.mg = G.mg
  hb : X.base = G.base
  hN : X.N = N
  nd : N.Nodup
  hS : X.env.scope = sc
  calm : X.calm = true
  room : Room n X.A
  takes : L2N.Takes X W
  mkl : ∀ q, (N, q) ∈ G.mkq → q = X.env.qual ++ "<lambda>" ∧ ∃ c P, X.env.code = .ref c ∧ LamX.TabB X.base X.mg c P ∧ (P, q) ∈ G.T ∧ ∀ p ∈ G.T, p.1 = P → p.2 = q
  cab : ∀ q, (N, q) ∈ G.mkq → sc.names.lookup (".0" : Str) = none → ∀ x, X.fn x = true
theorem Cok.hu {G C n X N sc W} (k : Cok G C n X N sc W) : X.A.units + 65 < cLine := by have := k.room.un; omega
/-! ### names -/
def visB (sc : Scope) (x : Str) : Bool := (match sc.names.lookup x with | some .local => true | some .cell => true | some .free => true | _ => false) && !(x == ("__debug__" : Str)) && !(x == ("__classdict__" : Str))
def locB (sc : Scope) (x : Str) : Bool := match sc.names.lookup x with | some .local => true | some .cell => true | _ => false
def glB (sc : Scope) (x : Str) : Bool := (match sc.names.lookup x with | some .globalImplicit => true | _ => false) && !(x == ("__debug__" : Str))
theorem visB_ok {sc : Scope} {x : Str} (h : visB sc x = true) : Vis sc x ∧ (x == ("__debug__" : Str)) = false ∧ (x == ("__classdict__" : Str)) = false := by
  unfold visB at h
  simp only [Bool.and_eq_true, Bool.not_eq_true'] at h
  obtain ⟨⟨h1, h2⟩, h3⟩ := h
  refine ⟨?_, h2, h3⟩
  unfold Vis
  split at h1 <;> simp_all
theorem locB_ok {sc : Scope} {x : Str} (h : locB sc x = true) : L2.Loc sc x := by
  unfold locB at h
  unfold L2.Loc
  split at h <;> simp_all
theorem glB_ok {sc : Scope} {x : Str} (h : glB sc x = true) : sc.names.lookup x = some .globalImplicit ∧ (x == ("__debug__" : Str)) = false := by
  unfold glB at h
  simp only [Bool.and_eq_true, Bool.not_eq_true'] at h
  obtain ⟨h1, h2⟩ := h
  refine ⟨?_, h2⟩
  split at h1 <;> simp_all
section
variable {G : Dom} {C : Calls} {n : Nat} {X : Cx} {N : List Str} {sc : Scope} {W : WX}
theorem Cok.gl (k : Cok G C n X N sc W) {x : Str} (h : glB sc x = true) : Gl X x := by
  have q := (glB_ok h).1
  rw [← k.hS] at q
  exact q
theorem Cok.vis (k : Cok G C n X N sc W) {x : Str} (h : visB sc x = true) : Vis X.env.scope x := by rw [k.hS]; exact (visB_ok h).1
/-! ### lists of arguments -/
def nStar : Expr → Bool
  | .Starred _ _ => false
  | _ => true
theorem starEach_ns {e : Expr} {es : List Expr} {env : PySem.Env} (h : nStar e = true) : starEach (e :: es) env = (false, eval e env) :: starEach es env := by
  cases e <;> first | rfl | (simp [nStar] at h)
theorem star_any {es : List Expr} {env : PySem.Env} {pos : Pos} (h : es.all nStar = true) : (backTo pos (starEach es env)).any (·.1) = false := by
  induction es with
  | nil => rfl
  | cons e es ih =>
    simp only [List.all_cons, Bool.and_eq_true] at h
    rw [starEach_ns h.1]
    show (false || (backTo pos (starEach es env)).any (·.1)) = false
    rw [ih h.2]
    rfl
variable {a b c e : Expr} {es : List Expr} {ma mb mc : Env → Sto → R Val} {md : Env → Sto → R (List D)} {mv : Env → Sto → R (List Val)} {mt : Env → Sto → R Bool} {pos : Pos}
theorem d_nil : PA X [] (tD G W fun _ S => .ok [] S) := by
  refine ⟨fun pos pins s σ H Q I h => ?_⟩
  obtain ⟨r, S, B, re, rs, an⟩ := h
  exact pa_nil.run pos pins s σ H Q I (an.done rs [] rfl)
theorem d_cons (ha : PE X e (tE G W ma)) (hr : PA X es (tD G W md)) (hs : nStar e = true) :
    PA X (e :: es) (tD G W fun r S => bindP (ma r S) fun x S => (md r S).bind fun xs S => .ok (x :: xs) S) := by
  refine ⟨fun pos pins s σ H Q I h => ?_⟩
  obtain ⟨r, S, B, re, rs, an⟩ := h
  refine (pa_cons ha hr (starEach_ns hs)).run pos pins s σ H Q I ?_
  refine ⟨r, S, B, re, rs, an.bindP.mono fun v B1 S1 H1 s1 r1 ⟨x, ex, an1⟩ u ru => ?_⟩
  subst ex
  refine ⟨r, S1, B1, re.stp s1 rs, r1, an1.bind.mono fun xs B2 S2 H2 s2 r2 an2 us rus => ?_⟩
  exact an2.done r2 _ ⟨u, us, rfl, RepD.stp s2 r1 ru, rus⟩
theorem v_nil : PA X [] (tA G W fun _ S => .ok [] S) := by
  refine ⟨fun pos pins s σ H Q I h => ?_⟩
  obtain ⟨r, S, B, re, rs, an⟩ := h
  exact pa_nil.run pos pins s σ H Q I (an.done rs [] rfl)
theorem v_cons (ha : PE X e (tE G W ma)) (hr : PA X es (tA G W mv)) (hs : nStar e = true) :
    PA X (e :: es) (tA G W fun r S => (ma r S).bind fun x S => (mv r S).bind fun xs S => .ok (x :: xs) S) := by
  refine ⟨fun pos pins s σ H Q I h => ?_⟩
  obtain ⟨r, S, B, re, rs, an⟩ := h
  refine (pa_cons ha hr (starEach_ns hs)).run pos pins s σ H Q I ?_
  refine ⟨r, S, B, re, rs, an.bind.mono fun v B1 S1 H1 s1 r1 an1 u ru => ?_⟩
  refine ⟨r, S1, B1, re.stp s1 rs, r1, an1.bind.mono fun xs B2 S2 H2 s2 r2 an2 us rus => ?_⟩
  exact an2.done r2 _ ⟨u, us, rfl, RepV.stp s2 r1 ru, rus⟩
/-! ### leaves -/
theorem s_var (k : Cok G C n X N sc W) {i : Nat} {x : Str} (h1 : N[i]? = some x) (h2 : visB sc x = true) : PE X (.Name x pos) (tE G W fun r S => .ofO (getV r i) S) := by
  refine ⟨fun pins s σ H Q I h => ?_⟩
  obtain ⟨r, S, B, re, rs, an⟩ := h
  obtain ⟨v, e, an⟩ := an.ofO
  obtain ⟨u, e1, e2⟩ := re.get e
  exact (pe_var (i := i) (by rw [k.hN]; exact h1) (k.vis h2) (visB_ok h2).2.1 (visB_ok h2).2.2).run pins s σ H Q I ⟨u, e1, an.done rs u e2⟩
def litB : D → Const → Bool
  | .non, .none => true
  | .bl b, .bool c => b == c
  | .int i, .int j => i == j
  | .str x, .str y => x == y
  | _, _ => false
theorem s_lit {d : D} {c : Const} {j : Nat} (h : litB d c = true) : PE X (.Constant c j pos) (tE G W fun _ S => .ok (.d d) S) := by
  refine ⟨fun pins s σ H Q I hq => ?_⟩
  obtain ⟨r, S, B, re, rs, an⟩ := hq
  have q := an.done rs
  cases d <;> cases c <;> simp [litB] at h
  · exact pe_non.run pins s σ H Q I (q _ rfl)
  · subst h; exact pe_bl.run pins s σ H Q I (q _ rfl)
  · subst h; exact pe_int.run pins s σ H Q I (q _ rfl)
  · subst h; exact pe_str.run pins s σ H Q I (q _ rfl)
theorem s_fnr (k : Cok G C n X N sc W) {f : Nat} {x : Str} (h1 : G.fname f = some x) (h2 : glB sc x = true) : PE X (.Name x pos) (tE G W fun _ S => .ok (.d (.fn f)) S) := by
  refine ⟨fun pins s σ H Q I h => ?_⟩
  obtain ⟨r, S, B, re, rs, an⟩ := h
  obtain ⟨a, fd, ps, hm, _⟩ := k.gok.fns f x h1
  exact (pe_glob (v := .ref a) (k.gl h2) (by rw [k.hm]; exact hm) rfl (glB_ok h2).2).run pins s σ H Q I (an.done rs _ ⟨a, x, rfl, h1, hm⟩)
theorem s_glob (k : Cok G C n X N sc W) {g : Nat} {x : Str} (h1 : G.gname g = some x) (h2 : glB sc x = true) : PE X (.Name x pos) (tE G W fun _ S => .ofO ((C.glob g).map .d) S) := by
  refine ⟨fun pins s σ H Q I h => ?_⟩
  obtain ⟨r, S, B, re, rs, an⟩ := h
  obtain ⟨v, e, an⟩ := an.ofO
  simp only [Option.map_eq_some_iff] at e
  obtain ⟨d, e, rfl⟩ := e
  obtain ⟨u, v, hm, hr, hd⟩ := k.gok.glob g x d h1 e
  exact (pe_glob (v := v) (k.gl h2) (by rw [k.hm]; exact hm) hr (glB_ok h2).2).run pins s σ H Q I (an.done rs _ (hd _ _))
/-! ### displays -/
theorem small_len {k : Nat} (h : k ≤ 1000) : k ≤ sizeLine := by rw [sizeLine_eq]; omega
theorem s_tup {k : Nat} (hd : PA X es (tD G W md)) (hl : ∀ r S xs S', md r S = .ok xs S' → xs.length ≤ 1000) : PE X (.Tuple es k pos) (tE G W fun r S => (md r S).bind fun xs S => .ok (.d (.tup xs)) S) := by
  refine ⟨fun pins s σ H Q I h => ?_⟩
  obtain ⟨r, S, B, re, rs, an⟩ := h
  refine (pe_tup hd).run pins s σ H Q I ⟨r, S, B, re, rs, ?_⟩
  have an' := an.bind
  cases e : md r S with
  | ok xs S1 =>
    rw [e] at an'
    intro B1 H1 s1 r1 us rus
    refine ⟨small_len (by rw [RepDs.len rus]; exact hl _ _ _ _ e), fun p hp => ?_⟩
    have g := Grow.new (o := .tup us) hp
    exact (an' B1 H1 s1 r1).ok (Stp.grow g) (r1.grow g) _ ⟨p, us, rfl, .of upd_same, RepDs.ext (g.ext _) r1.liveOk _ _ rus⟩
  | exc c S1 => rw [e] at an'; exact an'
  | stuck => rw [e] at an'; exact an'
theorem s_lst (hd : PA X es (tD G W md)) (hl : ∀ r S xs S', md r S = .ok xs S' → xs.length ≤ 1000) : PE X (.List es pos) (tE G W fun r S => (md r S).bind fun xs S => .ok (.d (.lst xs)) S) := by
  refine ⟨fun pins s σ H Q I h => ?_⟩
  obtain ⟨r, S, B, re, rs, an⟩ := h
  refine (pe_lst hd).run pins s σ H Q I ⟨r, S, B, re, rs, ?_⟩
  have an' := an.bind
  cases e : md r S with
  | ok xs S1 =>
    rw [e] at an'
    intro B1 H1 s1 r1 us rus
    refine ⟨small_len (by rw [RepDs.len rus]; exact hl _ _ _ _ e), fun p hp => ?_⟩
    have g := Grow.new (o := .lst us) hp
    exact (an' B1 H1 s1 r1).ok (Stp.grow g) (r1.grow g) _ ⟨p, us, rfl, upd_same, r1.liveOk.fresh hp, RepDs.ext (g.ext _) r1.liveOk _ _ rus⟩
  | exc c S1 => rw [e] at an'; exact an'
  | stuck => rw [e] at an'; exact an'
/-! ### a new box -/
theorem live_snoc {B : List Addr} {S : Sto} {p q : Addr} {c : Cell} (hl : B.length = S.length) (h : Live (B ++ [p]) (S ++ [c]) q) : Live B S q ∨ q = p := by
  obtain ⟨i, c', e1, e2, e3⟩ := h
  by_cases hi : i < B.length
  · rw [List.getElem?_append_left hi] at e1
    rw [List.getElem?_append_left (by omega)] at e2
    exact .inl ⟨i, c', e1, e2, e3⟩
  · rw [List.getElem?_append_right (by omega)] at e1
    have : i - B.length = 0 := by
      cases q' : i - B.length with
      | zero => rfl
      | succ k => rw [q'] at e1; simp at e1
    rw [this] at e1
    simp at e1
    exact .inr e1.symm
theorem RepS.snoc {B : List Addr} {S : Sto} {H : Hp} {p : Addr} {us : List V} {xs : List D} (r : RepS G B S H) (hp : H p = none) (rus : RepDs G (Live B S) H xs us) :
    Stp B S H (B ++ [p]) (S ++ [.lst xs]) (upd H p (.lst us)) ∧ RepS G (B ++ [p]) (S ++ [.lst xs]) (upd H p (.lst us)) := by
  have g := Grow.new (o := .lst us) hp
  have hn : ¬ Live B S p := r.liveOk.fresh hp
  have x : Ext (Live B S) (Live (B ++ [p]) (S ++ [.lst xs])) H (upd H p (.lst us)) := by
    refine ⟨fun a o e _ _ => g a o e, fun a l => ?_⟩
    rcases live_snoc r.len l with l | rfl
    · exact .inl l
    · exact .inr fun o e => by rw [hp] at e; cases e
  refine ⟨⟨x, by simp⟩, ?_⟩
  refine ⟨by simp [r.len], fun i c a e1 e2 => ?_, fun i j c d a e1 e2 n1 n2 e3 e4 => ?_, r.tabs.ext g⟩
  · by_cases hi : i < S.length
    · rw [List.getElem?_append_left hi] at e1
      rw [List.getElem?_append_left (by rw [r.len]; exact hi)] at e2
      have h := r.cell i c a e1 e2
      cases c with
      | dead => exact h
      | lst zs => obtain ⟨vs, h1, h2⟩ := h; exact ⟨vs, g _ _ h1, RepDs.ext x r.liveOk _ _ h2⟩
      | obj c fs => obtain ⟨C, dx, vs, y, h0, h1, h2, h3, h4⟩ := h; exact ⟨C, dx, vs, y, h0, h1, g _ _ h2, h3, RepDs.ext x r.liveOk _ _ h4⟩
    · rw [List.getElem?_append_right (by omega)] at e1
      rw [List.getElem?_append_right (by rw [r.len]; omega)] at e2
      have hz : i - S.length = 0 := by
        cases q' : i - S.length with
        | zero => rfl
        | succ k => rw [q'] at e1; simp at e1
      rw [hz] at e1
      rw [r.len, hz] at e2
      simp at e1 e2
      subst e1 e2
      exact ⟨us, upd_same, RepDs.ext x r.liveOk _ _ rus⟩
  · have in_ : ∀ (i : Nat) (c : Cell) (a : Addr), (S ++ [Cell.lst xs])[i]? = some c → c ≠ Cell.dead → (B ++ [p])[i]? = some a → (i < S.length ∧ S[i]? = some c ∧ B[i]? = some a ∧ a ≠ p) ∨ (i = S.length ∧ a = p) := by
      intro i c a e1 n1 e2
      by_cases hi : i < S.length
      · rw [List.getElem?_append_left hi] at e1
        rw [List.getElem?_append_left (by rw [r.len]; exact hi)] at e2
        exact .inl ⟨hi, e1, e2, fun z => hn (z ▸ ⟨i, c, e2, e1, n1⟩)⟩
      · rw [List.getElem?_append_right (by omega)] at e1
        rw [List.getElem?_append_right (by rw [r.len]; omega)] at e2
        have hz : i - S.length = 0 := by
          cases q' : i - S.length with
          | zero => rfl
          | succ k => rw [q'] at e1; simp at e1
        rw [r.len, hz] at e2
        simp at e2
        exact .inr ⟨by omega, e2.symm⟩
    rcases in_ i c a e1 n1 e3 with ⟨h1, h2, h3, h4⟩ | ⟨h1, h2⟩ <;> rcases in_ j d a e2 n2 e4 with ⟨g1, g2, g3, g4⟩ | ⟨g1, g2⟩
    · exact r.nd i j c d a h2 g2 n1 n2 h3 g3
    · exact absurd g2 h4
    · exact absurd h2 g4
    · omega
theorem s_box (hd : PA X es (tD G W md)) (hl : ∀ r S xs S', md r S = .ok xs S' → xs.length ≤ 1000) : PE X (.List es pos) (tE G W fun r S => (md r S).bind fun xs S => .ok (.box S.length) (S ++ [.lst xs])) := by
  refine ⟨fun pins s σ H Q I h => ?_⟩
  obtain ⟨r, S, B, re, rs, an⟩ := h
  refine (pe_lst hd).run pins s σ H Q I ⟨r, S, B, re, rs, ?_⟩
  have an' := an.bind
  cases e : md r S with
  | ok xs S1 =>
    rw [e] at an'
    intro B1 H1 s1 r1 us rus
    refine ⟨small_len (by rw [RepDs.len rus]; exact hl _ _ _ _ e), fun p hp => ?_⟩
    obtain ⟨st, r2⟩ := r1.snoc hp rus
    exact (an' B1 H1 s1 r1).ok st r2 _ ⟨p, rfl, by rw [← r1.len]; simp⟩
  | exc c S1 => rw [e] at an'; exact an'
  | stuck => rw [e] at an'; exact an'
/-! ### operators -/
theorem Ans.gives {σ : L2.St} {z : D} {B : List Addr} {S : Sto} {H : Hp} {Q : VK} (an : Ans G W σ (.ok (.d z) S : R Val) B S H fun v B' S' H' => ∀ u, RepV G B' S' H' v u → Q u H') (r : RepS G B S H) : Gives G (Live B S) H z Q :=
  fun v H' g rv => an.ok (Stp.grow g) (r.grow g) v rv
theorem s_neg (ha : PE X a (tE G W ma)) : PE X (.UnaryOp .USub a pos) (tE G W fun r S => bindP (ma r S) fun x S => (match x with | .int i => .ok (.d (.int (-i))) S | _ => .stuck)) := by
  refine ⟨fun pins s σ H Q I h => ?_⟩
  obtain ⟨r, S, B, re, rs, an⟩ := h
  refine (pe_un (un_neg_D (G := G)) ha).run pins s σ H Q I ⟨r, S, B, re, rs, an.bindP.mono fun v B1 S1 H1 s1 r1 ⟨x, ex, an1⟩ u ru => ?_⟩
  subst ex
  cases x with
  | int i => exact ⟨_, .int i, .int (-i), r1.liveOk, ru, rfl, an1.gives r1⟩
  | _ => exact an1.elim
theorem s_not (ha : PE X a (tE G W ma)) : PE X (.UnaryOp .Not a pos) (tE G W fun r S => bindP (ma r S) fun x S => (match x with | .bl b => .ok (.d (.bl (!b))) S | _ => .stuck)) := by
  refine ⟨fun pins s σ H Q I h => ?_⟩
  obtain ⟨r, S, B, re, rs, an⟩ := h
  refine (pe_not ha).run pins s σ H Q I ⟨r, S, B, re, rs, an.bindP.mono fun v B1 S1 H1 s1 r1 ⟨x, ex, an1⟩ u ru => ?_⟩
  subst ex
  cases x with
  | bl i => cases (show u = _ from ru); exact ⟨i, rfl, an1.done r1 _ rfl⟩
  | _ => exact an1.elim
theorem s_bin (k : Cok G C n X N sc W) {op : BOp} (ha : PE X a (tE G W ma)) (hb : PE X b (tE G W mb)) :
    PE X (.BinOp a (pyB op) b pos) (tE G W fun r S => bindP (ma r S) fun x S => bindP (mb r S) fun y S => .ofO ((binD op x y).map .d) S) := by
  refine ⟨fun pins s σ H Q I h => ?_⟩
  obtain ⟨r, S, B, re, rs, an⟩ := h
  refine (pe_op (op_bin_D k.hK op) ha hb).run pins s σ H Q I ⟨r, S, B, re, rs, an.bindP.mono fun v B1 S1 H1 s1 r1 ⟨x, ex, an1⟩ u ru => ?_⟩
  subst ex
  refine ⟨r, S1, B1, re.stp s1 rs, r1, an1.bindP.mono fun v B2 S2 H2 s2 r2 ⟨y, ey, an2⟩ w rw => ?_⟩
  subst ey
  obtain ⟨z, hz, an3⟩ := an2.ofO
  simp only [Option.map_eq_some_iff] at hz
  obtain ⟨z, hz, rfl⟩ := hz
  exact ⟨_, x, y, z, r2.liveOk, RepD.stp s2 r1 ru, rw, hz, an3.gives r2⟩
end
end Ev

set_option Elab.async false
set_option linter.all false
set_option autoImplicit false
set_option maxRecDepth 100000
/-! Expressions, further: comparisons, conditions, subscripts, calls, texts. Own work. -/
namespace Ev
open PySem PySem.Spec PyProof.Rows L2
section
variable {G : Dom} {C : Calls} {n : Nat} {X : Cx} {N : List Str} {sc : Scope} {W : WX} {L L' : Addr → Prop} {H : Hp} {B : List Addr} {S : Sto}
mutual
theorem RepD.sub (h : ∀ a, L' a → L a) : ∀ (d : D) (v : V), RepD G L H d v → RepD G L' H d v
  | .non, _, r => r
  | .bl _, _, r => r
  | .int _, _, r => r
  | .str _, _, r => r
  | .fn _, _, r => r
  | .scr _, _, r => r
  | .lst ds, v, ⟨a, vs, e, r, k, q⟩ => ⟨a, vs, e, r, fun z => k (h a z), RepDs.sub h ds vs q⟩
  | .tup ds, v, ⟨a, vs, e, r, q⟩ => ⟨a, vs, e, r, RepDs.sub h ds vs q⟩
theorem RepDs.sub (h : ∀ a, L' a → L a) : ∀ (ds : List D) (vs : List V), RepDs G L H ds vs → RepDs G L' H ds vs
  | [], _, r => r
  | d :: ds, vs, ⟨v, r, e, h1, h2⟩ => ⟨v, r, e, RepD.sub h d v h1, RepDs.sub h ds r h2⟩
end
def Noone : Addr → Prop := fun _ => False
theorem noone_ok (H : Hp) : LiveOk Noone H := fun _ h => h.elim
/-- a box read as a list: nothing counts as changeable -/
theorem rdV_ok (r : RepS G B S H) {v : Val} {u : V} {d : D} (e : rdV S v = some d) (ru : RepV G B S H v u) : RepD G Noone H d u := by
  cases v with
  | d x => cases e; exact RepD.sub (fun _ h => h.elim) _ _ ru
  | box n =>
    obtain ⟨a, rfl, ha⟩ := ru
    simp only [rdV] at e
    split at e
    · rename_i xs hs
      cases e
      obtain ⟨vs, h1, h2⟩ := r.cell n _ a hs ha
      exact ⟨a, vs, rfl, h1, fun z => z, RepDs.sub (fun _ h => h.elim) _ _ h2⟩
    · cases e
  | _ => cases e
variable {a b c e : Expr} {es : List Expr} {ma mb mc : Env → Sto → R Val} {md : Env → Sto → R (List D)} {mv : Env → Sto → R (List Val)} {mt : Env → Sto → R Bool} {pos : Pos}
theorem s_cmp (k : Cok G C n X N sc W) {op : COp} (ha : PE X a (tE G W ma)) (hb : PE X b (tE G W mb)) (hm : behindInMarks (pyC op) b = false) :
    PE X (.Compare a [pyC op] [b] pos) (tE G W fun r S => (ma r S).bind fun v S => bindD (mb r S) fun y S => (match rdV S v with | some x => .ofO ((cmpD op x y).map fun b => .d (.bl b)) S | none => .stuck)) := by
  refine ⟨fun pins s σ H Q I h => ?_⟩
  obtain ⟨r, S, B, re, rs, an⟩ := h
  refine (pe_cmpR (op_cmp_D k.hK k.hu op) ha hb hm).run pins s σ H Q I ⟨r, S, B, re, rs, an.bind.mono fun v B1 S1 H1 s1 r1 an1 u ru => ?_⟩
  refine ⟨r, S1, B1, re.stp s1 rs, r1, an1.bindD.mono fun w B2 S2 H2 s2 r2 ⟨y, ey, an2⟩ t rt => ?_⟩
  cases e : rdV S2 v with
  | none => rw [e] at an2; exact an2.elim
  | some x =>
    rw [e] at an2
    obtain ⟨z, hz, an3⟩ := an2.ofO
    simp only [Option.map_eq_some_iff] at hz
    obtain ⟨z, hz, rfl⟩ := hz
    exact ⟨Noone, x, y, z, noone_ok _, rdV_ok r2 e (RepV.stp s2 r1 ru), rdV_ok r2 ey rt, hz, an3.done r2 _ rfl⟩
/-- .. as a test -/
theorem t_cmp (k : Cok G C n X N sc W) {op : COp} (ha : PE X a (tE G W ma)) (hb : PE X b (tE G W mb)) (hm : behindInMarks (pyC op) b = false) :
    PT X (.Compare a [pyC op] [b] pos) (tT G W fun r S => bindD ((ma r S).bind fun v S => bindD (mb r S) fun y S => (match rdV S v with | some x => .ofO ((cmpD op x y).map fun b => .d (.bl b)) S | none => .stuck)) fun x S => .ofO (truD x) S) := by
  refine ⟨fun pins s σ H Q I h => ?_⟩
  obtain ⟨r, S, B, re, rs, an⟩ := h
  have an0 := an.bindD.bind
  refine (pt_cmpR (op_cmp_D k.hK k.hu op) ha hb hm).run pins s σ H Q I ⟨r, S, B, re, rs, an0.mono fun v B1 S1 H1 s1 r1 an1 u ru => ?_⟩
  refine ⟨r, S1, B1, re.stp s1 rs, r1, an1.bindD.mono fun w B2 S2 H2 s2 r2 ⟨y, ey, an2⟩ t rt => ?_⟩
  cases e : rdV S2 v with
  | none => rw [e] at an2; exact an2.elim
  | some x =>
    rw [e] at an2
    obtain ⟨z, hz, an3⟩ := an2.ofO
    simp only [Option.map_eq_some_iff] at hz
    obtain ⟨z, hz, rfl⟩ := hz
    refine ⟨Noone, x, y, z, noone_ok _, rdV_ok r2 e (RepV.stp s2 r1 ru), rdV_ok r2 ey rt, hz, z, rfl, ?_⟩
    obtain ⟨d, ed, an4⟩ := an3.done r2
    cases ed
    obtain ⟨q, hq, an5⟩ := an4.ofO
    cases hq
    exact an5.done r2
theorem s_chain (k : Cok G C n X N sc W) {o1 o2 : COp} (ha : PE X a (tE G W ma)) (hb : PE X b (tE G W mb)) (hc : PE X c (tE G W mc)) (hm : lastMarks [pyC o1, pyC o2] [b, c] = false) :
    PE X (.Compare a [pyC o1, pyC o2] [b, c] pos) (tE G W fun r S => bindP (ma r S) fun x S => bindP (mb r S) fun y S => (match cmpD o1 x y with
    | some true => bindP (mc r S) fun z S => .ofO ((cmpD o2 y z).map fun b => .d (.bl b)) S
    | some false => .ok (.d (.bl false)) S
    | none => .stuck)) := by
  refine ⟨fun pins s σ H Q I h => ?_⟩
  obtain ⟨r, S, B, re, rs, an⟩ := h
  refine (pe_chain (op_cmp_D k.hK k.hu o1) (op_cmp_D k.hK k.hu o2) ha hb hc hm).run pins s σ H Q I ⟨r, S, B, re, rs, an.bindP.mono fun v B1 S1 H1 s1 r1 ⟨x, ex, an1⟩ u ru => ?_⟩
  subst ex
  refine ⟨r, S1, B1, re.stp s1 rs, r1, an1.bindP.mono fun w B2 S2 H2 s2 r2 ⟨y, ey, an2⟩ t rt => ?_⟩
  subst ey
  cases e : cmpD o1 x y with
  | none => rw [e] at an2; exact an2.elim
  | some q =>
    rw [e] at an2
    refine ⟨_, x, y, q, r2.liveOk, RepD.stp s2 r1 ru, rt, e, q, rfl, ?_⟩
    cases q with
    | false => exact an2.done r2 _ rfl
    | true =>
      rw [if_pos rfl]
      refine ⟨r, S2, B2, (re.stp s1 rs).stp s2 r1, r2, an2.bindP.mono fun w' B3 S3 H3 s3 r3 ⟨z, ez, an3⟩ t3 rt3 => ?_⟩
      subst ez
      obtain ⟨q, hq, an4⟩ := an3.ofO
      simp only [Option.map_eq_some_iff] at hq
      obtain ⟨q, hq, rfl⟩ := hq
      exact ⟨_, y, z, q, r3.liveOk, RepD.stp s3 r2 rt, rt3, hq, an4.done r3 _ rfl⟩
theorem t_chain (k : Cok G C n X N sc W) {o1 o2 : COp} (ha : PE X a (tE G W ma)) (hb : PE X b (tE G W mb)) (hc : PE X c (tE G W mc)) (hm : lastMarks [pyC o1, pyC o2] [b, c] = false) :
    PT X (.Compare a [pyC o1, pyC o2] [b, c] pos) (tT G W fun r S => bindD (bindP (ma r S) fun x S => bindP (mb r S) fun y S => (match cmpD o1 x y with
    | some true => bindP (mc r S) fun z S => .ofO ((cmpD o2 y z).map fun b => .d (.bl b)) S
    | some false => .ok (.d (.bl false)) S
    | none => .stuck)) fun x S => .ofO (truD x) S) := by
  refine ⟨fun pins s σ H Q I h => ?_⟩
  obtain ⟨r, S, B, re, rs, an⟩ := h
  have an0 := an.bindD.bindP
  have fin : ∀ {B S H} {q : Bool} {σ : L2.St}, RepS G B S H → Ans G W σ (.ok (.d (.bl q)) S) B S H (fun v B1 S1 H1 => ∃ d, rdV S1 v = some d ∧ Ans G W σ (.ofO (truD d) S1) B1 S1 H1 fun b _ _ H' => Q b H') → Q q H := by
    intro B S H q σ r2 an3
    obtain ⟨d, ed, an4⟩ := an3.done r2
    cases ed
    obtain ⟨q, hq, an5⟩ := an4.ofO
    cases hq
    exact an5.done r2
  refine (pt_chain (op_cmp_D k.hK k.hu o1) (op_cmp_D k.hK k.hu o2) ha hb hc hm).run pins s σ H Q I ⟨r, S, B, re, rs, an0.mono fun v B1 S1 H1 s1 r1 ⟨x, ex, an1⟩ u ru => ?_⟩
  subst ex
  refine ⟨r, S1, B1, re.stp s1 rs, r1, an1.bindP.mono fun w B2 S2 H2 s2 r2 ⟨y, ey, an2⟩ t rt => ?_⟩
  subst ey
  cases e : cmpD o1 x y with
  | none => rw [e] at an2; exact an2.elim
  | some q =>
    rw [e] at an2
    refine ⟨_, x, y, q, r2.liveOk, RepD.stp s2 r1 ru, rt, e, q, rfl, ?_⟩
    cases q with
    | false => exact ⟨false, rfl, fin r2 an2⟩
    | true =>
      rw [if_pos rfl]
      refine ⟨r, S2, B2, (re.stp s1 rs).stp s2 r1, r2, an2.bindP.mono fun w' B3 S3 H3 s3 r3 ⟨z, ez, an3⟩ t3 rt3 => ?_⟩
      subst ez
      obtain ⟨q, hq, an4⟩ := an3.ofO
      simp only [Option.map_eq_some_iff] at hq
      obtain ⟨q, hq, rfl⟩ := hq
      exact ⟨_, y, z, q, r3.liveOk, RepD.stp s3 r2 rt, rt3, hq, q, rfl, fin r3 an4⟩
/-! ### tests -/
def plainT : Expr → Bool
  | .UnaryOp .Not _ _ => false
  | .BoolOp _ _ _ => false
  | .IfExp _ _ _ _ => false
  | .Compare _ _ _ _ => false
  | _ => true
theorem isTrue_plainT {e : Expr} {env : PySem.Env} (h : plainT e = true) (whole : Sem Value) : isTrue e env whole = (do let v ← whole; standAt e.pos; holding [v] (truthy v)) := by
  cases e with
  | UnaryOp op x p => cases op <;> first | rfl | (simp [plainT] at h)
  | _ => first | rfl | (simp [plainT] at h)
theorem t_val (k : Cok G C n X N sc W) (ha : PE X a (tE G W ma)) (hp : plainT a = true) : PT X a (tT G W fun r S => bindD (ma r S) fun x S => .ofO (truD x) S) := by
  refine ⟨fun pins s σ H Q I h => ?_⟩
  obtain ⟨r, S, B, re, rs, an⟩ := h
  refine (pt_truth ha (isTrue_plainT hp)).run pins s σ H Q I ⟨r, S, B, re, rs, an.bindD.mono fun v B1 S1 H1 s1 r1 ⟨x, ex, an1⟩ u ru => ?_⟩
  obtain ⟨q, hq, an2⟩ := an1.ofO
  refine ⟨q, ?_, an2.done r1⟩
  rw [k.hK]
  exact truD_ok (rdV_ok r1 ex ru) hq
theorem t_not (ha : PT X a (tT G W mt)) : PT X (.UnaryOp .Not a pos) (tT G W fun r S => (mt r S).bind fun b S => .ok (!b) S) := by
  refine ⟨fun pins s σ H Q I h => ?_⟩
  obtain ⟨r, S, B, re, rs, an⟩ := h
  exact (pt_not ha).run pins s σ H Q I ⟨r, S, B, re, rs, an.bind.mono fun q B1 S1 H1 s1 r1 an1 => an1.done r1⟩
variable {mt2 : Env → Sto → R Bool}
theorem t_and1 (ha : PT X a (tT G W mt)) : PW X (.BoolOp .And [a] pos) (tT G W fun r S => (mt r S).bind fun b S => if b then .ok true S else .ok false S) := by
  refine ⟨fun wh pins s σ H Q I h => ?_⟩
  obtain ⟨r, S, B, re, rs, an⟩ := h
  refine (pw_and1 ha).run wh pins s σ H Q I ⟨r, S, B, re, rs, an.bind.mono fun q B1 S1 H1 s1 r1 an1 => ?_⟩
  cases q <;> exact an1.done r1
theorem t_or1 (ha : PT X a (tT G W mt)) : PW X (.BoolOp .Or [a] pos) (tT G W fun r S => (mt r S).bind fun b S => if b then .ok true S else .ok false S) := by
  refine ⟨fun wh pins s σ H Q I h => ?_⟩
  obtain ⟨r, S, B, re, rs, an⟩ := h
  refine (pw_or1 ha).run wh pins s σ H Q I ⟨r, S, B, re, rs, an.bind.mono fun q B1 S1 H1 s1 r1 an1 => ?_⟩
  cases q <;> exact an1.done r1
theorem t_and (ha : PT X a (tT G W mt)) (hb : PW X (.BoolOp .And (b :: es) pos) (tT G W mt2)) : PW X (.BoolOp .And (a :: b :: es) pos) (tT G W fun r S => (mt r S).bind fun b S => if b then mt2 r S else .ok false S) := by
  refine ⟨fun wh pins s σ H Q I h => ?_⟩
  obtain ⟨r, S, B, re, rs, an⟩ := h
  refine (pw_and ha hb).run wh pins s σ H Q I ⟨r, S, B, re, rs, an.bind.mono fun q B1 S1 H1 s1 r1 an1 => ?_⟩
  cases q with
  | true => rw [if_pos rfl]; exact ⟨r, S1, B1, re.stp s1 rs, r1, an1⟩
  | false => rw [if_neg (by decide)]; exact an1.done r1
theorem t_or (ha : PT X a (tT G W mt)) (hb : PW X (.BoolOp .Or (b :: es) pos) (tT G W mt2)) : PW X (.BoolOp .Or (a :: b :: es) pos) (tT G W fun r S => (mt r S).bind fun b S => if b then .ok true S else mt2 r S) := by
  refine ⟨fun wh pins s σ H Q I h => ?_⟩
  obtain ⟨r, S, B, re, rs, an⟩ := h
  refine (pw_or ha hb).run wh pins s σ H Q I ⟨r, S, B, re, rs, an.bind.mono fun q B1 S1 H1 s1 r1 an1 => ?_⟩
  cases q with
  | true => rw [if_pos rfl]; exact an1.done r1
  | false => rw [if_neg (by decide)]; exact ⟨r, S1, B1, re.stp s1 rs, r1, an1⟩
/-! ### and, or as values; conditions -/
theorem s_and (ha : PE X a (tE G W ma)) (hb : PE X (.BoolOp .And (b :: es) pos) (tE G W mb)) :
    PE X (.BoolOp .And (a :: b :: es) pos) (tE G W fun r S => bindP (ma r S) fun x S => (match x with | .bl q => if q == true then mb r S else .ok (.d (.bl q)) S | _ => .stuck)) := by
  refine ⟨fun pins s σ H Q I h => ?_⟩
  obtain ⟨r, S, B, re, rs, an⟩ := h
  refine (pe_and ha hb).run pins s σ H Q I ⟨r, S, B, re, rs, an.bindP.mono fun v B1 S1 H1 s1 r1 ⟨x, ex, an1⟩ u ru => ?_⟩
  subst ex
  cases x with
  | bl q =>
    cases (show u = _ from ru)
    refine ⟨q, rfl, ?_⟩
    cases q with
    | true => rw [if_pos rfl]; exact ⟨r, S1, B1, re.stp s1 rs, r1, an1⟩
    | false => rw [if_neg (by decide)]; exact an1.done r1 _ rfl
  | _ => exact an1.elim
theorem s_or (ha : PE X a (tE G W ma)) (hb : PE X (.BoolOp .Or (b :: es) pos) (tE G W mb)) :
    PE X (.BoolOp .Or (a :: b :: es) pos) (tE G W fun r S => bindP (ma r S) fun x S => (match x with | .bl q => if q == false then mb r S else .ok (.d (.bl q)) S | _ => .stuck)) := by
  refine ⟨fun pins s σ H Q I h => ?_⟩
  obtain ⟨r, S, B, re, rs, an⟩ := h
  refine (pe_or ha hb).run pins s σ H Q I ⟨r, S, B, re, rs, an.bindP.mono fun v B1 S1 H1 s1 r1 ⟨x, ex, an1⟩ u ru => ?_⟩
  subst ex
  cases x with
  | bl q =>
    cases (show u = _ from ru)
    refine ⟨q, rfl, ?_⟩
    cases q with
    | true => rw [if_pos rfl]; exact an1.done r1 _ rfl
    | false => rw [if_neg (by decide)]; exact ⟨r, S1, B1, re.stp s1 rs, r1, an1⟩
  | _ => exact an1.elim
theorem s_ite (hc : PT X c (tT G W mt)) (ha : PE X a (tE G W ma)) (hb : PE X b (tE G W mb)) :
    PE X (.IfExp c a b pos) (tE G W fun r S => (mt r S).bind fun t S => if t then ma r S else mb r S) := by
  refine ⟨fun pins s σ H Q I h => ?_⟩
  obtain ⟨r, S, B, re, rs, an⟩ := h
  refine (pe_ifExp hc ha hb).run pins s σ H Q I ⟨r, S, B, re, rs, an.bind.mono fun q B1 S1 H1 s1 r1 an1 => ?_⟩
  cases q with
  | true => rw [if_pos rfl]; exact ⟨r, S1, B1, re.stp s1 rs, r1, an1⟩
  | false => rw [if_neg (by decide)]; exact ⟨r, S1, B1, re.stp s1 rs, r1, an1⟩
/-! ### subscripts -/
def isSlice : Expr → Bool
  | .Slice _ _ _ _ => true
  | _ => false
theorem plainIx_of {b : Expr} (h : isSlice b = false) : PlainIx b := fun o i => by
  cases b <;> first | rfl | (simp [isSlice] at h)
/-- an item: of data, or of a box -/
def rIdx (G : Dom) : R2 := fun x y H Q => rOp G idxD x y H Q ∨ ∃ p vs i v, x = .ref p ∧ y = .int i ∧ H p = some (.lst vs) ∧ L2.atI vs i = some v ∧ Q v H
theorem ix_all (hK : X.K = G.K) : IxR X (rIdx G) := by
  intro value slice pins s σ H x y v u Q I rx ry h hs
  rcases h with h | ⟨p, vs, i, w, e1, e2, h1, h2, q⟩
  · exact ix_D hK value slice pins s σ H x y v u Q I rx ry h hs
  · exact ix_list value slice pins s σ H x y v u Q I rx ry ⟨p, vs, i, w, e1, e2, .of h1, h2, q⟩ hs
theorem s_idx (k : Cok G C n X N sc W) (ha : PE X a (tE G W ma)) (hb : PE X b (tE G W mb)) (hs : isSlice b = false) :
    PE X (.Subscript a b pos) (tE G W fun r S => (ma r S).bind fun v S => bindP (mb r S) fun y S => (match rdV S v with | some x => .ofO ((idxD x y).map .d) S | none => .stuck)) := by
  refine ⟨fun pins s σ H Q I h => ?_⟩
  obtain ⟨r, S, B, re, rs, an⟩ := h
  refine (pe_ix (ix_all k.hK) ha hb (plainIx_of hs)).run pins s σ H Q I ⟨r, S, B, re, rs, an.bind.mono fun v B1 S1 H1 s1 r1 an1 u ru => ?_⟩
  refine ⟨r, S1, B1, re.stp s1 rs, r1, an1.bindP.mono fun w B2 S2 H2 s2 r2 ⟨y, ey, an2⟩ t rt => ?_⟩
  subst ey
  cases e : rdV S2 v with
  | none => rw [e] at an2; exact an2.elim
  | some x =>
    rw [e] at an2
    obtain ⟨z, hz, an3⟩ := an2.ofO
    simp only [Option.map_eq_some_iff] at hz
    obtain ⟨z, hz, rfl⟩ := hz
    have ru2 := RepV.stp s2 r1 ru
    cases v with
    | d q => cases e; exact .inl ⟨_, x, y, z, r2.liveOk, ru2, rt, hz, an3.gives r2⟩
    | box m =>
      obtain ⟨p, rfl, hp⟩ := ru2
      simp only [rdV] at e
      split at e
      · rename_i xs hx
        cases e
        cases y <;> simp only [idxD] at hz <;> try (cases hz; done)
        rename_i i _
        cases (show t = _ from rt)
        obtain ⟨vs, h1, h2⟩ := r2.cell m _ p hx hp
        obtain ⟨w, g1, g2⟩ := h2.at_ hz
        exact .inr ⟨p, vs, i, w, rfl, rfl, h1, g1, an3.done r2 _ g2⟩
      · cases e
    | _ => cases e
theorem s_cut (k : Cok G C n X N sc W) {lo hi : Option Expr} {p2 : Pos} {tl th : TO} (ha : PE X a (tE G W ma)) {mlo mhi : Env → Sto → R (List D)}
    (hl : ∀ (σ : L2.St) (H : Hp) (P : Option Int → Hp → Prop) (r : Env) (S : Sto) (B : List Addr), RepE G B S H σ r → RepS G B S H → Ans G W σ (mlo r S) B S H (fun l B' S' H' => ∃ o, optI l = some o ∧ P o H') → tl σ H P)
    (hh : ∀ (σ : L2.St) (H : Hp) (P : Option Int → Hp → Prop) (r : Env) (S : Sto) (B : List Addr), RepE G B S H σ r → RepS G B S H → Ans G W σ (mhi r S) B S H (fun l B' S' H' => ∃ o, optI l = some o ∧ P o H') → th σ H P)
    (pl : PO X lo tl) (ph : PO X hi th) :
    PE X (.Subscript a (.Slice lo hi none p2) pos) (tE G W fun r S => bindP (ma r S) fun x S => (mlo r S).bind fun l S => (match optI l with
    | none => .stuck
    | some l => (mhi r S).bind fun h S => (match optI h with
      | none => .stuck
      | some h => .ofO ((cutD x l h).map .d) S))) := by
  refine ⟨fun pins s σ H Q I h => ?_⟩
  obtain ⟨r, S, B, re, rs, an⟩ := h
  refine (pe_slice (sl_D k.hK) ha pl ph).run pins s σ H Q I ⟨r, S, B, re, rs, an.bindP.mono fun v B1 S1 H1 s1 r1 ⟨x, ex, an1⟩ u ru => ?_⟩
  subst ex
  refine hl _ _ _ r S1 B1 (re.stp s1 rs) r1 (an1.bind.mono fun l B2 S2 H2 s2 r2 an2 => ?_)
  cases el : optI l with
  | none => rw [el] at an2; exact an2.elim
  | some l' =>
    rw [el] at an2
    refine ⟨l', rfl, hh _ _ _ r S2 B2 ((re.stp s1 rs).stp s2 r1) r2 (an2.bind.mono fun h B3 S3 H3 s3 r3 an3 => ?_)⟩
    cases eh : optI h with
    | none => rw [eh] at an3; exact an3.elim
    | some h' =>
      rw [eh] at an3
      obtain ⟨z, hz, an4⟩ := an3.ofO
      simp only [Option.map_eq_some_iff] at hz
      obtain ⟨z, hz, rfl⟩ := hz
      exact ⟨h', rfl, _, x, z, r3.liveOk, RepD.stp (s2.trans s3) r1 ru, hz, an4.gives r3⟩
theorem cut_none {σ : L2.St} {H : Hp} {P : Option Int → Hp → Prop} {r : Env} {S : Sto} {B : List Addr} (rs : RepS G B S H) (an : Ans G W σ (.ok ([] : List D) S) B S H (fun l B' S' H' => ∃ o, optI l = some o ∧ P o H')) : tNoPart σ H P := by
  obtain ⟨o, e, q⟩ := an.done rs
  cases e
  exact q
theorem cut_some {σ : L2.St} {H : Hp} {P : Option Int → Hp → Prop} {r : Env} {S : Sto} {B : List Addr} (re : RepE G B S H σ r) (rs : RepS G B S H)
    (an : Ans G W σ (bindP (ma r S) fun x S => (R.ok ([] : List D) S).bind fun xs S => .ok (x :: xs) S) B S H (fun l B' S' H' => ∃ o, optI l = some o ∧ P o H')) : tPart (tE G W ma) σ H P := by
  refine ⟨r, S, B, re, rs, an.bindP.mono fun v B1 S1 H1 s1 r1 ⟨x, ex, an1⟩ u ru => ?_⟩
  subst ex
  obtain ⟨o, e, q⟩ := an1.done r1
  cases x <;> simp only [optI] at e <;> try (cases e; done)
  cases e
  cases (show u = _ from ru)
  exact ⟨_, rfl, q⟩
/-! ### calls -/
theorem RepVs.vals_len {xs : List Val} {us : List V} {H : Hp} {B : List Addr} {S : Sto} (h : RepVs G B S H xs us) : us.length = xs.length := h.len
theorem s_call (k : Cok G C n X N sc W) {f : Nat} {x : Str} {p : Pos} (h1 : G.fname f = some x) (h2 : glB sc x = true) (hs : nStar e = true) (hss : es.all nStar = true) (ha : PA X (e :: es) (tA G W mv)) :
    PE X (.Call (.Name x p) (e :: es) [] pos) (tE G W fun r S => (mv r S).bind fun vs S => C.fn f vs S) := by
  refine ⟨fun pins s σ H Q I h => ?_⟩
  obtain ⟨r, S, B, re, rs, an⟩ := h
  obtain ⟨a, fd, ps, hm, hk, hb, hF, hlen⟩ := k.gok.fns f x h1
  have hF' : FnOk X.prog X.w X.K X.mg X.base (L2N.CX X.prog X.w) n a fd ps (spF G ps.length (C.fn f)) := by rw [k.hP, k.hw, k.hK, k.hm, k.hb]; exact hF
  refine (pe_callS (E := WE W) hF' k.room (k.gl h2) (by rw [k.hm]; exact hm) (by rw [k.hK]; exact hk) (by rw [k.hK]; exact hb) (fun σ => L2N.passAt k.takes σ) ha (glB_ok h2).2 (starEach_ns hs)
    (star_any hss)).run pins s σ H Q I ⟨r, S, B, re, rs, an.bind.mono fun vs B1 S1 H1 s1 r1 an1 us rus => ?_⟩
  have hne : C.fn f vs S1 ≠ .stuck := fun z => by rw [z] at an1; exact an1.elim
  refine ⟨by rw [rus.len]; exact hlen vs S1 hne, S1, B1, vs, r1, rus, ?_⟩
  cases q : C.fn f vs S1 with
  | ok v S2 => rw [q] at an1; exact an1
  | exc c S2 => rw [q] at an1; exact an1
  | stuck => exact absurd q hne
theorem s_bi (k : Cok G C n X N sc W) {f : D → Option D} {x : Str} {id : String} {p : Pos} (hr : CallR X (.builtin id) (rC1 G f)) (hv : bootBuiltins x = some (.builtin id)) (hx : x ∈ blts) (h2 : glB sc x = true) (hn : x ≠ ("__name__" : Str)) (hs : nStar a = true) (ha : PE X a (tE G W ma)) :
    PE X (.Call (.Name x p) [a] [] pos) (tE G W fun r S => bindP (ma r S) fun x S => .ofO ((f x).map .d) S) := by
  refine ⟨fun pins s σ H Q I h => ?_⟩
  obtain ⟨r, S, B, re, rs, an⟩ := h
  refine (pe_callB hr (k.gl h2) (by rw [k.hm]; exact k.gok.blt x hx) hv (pa_cons ha pa_nil (starEach_ns hs)) hn (glB_ok h2).2 (starEach_ns hs) rfl).run pins s σ H Q I
    ⟨r, S, B, re, rs, an.bindP.mono fun v B1 S1 H1 s1 r1 ⟨x, ex, an1⟩ u ru => ?_⟩
  subst ex
  obtain ⟨z, hz, an2⟩ := an1.ofO
  simp only [Option.map_eq_some_iff] at hz
  obtain ⟨z, hz, rfl⟩ := hz
  exact ⟨u, rfl, _, x, z, r1.liveOk, ru, hz, an2.gives r1⟩
theorem s_biT (k : Cok G C n X N sc W) {f : D → Option D} {x : Str} {id : String} {p : Pos} (hr : CallR X (.type id) (rC1 G f)) (hv : bootBuiltins x = some (.type id)) (hx : x ∈ blts) (h2 : glB sc x = true) (hn : x ≠ ("__name__" : Str)) (hs : nStar a = true) (ha : PE X a (tE G W ma)) :
    PE X (.Call (.Name x p) [a] [] pos) (tE G W fun r S => bindP (ma r S) fun x S => .ofO ((f x).map .d) S) := by
  refine ⟨fun pins s σ H Q I h => ?_⟩
  obtain ⟨r, S, B, re, rs, an⟩ := h
  refine (pe_callTy hr (k.gl h2) (by rw [k.hm]; exact k.gok.blt x hx) hv (pa_cons ha pa_nil (starEach_ns hs)) hn (glB_ok h2).2 (starEach_ns hs) rfl).run pins s σ H Q I
    ⟨r, S, B, re, rs, an.bindP.mono fun v B1 S1 H1 s1 r1 ⟨x, ex, an1⟩ u ru => ?_⟩
  subst ex
  obtain ⟨z, hz, an2⟩ := an1.ofO
  simp only [Option.map_eq_some_iff] at hz
  obtain ⟨z, hz, rfl⟩ := hz
  exact ⟨u, rfl, _, x, z, r1.liveOk, ru, hz, an2.gives r1⟩
theorem s_len (k : Cok G C n X N sc W) {p : Pos} (h2 : glB sc "len" = true) (hs : nStar a = true) (ha : PE X a (tE G W ma)) :
    PE X (.Call (.Name "len" p) [a] [] pos) (tE G W fun r S => bindD (ma r S) fun x S => .ofO ((biD .len x).map .d) S) := by
  refine ⟨fun pins s σ H Q I h => ?_⟩
  obtain ⟨r, S, B, re, rs, an⟩ := h
  refine (pe_callB (cr_len_D (G := G) k.hK) (k.gl h2) (by rw [k.hm]; exact k.gok.blt "len" (by decide +kernel)) boot_len (pa_cons ha pa_nil (starEach_ns hs)) (by decide +kernel) (glB_ok h2).2 (starEach_ns hs) rfl).run pins s σ H Q I
    ⟨r, S, B, re, rs, an.bindD.mono fun v B1 S1 H1 s1 r1 ⟨x, ex, an1⟩ u ru => ?_⟩
  obtain ⟨z, hz, an2⟩ := an1.ofO
  simp only [Option.map_eq_some_iff] at hz
  obtain ⟨z, hz, rfl⟩ := hz
  refine ⟨u, rfl, Noone, x, z, noone_ok _, rdV_ok r1 ex ru, hz, fun v H' g rv => an2.ok (Stp.grow g) (r1.grow g) v ?_⟩
  have hi : ∃ i, z = .int i := by cases x <;> simp [biD] at hz <;> first | exact ⟨_, hz.symm⟩ | exact ⟨_, hz.2.symm⟩
  obtain ⟨i, rfl⟩ := hi
  exact rv
theorem s_isi (k : Cok G C n X N sc W) {c : Cls} {t : String} {y : Str} {p p2 : Pos} (h2 : glB sc "isinstance" = true) (hy : glB sc y = true) (hc : c.py = some t) (hv : bootBuiltins y = some (.type t)) (hx : y ∈ blts) (hn : y ≠ ("__name__" : Str)) (hs : nStar a = true) (ha : PE X a (tE G W ma)) :
    PE X (.Call (.Name "isinstance" p) [a, .Name y p2] [] pos) (tE G W fun r S => bindP (ma r S) fun x S => if noFn x then .ok (.d (.bl (x.cls c))) S else .stuck) := by
  refine ⟨fun pins s σ H Q I h => ?_⟩
  obtain ⟨r, S, B, re, rs, an⟩ := h
  have hN : PE X (.Name y p2) (tC (.ty t)) := pe_bltn (k.gl hy) (by rw [k.hm]; exact k.gok.blt y hx) hv rfl hn (glB_ok hy).2
  refine (pe_callB call_isi (k.gl h2) (by rw [k.hm]; exact k.gok.blt "isinstance" (by decide +kernel)) boot_isinstance (pa_cons ha (pa_cons hN pa_nil rfl) (starEach_ns hs)) (by decide +kernel) (glB_ok h2).2 (starEach_ns hs) rfl).run pins s σ H Q I
    ⟨r, S, B, re, rs, an.bindP.mono fun v B1 S1 H1 s1 r1 ⟨x, ex, an1⟩ u ru => ?_⟩
  subst ex
  by_cases hf : noFn x = true
  · rw [if_pos hf] at an1
    obtain ⟨t', ty, hk⟩ := RepD.ty hf ru
    refine ⟨u, .ty t, .type t', .type t, x.cls c, rfl, .ty t, by rw [k.hK]; exact ty, ?_, an1.done r1 _ rfl⟩
    rw [k.hK]
    exact hk c t hc
  · rw [if_neg hf] at an1
    exact an1.elim
end
end Ev

set_option Elab.async false
set_option linter.all false
set_option autoImplicit false
set_option maxRecDepth 100000
/-! Texts; boxes: changed, read, given up. Own work. -/
namespace Ev
open PySem PySem.Spec PyProof.Rows L2
section
variable {G : Dom} {C : Calls} {n : Nat} {X : Cx} {N : List Str} {sc : Scope} {W : WX}
variable {a b c e : Expr} {es : List Expr} {ma mb mc : Env → Sto → R Val} {md : Env → Sto → R (List D)} {mv : Env → Sto → R (List Val)} {mt : Env → Sto → R Bool} {pos : Pos}
/-! ### texts -/
def noSuper : Expr → Bool
  | .Call (.Name _ _) [] [] _ => false
  | _ => true
theorem base_of {o : Expr} {m : Str} {env : PySem.Env} {wh : Sem Value} (h : noSuper o = true) : attributeBase o m env wh = wh := by
  unfold attributeBase
  split
  · simp [noSuper] at h
  · rfl
theorem star_one {b : Expr} {env : PySem.Env} (h : nStar b = true) : starEach [b] env = [(false, eval b env)] := by rw [starEach_ns h]; rfl
theorem s_m1 (ha : PE X a (tE G W ma)) (hb : PE X b (tE G W mb)) {m : Str} {apos : Pos} {rr : V → List V → Hp → VK → Prop} {f : D → D → Option D}
    (pe : PE X (.Call (.Attribute a m apos) [b] [] pos) (tM1 rr (tE G W ma) (tE G W mb)))
    (hs : ∀ x y z, f x y = some z → ∃ t, x = .str t)
    (hf : ∀ L H x y z u w Q, LiveOk L H → RepD G L H x u → RepD G L H y w → f x y = some z → Gives G L H z Q → rr u [w] H Q) :
    PE X (.Call (.Attribute a m apos) [b] [] pos) (tE G W fun r S => bindP (ma r S) fun x S => match x with
      | .str t => bindP (mb r S) fun y S => .ofO ((f (.str t) y).map .d) S
      | _ => .stuck) := by
  refine ⟨fun pins s σ H Q I h => ?_⟩
  obtain ⟨r, S, B, re, rs, an⟩ := h
  refine pe.run pins s σ H Q I ⟨r, S, B, re, rs, an.bindP.mono fun v B1 S1 H1 s1 r1 ⟨x, ex, an1⟩ u ru => ?_⟩
  subst ex
  cases x with
  | str t =>
    refine ⟨⟨t, ru⟩, r, S1, B1, re.stp s1 rs, r1, an1.bindP.mono fun v B2 S2 H2 s2 r2 ⟨y, ey, an2⟩ w rw => ?_⟩
    subst ey
    obtain ⟨z, hz, an3⟩ := an2.ofO
    simp only [Option.map_eq_some_iff] at hz
    obtain ⟨z, hz, rfl⟩ := hz
    exact hf _ _ _ y z u w Q r2.liveOk (RepD.stp s2 r1 ru) rw hz (an3.gives r2)
  | _ => exact an1.elim
theorem repDs_str (L : Addr → Prop) (H : Hp) (is : List Str) : RepDs G L H (is.map D.str) (is.map V.str) := repDs_strs is
theorem s_split {apos : Pos} (ha : PE X a (tE G W ma)) (hb : PE X b (tE G W mb)) (hs : nStar b = true) (hn : noSuper a = true) (hl : (apos.endLine == pos.line) = true) :
    PE X (.Call (.Attribute a "split" apos) [b] [] pos) (tE G W fun r S => bindP (ma r S) fun x S => match x with
      | .str t => bindP (mb r S) fun y S => .ofO ((splitD (.str t) y).map .d) S
      | _ => .stuck) := by
  refine s_m1 ha hb (pe_split ha hb (star_one hs) (base_of hn) hl) (fun x y z e => ?_) fun L H x y z u w Q lo hx hy e k => ?_
  · cases x <;> simp [splitD] at e; exact ⟨_, rfl⟩
  · cases x <;> simp only [splitD] at e <;> try (cases e; done)
    cases y <;> simp only at e <;> try (cases e; done)
    split at e
    · rename_i hc
      cases e
      cases (show u = _ from hx); cases (show w = _ from hy)
      exact ⟨_, _, rfl, rfl, hc.1, by rw [← sizeMax_eq]; exact hc.2, fun p hp => k.lst lo (repDs_strs _) hp⟩
    · cases e
theorem s_join {apos : Pos} (k : Cok G C n X N sc W) (ha : PE X a (tE G W ma)) (hb : PE X b (tE G W mb)) (hs : nStar b = true) (hn : noSuper a = true) (hl : (apos.endLine == pos.line) = true) :
    PE X (.Call (.Attribute a "join" apos) [b] [] pos) (tE G W fun r S => bindP (ma r S) fun x S => match x with
      | .str t => bindP (mb r S) fun y S => .ofO ((joinD (.str t) y).map .d) S
      | _ => .stuck) := by
  refine s_m1 ha hb (pe_join ha hb (star_one hs) (base_of hn) hl) (fun x y z e => ?_) fun L H x y z u w Q lo hx hy e g => ?_
  · cases x <;> simp [joinD] at e; exact ⟨_, rfl⟩
  · cases x <;> simp only [joinD] at e <;> try (cases e; done)
    simp only [Option.bind_eq_some_iff] at e
    obtain ⟨ys, ⟨zs, e1, e2⟩, e3⟩ := e
    split at e3
    · rename_i hc
      cases e3
      cases (show u = _ from hx)
      cases y <;> simp only [seqD] at e1 <;> try (cases e1; done)
      · cases e1
        obtain ⟨p, vs, rfl, h1, _, r1⟩ := hy
        refine ⟨_, p, ys, rfl, rfl, .inl (.of (by rw [← r1.strs e2]; exact h1)), hc, ?_⟩
        rw [TL.join_eq]
        exact g.str
      · cases e1
        obtain ⟨p, vs, rfl, h1, r1⟩ := hy
        refine ⟨_, p, ys, rfl, rfl, .inr (by rw [k.hK, ← r1.strs e2]; exact h1), hc, ?_⟩
        rw [TL.join_eq]
        exact g.str
    · cases e3
theorem s_fmt (ha : PE X a (tE G W ma)) : PE X (.FormattedValue a (-1) none pos) (tE G W fun r S => bindP (ma r S) fun x S => .ofO ((fmtD x).map fun a => .d (.str a)) S) := by
  refine ⟨fun pins s σ H Q I h => ?_⟩
  obtain ⟨r, S, B, re, rs, an⟩ := h
  refine (pe_fmt ha).run pins s σ H Q I ⟨r, S, B, re, rs, an.bindP.mono fun v B1 S1 H1 s1 r1 ⟨x, ex, an1⟩ u ru => ?_⟩
  subst ex
  obtain ⟨z, hz, an2⟩ := an1.ofO
  simp only [Option.map_eq_some_iff] at hz
  obtain ⟨z, hz, rfl⟩ := hz
  cases x <;> simp only [fmtD] at hz <;> try (cases hz; done)
  · split at hz
    · rename_i hc
      cases hz
      cases (show u = _ from ru)
      exact .inr ⟨_, rfl, hc, an2.done r1 _ rfl⟩
    · cases hz
  · split at hz
    · rename_i hc
      cases hz
      cases (show u = _ from ru)
      exact .inl ⟨_, rfl, by rw [← sizeMax_eq]; exact hc, an2.done r1 _ rfl⟩
    · cases hz
/-- the parts of an f-string -/
def JS (G : Dom) (W : WX) (X : Cx) (es : List Expr) (m : Str → Env → Sto → R Str) : Prop := ∃ ts, PJ X es ts ∧ ∀ (acc : Str) (σ : L2.St) (H : Hp) (Q : Str → Hp → Prop) (r : Env) (S : Sto) (B : List Addr),
  RepE G B S H σ r → RepS G B S H → Ans G W σ (m acc r S) B S H (fun out _ _ H' => Q out H') → tJs ts acc σ H Q
theorem js_nil : JS G W X [] (fun acc _ S => .ok acc S) := ⟨[], .nil, fun acc σ H Q r S B _ rs an => an.done rs⟩
theorem js_cons {mj : Str → Env → Sto → R Str} (ha : PE X e (tE G W ma)) (hr : JS G W X es mj) : JS G W X (e :: es) (fun acc r S => bindP (ma r S) fun x S => (match x with
    | .str y => if (acc ++ y).length ≤ sizeMax then mj (acc ++ y) r S else .stuck
    | _ => .stuck)) := by
  obtain ⟨ts, hp, hq⟩ := hr
  refine ⟨_, .cons ha hp, fun acc σ H Q r S B re rs an => ⟨r, S, B, re, rs, an.bindP.mono fun v B1 S1 H1 s1 r1 ⟨x, ex, an1⟩ u ru => ?_⟩⟩
  subst ex
  cases x with
  | str y =>
    cases (show u = _ from ru)
    by_cases hc : (acc ++ y).length ≤ sizeMax
    · simp only [if_pos hc] at an1
      exact ⟨y, rfl, by rw [← sizeMax_eq]; exact hc, hq _ _ _ _ r S1 B1 (re.stp s1 rs) r1 an1⟩
    · simp only [if_neg hc] at an1
      exact an1.elim
  | _ => exact an1.elim
theorem s_fstr {v1 v2 : Expr} {rest : List Expr} {mj : Str → Env → Sto → R Str} (h : JS G W X (v1 :: v2 :: rest) mj) : PE X (.JoinedStr (v1 :: v2 :: rest) pos) (tE G W fun r S => (mj Str.empty r S).bind fun a S => .ok (.d (.str a)) S) := by
  obtain ⟨ts, hp, hq⟩ := h
  refine ⟨fun pins s σ H Q I h => ?_⟩
  obtain ⟨r, S, B, re, rs, an⟩ := h
  exact (pe_joined hp).run pins s σ H Q I (hq _ _ _ _ r S B re rs (an.bind.mono fun out B1 S1 H1 s1 r1 an1 => an1.done r1 _ rfl))
/-! ### a[::-1] -/
theorem s_revL (k : Cok G C n X N sc W) {j : Nat} {p1 p2 p3 : Pos} (ha : PE X a (tE G W ma)) :
    PE X (.Subscript a (.Slice none none (some (.UnaryOp .USub (.Constant (.int 1) j p1) p2)) p3) pos) (tE G W fun r S => bindP (ma r S) fun x S => (match x with | .lst xs => .ok (.d (.lst xs.reverse)) S | _ => .stuck)) := by
  refine ⟨fun pins s σ H Q I h => ?_⟩
  obtain ⟨r, S, B, re, rs, an⟩ := h
  refine (pe_revL ha).run pins s σ H Q I ⟨r, S, B, re, rs, an.bindP.mono fun v B1 S1 H1 s1 r1 ⟨x, ex, an1⟩ u ru => ?_⟩
  subst ex
  cases x with
  | lst xs =>
    obtain ⟨p, vs, rfl, h1, _, rv⟩ := (show ∃ a vs, u = .ref a ∧ H1 a = some (.lst vs) ∧ ¬ Live B1 S1 a ∧ RepDs G (Live B1 S1) H1 xs vs from ru)
    exact ⟨p, vs, rfl, .of h1, fun q hq => (an1.gives r1).lst r1.liveOk rv.rev hq⟩
  | _ => exact an1.elim
theorem s_revt (k : Cok G C n X N sc W) {j : Nat} {p1 p2 p3 : Pos} (ha : PE X a (tE G W ma)) :
    PE X (.Subscript a (.Slice none none (some (.UnaryOp .USub (.Constant (.int 1) j p1) p2)) p3) pos) (tE G W fun r S => bindP (ma r S) fun x S => (match x with | .tup xs => .ok (.d (.tup xs.reverse)) S | _ => .stuck)) := by
  refine ⟨fun pins s σ H Q I h => ?_⟩
  obtain ⟨r, S, B, re, rs, an⟩ := h
  refine (pe_revT ha).run pins s σ H Q I ⟨r, S, B, re, rs, an.bindP.mono fun v B1 S1 H1 s1 r1 ⟨x, ex, an1⟩ u ru => ?_⟩
  subst ex
  cases x with
  | tup xs =>
    obtain ⟨p, vs, rfl, h1, rv⟩ := (show ∃ a vs, u = .ref a ∧ SqT G.K H1 a vs ∧ RepDs G (Live B1 S1) H1 xs vs from ru)
    exact ⟨p, vs, rfl, by rw [k.hK]; exact h1, fun q hq => (an1.gives r1).tup r1.liveOk rv.rev hq⟩
  | _ => exact an1.elim
theorem s_back (k : Cok G C n X N sc W) {m j j2 : Nat} {p1 p2 p3 p4 : Pos} (ha : PE X a (tE G W ma)) :
    PE X (.Subscript a (.Slice none (some (.Constant (.int m) j2 p4)) (some (.UnaryOp .USub (.Constant (.int 1) j p1) p2)) p3) pos) (tE G W fun r S => bindP (ma r S) fun x S => (match x with | .lst xs => .ok (.d (.lst (xs.drop (m + 1)).reverse)) S | _ => .stuck)) := by
  refine ⟨fun pins s σ H Q I h => ?_⟩
  obtain ⟨r, S, B, re, rs, an⟩ := h
  refine (pe_back ha).run pins s σ H Q I ⟨r, S, B, re, rs, an.bindP.mono fun v B1 S1 H1 s1 r1 ⟨x, ex, an1⟩ u ru => ?_⟩
  subst ex
  cases x with
  | lst xs =>
    obtain ⟨p, vs, rfl, h1, _, rv⟩ := (show ∃ a vs, u = .ref a ∧ H1 a = some (.lst vs) ∧ ¬ Live B1 S1 a ∧ RepDs G (Live B1 S1) H1 xs vs from ru)
    exact ⟨p, vs, rfl, .of h1, fun q hq => (an1.gives r1).lst r1.liveOk (rv.drop (m + 1)).rev hq⟩
  | _ => exact an1.elim
/-! ### boxes -/
theorem live_set {B : List Addr} {S : Sto} {m : Nat} {c : Cell} {p q : Addr} {xs : List D} (h1 : S[m]? = some (.lst xs)) (h2 : B[m]? = some p) (h : Live B (S.set m c) q) : Live B S q := by
  obtain ⟨i, c', e1, e2, e3⟩ := h
  by_cases hi : i = m
  · subst hi
    rw [h2] at e1; cases e1
    exact ⟨i, _, h2, h1, fun z => by cases z⟩
  · rw [List.getElem?_set_ne (Ne.symm hi)] at e2
    exact ⟨i, c', e1, e2, e3⟩
/-- a box takes other items -/
theorem RepS.put {B : List Addr} {S : Sto} {H : Hp} {m : Nat} {p : Addr} {xs ys : List D} {us : List V} (r : RepS G B S H) (h1 : S[m]? = some (.lst xs)) (h2 : B[m]? = some p) (ru : RepDs G (Live B S) H ys us) :
    Stp B S H B (S.set m (.lst ys)) (upd H p (.lst us)) ∧ RepS G B (S.set m (.lst ys)) (upd H p (.lst us)) := by
  have hp : Live B S p := ⟨m, _, h2, h1, fun z => by cases z⟩
  obtain ⟨vs, hv, _⟩ := r.cell m _ p h1 h2
  have x : Ext (Live B S) (Live B (S.set m (.lst ys))) H (upd H p (.lst us)) := by
    refine ⟨fun a o e n _ => ?_, fun a l => .inl (live_set h1 h2 l)⟩
    rw [upd_ne (fun z => n (by rw [z]; exact hp))]
    exact e
  refine ⟨⟨x, by simp⟩, by simpa using r.len, fun i c a e1 e2 => ?_, fun i j c d a e1 e2 n1 n2 e3 e4 => ?_, fun q hq => ?_⟩
  · by_cases hi : i = m
    · subst hi
      rw [h2] at e2; cases e2
      have hl : i < S.length := (List.getElem?_eq_some_iff.mp h1).1
      rw [List.getElem?_set_self hl] at e1
      cases e1
      exact ⟨us, upd_same, RepDs.ext x r.liveOk _ _ ru⟩
    · rw [List.getElem?_set_ne (Ne.symm hi)] at e1
      have h := r.cell i c a e1 e2
      cases c with
      | dead => exact h
      | lst zs =>
        obtain ⟨ws, g1, g2⟩ := h
        refine ⟨ws, ?_, RepDs.ext x r.liveOk _ _ g2⟩
        rw [upd_ne fun z => hi (r.nd i m _ _ a e1 h1 (fun z => by cases z) (fun z => by cases z) e2 (by rw [z]; exact h2))]
        exact g1
      | obj c fs =>
        obtain ⟨C, dx, ws, y, h0, h3, h4, h5, h6⟩ := h
        refine ⟨C, dx, ws, y, h0, h3, ?_, h5, RepDs.ext x r.liveOk _ _ h6⟩
        rw [upd_ne fun z => hi (r.nd i m _ _ a e1 h1 (fun z => by cases z) (fun z => by cases z) e2 (by rw [z]; exact h2))]
        exact h4
  · have in_ : ∀ (i : Nat) (c : Cell), (S.set m (.lst ys))[i]? = some c → c ≠ Cell.dead → ∃ c', S[i]? = some c' ∧ c' ≠ Cell.dead := by
      intro i c e n
      by_cases hi : i = m
      · subst hi; exact ⟨_, h1, fun z => by cases z⟩
      · rw [List.getElem?_set_ne (Ne.symm hi)] at e; exact ⟨c, e, n⟩
    obtain ⟨c1, g1, g2⟩ := in_ i c e1 n1
    obtain ⟨c2, g3, g4⟩ := in_ j d e2 n2
    exact r.nd i j c1 c2 a g1 g3 g2 g4 e3 e4
  · obtain ⟨ps, t1, t2, t3⟩ := r.tabs q hq
    refine ⟨ps, ?_, t2, fun pos cv hc => ?_⟩
    · rw [upd_ne (ne_of t1 hv (fun z => by cases z))]; exact t1
    · obtain ⟨c, u1, u2⟩ := t3 pos cv hc
      refine ⟨c, u1, ?_⟩
      rw [upd_ne (ne_of u2 hv (fun z => by unfold LamX.CodeO at z; cases z))]
      exact u2
/-- a box is given up: its list is data from now on -/
theorem RepS.kill {B : List Addr} {S : Sto} {H : Hp} {m : Nat} {p : Addr} {xs : List D} (r : RepS G B S H) (h1 : S[m]? = some (.lst xs)) (h2 : B[m]? = some p) :
    Stp B S H B (S.set m .dead) H ∧ RepS G B (S.set m .dead) H ∧ RepD G (Live B (S.set m .dead)) H (.lst xs) (.ref p) := by
  obtain ⟨vs, hv, hr⟩ := r.cell m _ p h1 h2
  have hl : m < S.length := (List.getElem?_eq_some_iff.mp h1).1
  have x : Ext (Live B S) (Live B (S.set m .dead)) H H := ⟨fun a o e _ _ => e, fun a l => .inl (live_set h1 h2 l)⟩
  have in_ : ∀ (i : Nat) (c : Cell), (S.set m .dead)[i]? = some c → c ≠ Cell.dead → i ≠ m ∧ S[i]? = some c := by
    intro i c e n
    by_cases hi : i = m
    · subst hi
      rw [List.getElem?_set_self hl] at e
      cases e
      exact absurd rfl n
    · rw [List.getElem?_set_ne (Ne.symm hi)] at e; exact ⟨hi, e⟩
  refine ⟨⟨x, by simp⟩, ⟨by simpa using r.len, fun i c a e1 e2 => ?_, fun i j c d a e1 e2 n1 n2 e3 e4 => ?_, r.tabs⟩, p, vs, rfl, hv, fun ⟨i, c, e1, e2, e3⟩ => ?_, RepDs.ext x r.liveOk _ _ hr⟩
  · cases c with
    | dead => trivial
    | lst zs =>
      obtain ⟨_, e⟩ := in_ i _ e1 (fun z => by cases z)
      obtain ⟨ws, g1, g2⟩ := r.cell i _ a e e2
      exact ⟨ws, g1, RepDs.ext x r.liveOk _ _ g2⟩
    | obj c fs =>
      obtain ⟨_, e⟩ := in_ i _ e1 (fun z => by cases z)
      obtain ⟨C, dx, ws, y, h0, h3, h4, h5, h6⟩ := r.cell i _ a e e2
      exact ⟨C, dx, ws, y, h0, h3, h4, h5, RepDs.ext x r.liveOk _ _ h6⟩
  · exact r.nd i j c d a (in_ i c e1 n1).2 (in_ j d e2 n2).2 n1 n2 e3 e4
  · obtain ⟨g1, g2⟩ := in_ i c e2 e3
    exact g1 (r.nd i m c _ p g2 h1 e3 (fun z => by cases z) e1 h2)
theorem boxAt_ok {B : List Addr} {S : Sto} {H : Hp} {σ : L2.St} {r : Env} {i m : Nat} {xs : List D} (re : RepE G B S H σ r) (rs : RepS G B S H) (h : boxAt r S i = some (m, xs)) :
    getV r i = some (.box m) ∧ S[m]? = some (.lst xs) ∧ ∃ p vs, σ[i]? = some (some (.ref p)) ∧ B[m]? = some p ∧ H p = some (.lst vs) ∧ RepDs G (Live B S) H xs vs := by
  unfold boxAt at h
  split at h
  · rename_i m' hm
    split at h
    · rename_i ys hy
      cases h
      obtain ⟨u, e1, p, rfl, e2⟩ := re.get hm
      obtain ⟨vs, h1, h2⟩ := rs.cell m _ p hy e2
      exact ⟨hm, hy, p, vs, e1, e2, h1, h2⟩
    · cases h
  · cases h
theorem few_one {b : Expr} {env : PySem.Env} {cpos : Pos} (h : nStar b = true) : ((backTo cpos (starEach [b] env)).all (fun x => !x.1) && (backToKw cpos (keywordEach [] env)).all (fun x => x.1.isSome)
      && decide (([b] : List Expr).length + ([] : List Keyword).length + (if ([] : List Keyword).isEmpty then 0 else 1) < 30)) = true := by
  rw [star_one h]; rfl
theorem s_pop0 (k : Cok G C n X N sc W) {i : Nat} {x : Str} {apos p0 p1 : Pos} {j : Nat} (h1 : N[i]? = some x) (h2 : visB sc x = true) (hl : (apos.endLine == pos.line) = true) :
    PE X (.Call (.Attribute (.Name x p0) "pop" apos) [.Constant (.int 0) j p1] [] pos) (tE G W fun r S => (match boxAt r S i with
    | some (n, x :: xs) => .ok (.d x) (S.set n (.lst xs))
    | _ => .stuck)) := by
  refine ⟨fun pins s σ H Q I h => ?_⟩
  obtain ⟨r, S, B, re, rs, an⟩ := h
  have pv : PE X (.Name x p0) (tVar i) := pe_var (by rw [k.hN]; exact h1) (k.vis h2) (visB_ok h2).2.1 (visB_ok h2).2.2
  refine (pe_bm PySem.F.plainAttrs_list PySem.F.slot_list_pop PySem.F.type_list_pop mt_popAt pv (pa_cons pe_int pa_nil) rfl (few_one rfl) hl rfl rfl).run pins s σ H Q I ?_
  cases hb : boxAt r S i with
  | none => simp only [hb] at an; exact an.elim
  | some q =>
    obtain ⟨m, xs⟩ := q
    cases xs with
    | nil => simp only [hb] at an; exact an.elim
    | cons y xs =>
      simp only [hb] at an
      obtain ⟨e0, e1, p, vs, e2, e3, e4, e5⟩ := boxAt_ok re rs hb
      obtain ⟨v, vs', rfl, r1, r2⟩ := e5
      refine ⟨.ref p, e2, .inl ⟨rfl, _, .inl (.inl e4)⟩, p, v :: vs', 0, 0, v, rfl, rfl, e4, by decide, by decide, ?_, rfl, ?_⟩
      · simp [seqIndex?]
      · obtain ⟨st, r3⟩ := rs.put e1 e3 r2
        exact an.ok st r3 v (RepD.stp st rs r1)
theorem s_popl (k : Cok G C n X N sc W) {i : Nat} {x : Str} {apos p0 : Pos} (h1 : N[i]? = some x) (h2 : visB sc x = true) (hl : (apos.endLine == pos.line) = true) :
    PE X (.Call (.Attribute (.Name x p0) "pop" apos) [] [] pos) (tE G W fun r S => (match boxAt r S i with
    | some (n, xs) => (match xs.getLast? with | some x => .ok (.d x) (S.set n (.lst xs.dropLast)) | none => .stuck)
    | _ => .stuck)) := by
  refine ⟨fun pins s σ H Q I h => ?_⟩
  obtain ⟨r, S, B, re, rs, an⟩ := h
  have pv : PE X (.Name x p0) (tVar i) := pe_var (by rw [k.hN]; exact h1) (k.vis h2) (visB_ok h2).2.1 (visB_ok h2).2.2
  refine (pe_bm0 PySem.F.plainAttrs_list PySem.F.slot_list_pop PySem.F.type_list_pop mt_pop pv rfl hl).run pins s σ H Q I ?_
  cases hb : boxAt r S i with
  | none => simp only [hb] at an; exact an.elim
  | some q =>
    obtain ⟨m, xs⟩ := q
    simp only [hb] at an
    obtain ⟨e0, e1, p, vs, e2, e3, e4, e5⟩ := boxAt_ok re rs hb
    cases hx : xs.getLast? with
    | none => simp only [hx] at an; exact an.elim
    | some y =>
      simp only [hx] at an
      have hy : xs[xs.length - 1]? = some y := by rw [← hx, List.getLast?_eq_getElem?]
      obtain ⟨v, g1, g2⟩ := e5.get hy
      have hdl : RepDs G (Live B S) H xs.dropLast vs.dropLast := by
        rw [List.dropLast_eq_take, List.dropLast_eq_take, e5.len]
        exact e5.take _
      refine ⟨.ref p, e2, .inl ⟨rfl, _, .inl (.inl e4)⟩, p, vs, v, rfl, rfl, e4, by rw [e5.len]; exact g1, ?_⟩
      obtain ⟨st, r3⟩ := rs.put e1 e3 hdl
      exact an.ok st r3 v (RepD.stp st rs g2)
theorem s_boxof (k : Cok G C n X N sc W) {p : Pos} (h2 : glB sc "list" = true) (hs : nStar a = true) (ha : PE X a (tE G W ma)) :
    PE X (.Call (.Name "list" p) [a] [] pos) (tE G W fun r S => bindP (ma r S) fun x S => (match seqD x with | some xs => .ok (.box S.length) (S ++ [.lst xs]) | none => .stuck)) := by
  refine ⟨fun pins s σ H Q I h => ?_⟩
  obtain ⟨r, S, B, re, rs, an⟩ := h
  refine (pe_callTy call_list_of (k.gl h2) (by rw [k.hm]; exact k.gok.blt "list" (by decide +kernel)) (by decide +kernel) (pa_cons ha pa_nil (starEach_ns hs)) (by decide +kernel) (glB_ok h2).2 (starEach_ns hs) rfl).run pins s σ H Q I
    ⟨r, S, B, re, rs, an.bindP.mono fun v B1 S1 H1 s1 r1 ⟨x, ex, an1⟩ u ru => ?_⟩
  subst ex
  cases x <;> simp only [seqD] at an1 <;> try (exact an1.elim)
  · obtain ⟨q, vs, rfl, g1, _, g2⟩ := ru
    refine ⟨q, vs, rfl, .inl (.of g1), fun l hl => ?_⟩
    obtain ⟨st, r2⟩ := r1.snoc hl g2
    exact an1.ok st r2 _ ⟨l, rfl, by rw [← r1.len]; simp⟩
  · obtain ⟨q, vs, rfl, g1, g2⟩ := ru
    refine ⟨q, vs, rfl, .inr (by rw [k.hK]; exact g1), fun l hl => ?_⟩
    obtain ⟨st, r2⟩ := r1.snoc hl g2
    exact an1.ok st r2 _ ⟨l, rfl, by rw [← r1.len]; simp⟩
end
end Ev

set_option Elab.async false
set_option linter.all false
set_option autoImplicit false
set_option maxRecDepth 100000
/-! Targets; what is walked; comprehensions. Own work. -/
namespace Ev
open PySem PySem.Spec PyProof.Rows L2
section
variable {G : Dom} {C : Calls} {n : Nat} {X : Cx} {N : List Str} {sc : Scope} {W : WX}
variable {a b c e : Expr} {es : List Expr} {ma mb mc : Env → Sto → R Val} {md : Env → Sto → R (List D)} {mv : Env → Sto → R (List Val)} {mt : Env → Sto → R Bool} {pos : Pos}
/-! ### targets -/
def wiV (σ : L2.St) (vs : List Nat) : L2.St := wipe σ vs
theorem wipe_get (σ : L2.St) : ∀ (vs : List Nat) (i : Nat), (wipe σ vs)[i]? = if i ∈ vs then (if i < σ.length then some none else none) else σ[i]?
  | [], i => by simp [wipe]
  | v :: vs, i => by
    unfold wipe
    rw [List.getElem?_set, wipe_length, wipe_get σ vs i]
    by_cases h : v = i
    · subst h
      by_cases hl : v < σ.length
      · simp [hl]
      · simp [hl]
    · have h' : ¬ i = v := fun e => h e.symm
      simp [h, h']
theorem wipe_set {σ : L2.St} {vs : List Nat} {i : Nat} {x : Option V} (h : i ∈ vs) : wipe (σ.set i x) vs = wipe σ vs := by
  apply List.ext_getElem?
  intro j
  rw [wipe_get, wipe_get]
  by_cases hj : j ∈ vs
  · simp [hj]
  · have : i ≠ j := fun e => hj (e ▸ h)
    simp [hj, List.getElem?_set_ne this]
theorem wipe_wipe (σ : L2.St) (vs : List Nat) : wipe (wipe σ vs) vs = wipe σ vs := by
  apply List.ext_getElem?
  intro j
  rw [wipe_get, wipe_get]
  by_cases hj : j ∈ vs
  · simp [hj, wipe_length]
  · simp [hj]
theorem wipeV_get (r : Env) : ∀ (vs : List Nat) (i : Nat), (wipeV r vs)[i]? = if i ∈ vs then (if i < r.length then some none else none) else r[i]?
  | [], i => by simp [wipeV]
  | v :: vs, i => by
    have hl : ∀ vs : List Nat, (wipeV r vs).length = r.length := fun vs => by induction vs with
      | nil => rfl
      | cons v vs ih => unfold wipeV; rw [List.length_set, ih]
    unfold wipeV
    rw [List.getElem?_set, hl, wipeV_get r vs i]
    by_cases h : v = i
    · subst h
      by_cases hl : v < r.length
      · simp [hl]
      · simp [hl]
    · have h' : ¬ i = v := fun e => h e.symm
      simp [h, h']
theorem wipeV_length (r : Env) (vs : List Nat) : (wipeV r vs).length = r.length := by
  induction vs with
  | nil => rfl
  | cons v vs ih => unfold wipeV; rw [List.length_set, ih]
theorem RepE.wipe {B : List Addr} {S : Sto} {H : Hp} {σ : L2.St} {r : Env} (re : RepE G B S H σ r) (vs : List Nat) : RepE G B S H (L2.wipe σ vs) (wipeV r vs) := by
  refine ⟨by rw [wipeV_length, wipe_length]; exact re.len, fun i v h => ?_⟩
  rw [wipeV_get] at h
  rw [wipe_get]
  by_cases hi : i ∈ vs
  · rw [if_pos hi] at h; split at h <;> simp at h
  · rw [if_neg hi] at h ⊢; exact re.at_ i v h
theorem RepE.set {B : List Addr} {S : Sto} {H : Hp} {σ : L2.St} {r : Env} (re : RepE G B S H σ r) {i : Nat} {v : Val} {u : V} (h : RepV G B S H v u) : RepE G B S H (σ.set i (some u)) (r.set i (some v)) := by
  refine ⟨by simpa using re.len, fun j w e => ?_⟩
  by_cases hj : i = j
  · subst hj
    have hl : i < r.length := by
      have := (List.getElem?_eq_some_iff.mp e).1
      simpa using this
    rw [List.getElem?_set_self hl] at e
    cases e
    exact ⟨u, by rw [List.getElem?_set_self (by rw [← re.len]; exact hl)], h⟩
  · rw [List.getElem?_set_ne hj] at e
    rw [List.getElem?_set_ne hj]
    exact re.at_ j w e
mutual
def tgIn (vs : List Nat) : Tg → Bool
  | .v i => decide (i ∈ vs)
  | .t ts => tgsIn vs ts
def tgsIn (vs : List Nat) : List Tg → Bool
  | [] => true
  | t :: ts => tgIn vs t && tgsIn vs ts
end
def gT (G : Dom) (vs : List Nat) (t : Tg) : TG := fun u σ H Q => ∃ r S B x r', RepE G B S H σ r ∧ RepS G B S H ∧ RepD G (Live B S) H x u ∧ setT t x r = some r' ∧ ∀ σ', RepE G B S H σ' r' → L2.wipe σ' vs = L2.wipe σ vs → Q σ' H
def gTs (G : Dom) (vs : List Nat) (t : List Tg) : TGs := fun us σ H Q => ∃ r S B xs r', RepE G B S H σ r ∧ RepS G B S H ∧ RepDs G (Live B S) H xs us ∧ setTs t xs r = some r' ∧ ∀ σ', RepE G B S H σ' r' → L2.wipe σ' vs = L2.wipe σ vs → Q σ' H
/-- the names that a target may store to -/
def StoOk (X : Cx) (x : Str) : Prop := L2.Loc X.env.scope x ∧ (X.fn x = true ∨ X.env.scope.names.lookup x = some .local)
mutual
def ckG (N : List Str) (ok : Str → Bool) : Tg → Expr → Bool
  | .v i, e => (match e with | .Name x _ => N[i]? == some x && ok x | _ => false)
  | .t ts, e => (match e with | .Tuple es _ _ => ckGs N ok ts es | _ => false)
def ckGs (N : List Str) (ok : Str → Bool) : List Tg → List Expr → Bool
  | [], es => (match es with | [] => true | _ => false)
  | t :: ts, es => (match es with | e :: es => ckG N ok t e && ckGs N ok ts es | [] => false)
end
theorem ckG_star {N : List Str} {ok : Str → Bool} {t : Tg} {e : Expr} (h : ckG N ok t e = true) {es : List Expr} {env : PySem.Env} :
    assignEach (e :: es) env = (false, assign e env) :: assignEach es env := by
  cases t <;> cases e <;> first | rfl | (simp [ckG] at h)
theorem ckGs_star {N : List Str} {ok : Str → Bool} : ∀ {ts : List Tg} {es : List Expr} {env : PySem.Env}, ckGs N ok ts es = true → (assignEach es env).length = ts.length ∧ (assignEach es env).findIdx? (·.1) = none
  | [], es, env, h => by
    cases es with
    | nil => exact ⟨rfl, rfl⟩
    | cons e es => simp [ckGs] at h
  | t :: ts, es, env, h => by
    cases es with
    | nil => simp [ckGs] at h
    | cons e es =>
      have h' : ckG N ok t e = true ∧ ckGs N ok ts es = true := by simpa [ckGs] using h
      obtain ⟨h1, h2⟩ := ckGs_star (env := env) h'.2
      rw [ckG_star h'.1]
      refine ⟨by simp [h1], ?_⟩
      rw [List.findIdx?_cons]
      simp [h2]
mutual
theorem g_ok (hN : N.Nodup) (hX : X.N = N) (hc : X.calm = true) (hK : X.K = G.K) {ok : Str → Bool} (hok : ∀ x, ok x = true → StoOk X x) (vs : List Nat) : ∀ (t : Tg) (e : Expr), ckG N ok t e = true → tgIn vs t = true → PG X e (gT G vs t)
  | .v i, e, h, hv => by
    cases e <;> simp only [ckG] at h <;> try (cases h; done)
    rename_i x p
    simp only [Bool.and_eq_true, beq_iff_eq] at h
    obtain ⟨h1, h2⟩ := h
    obtain ⟨g1, g2⟩ := hok x h2
    refine ⟨fun pins s σ H v u Q I r hq => ?_⟩
    obtain ⟨rr, S, B, d, r', re, rs, rd, hs, q⟩ := hq
    refine (pg_name (i := i) (by rw [hX]; exact hN) (by rw [hX]; exact h1) g1 g2).run pins s σ H v u Q I r ?_
    simp only [setT] at hs
    split at hs
    · cases hs
      exact q _ (re.set (v := .d d) rd) (wipe_set (by simpa [tgIn] using hv))
    · cases hs
  | .t ts, e, h, hv => by
    cases e <;> simp only [ckG] at h <;> try (cases h; done)
    rename_i es k p
    have P := gs_ok hN hX hc hK hok vs ts es h (by simpa [tgIn] using hv)
    obtain ⟨n1, n2⟩ := ckGs_star (env := X.env) h
    refine ⟨fun pins s σ H v u Q I r hq => ?_⟩
    obtain ⟨rr, S, B, d, r', re, rs, rd, hs, q⟩ := hq
    refine (pg_tup hc P n1 n2).run pins s σ H v u Q I r ?_
    simp only [setT] at hs
    cases d <;> simp only at hs <;> try (cases hs; done)
    rename_i xs
    obtain ⟨p, us, rfl, h1, h2⟩ := rd
    refine ⟨p, us, rfl, by rw [hK]; exact h1, ?_, rr, S, B, xs, r', re, rs, h2, hs, q⟩
    rw [h2.len]
    have : ∀ (ts : List Tg) (xs : List D) (rr r' : Env), setTs ts xs rr = some r' → xs.length = ts.length := by
      intro ts
      induction ts with
      | nil => intro xs rr r' e; cases xs <;> simp [setTs] at e ⊢
      | cons t ts ih =>
        intro xs rr r' e
        cases xs with
        | nil => simp [setTs] at e
        | cons x xs =>
          simp only [setTs, Option.bind_eq_some_iff] at e
          obtain ⟨q, _, e⟩ := e
          simp [ih _ _ _ e]
    exact this _ _ _ _ hs
theorem gs_ok (hN : N.Nodup) (hX : X.N = N) (hc : X.calm = true) (hK : X.K = G.K) {ok : Str → Bool} (hok : ∀ x, ok x = true → StoOk X x) (vs : List Nat) : ∀ (ts : List Tg) (es : List Expr), ckGs N ok ts es = true → tgsIn vs ts = true → PGs X es (gTs G vs ts)
  | [], es, h, hv => by
    cases es with
    | cons e es => simp [ckGs] at h
    | nil =>
      refine ⟨fun pins s σ H v u Q I r hq => ?_⟩
      obtain ⟨rr, S, B, ds, r', re, rs, rd, hs, q⟩ := hq
      refine pgs_nil.run pins s σ H v u Q I r ?_
      cases ds with
      | nil =>
        simp only [setTs] at hs
        cases hs
        exact ⟨rd, q σ re rfl⟩
      | cons d ds => simp [setTs] at hs
  | t :: ts, es, h, hv => by
    cases es with
    | nil => simp [ckGs] at h
    | cons e es =>
      have h' : ckG N ok t e = true ∧ ckGs N ok ts es = true := by simpa [ckGs] using h
      have hv' : tgIn vs t = true ∧ tgsIn vs ts = true := by simpa [tgsIn] using hv
      have P1 := g_ok hN hX hc hK hok vs t e h'.1 hv'.1
      have P2 := gs_ok hN hX hc hK hok vs ts es h'.2 hv'.2
      refine ⟨fun pins s σ H v u Q I r hq => ?_⟩
      obtain ⟨rr, S, B, ds, r', re, rs, rd, hs, q⟩ := hq
      refine (pgs_cons P1 P2 (by rw [ckG_star h'.1]; rfl)).run pins s σ H v u Q I r ?_
      cases ds with
      | nil => simp [setTs] at hs
      | cons d ds =>
        obtain ⟨w, ws, rfl, d1, d2⟩ := rd
        simp only [setTs, Option.bind_eq_some_iff] at hs
        obtain ⟨r1, hs1, hs2⟩ := hs
        exact ⟨w, ws, rfl, rr, S, B, d, r1, re, rs, d1, hs1, fun σ' re' hw => ⟨r1, S, B, ds, r', re', rs, d2, hs2, fun σ2 re2 hw2 => q σ2 re2 (hw2.trans hw)⟩⟩
end
end
end Ev

set_option Elab.async false
set_option linter.all false
set_option autoImplicit false
set_option maxRecDepth 100000
/-! What is walked: iterators. Own work. -/
namespace Ev
open PySem PySem.Spec PyProof.Rows L2
section
variable {G : Dom} {C : Calls} {n : Nat} {X : Cx} {N : List Str} {sc : Scope} {W : WX}
variable {a b c e tg : Expr} {es : List Expr} {ma mb mc : Env → Sto → R Val} {md : Env → Sto → R (List D)} {mv : Env → Sto → R (List Val)} {mt : Env → Sto → R Bool} {pos : Pos}
/-- the iterator J walks the items -/
def Wk (G : Dom) (J : It) (its : List D) (B : List Addr) (S : Sto) (H : Hp) : Prop :=
  ∀ B' S' H', Stp B S H B' S' H' → RepS G B' S' H' →
    (∀ i d, its[i]? = some d → J.go i H' ∧ ∀ x H2, J.yld i H' x H2 → (∀ b o, H' b = some o → H2 b = some o) ∧ RepD G (Live B' S') H2 d x) ∧ J.stop its.length H'
def tI (G : Dom) (W : WX) (m : Env → Sto → R (List D)) : TI := fun σ H R => ∃ r S B, RepE G B S H σ r ∧ RepS G B S H ∧ Ans G W σ (m r S) B S H fun its B' S' H' => ∀ J, Wk G J its B' S' H' → R J H'
theorem pi_weak {iter : Expr} {w1 w2 : TI} (h : PI X tg iter w1) (k : ∀ σ H R, w2 σ H R → w1 σ H R) : PI X tg iter w2 :=
  ⟨fun pins s σ H R I q => h.run pins s σ H R I (k σ H R q)⟩
theorem RepDs.get' {L : Addr → Prop} {H : Hp} {xs : List D} {us : List V} {i : Nat} {d : D} {x : V} (h : RepDs G L H xs us) (hd : xs[i]? = some d) (hx : us[i]? = some x) : RepD G L H d x := by
  obtain ⟨v, e, r⟩ := h.get hd
  rw [hx] at e; cases e
  exact r
theorem wk_list {B : List Addr} {S : Sto} {H : Hp} {p : Addr} {us : List V} {xs : List D} (h1 : H p = some (.lst us)) (hn : ¬ Live B S p) (h2 : RepDs G (Live B S) H xs us) (rs : RepS G B S H) : Wk G (Itl G.K p) xs B S H := by
  intro B' S' H' st r'
  have h1' := (st.ext.rdl h1 hn).1
  have h2' := RepDs.stp st rs h2
  have el := h2.len
  refine ⟨fun i d hd => ?_, us, .of h1', by omega⟩
  obtain ⟨v, e, rv⟩ := h2'.get hd
  refine ⟨⟨us, v, .of h1', e⟩, fun x H2 hy => ?_⟩
  obtain ⟨rfl, hy⟩ := hy
  have e2 := hy us (.of h1')
  exact ⟨fun _ _ q => q, h2'.get' hd e2⟩
theorem wk_tup {B : List Addr} {S : Sto} {H : Hp} {p : Addr} {us : List V} {xs : List D} (h1 : SqT G.K H p us) (h2 : RepDs G (Live B S) H xs us) (rs : RepS G B S H) : Wk G (Itt G.K p) xs B S H := by
  intro B' S' H' st r'
  have h1' := st.ext.tup rs.liveOk h1
  have h2' := RepDs.stp st rs h2
  have el := h2.len
  refine ⟨fun i d hd => ?_, us, h1', by omega⟩
  obtain ⟨v, e, rv⟩ := h2'.get hd
  refine ⟨⟨us, v, h1', e⟩, fun x H2 hy => ?_⟩
  obtain ⟨rfl, hy⟩ := hy
  have e2 := hy us h1'
  exact ⟨fun _ _ q => q, h2'.get' hd e2⟩
theorem rngD_get (lo : Int) : ∀ (n i : Nat) (d : D), (rngD lo n)[i]? = some d → i < n ∧ d = .int (lo + i)
  | 0, i, d, h => by simp [rngD] at h
  | n + 1, 0, d, h => by simp [rngD] at h; subst h; simp
  | n + 1, i + 1, d, h => by
    simp only [rngD, List.getElem?_cons_succ] at h
    obtain ⟨h1, h2⟩ := rngD_get (lo + 1) n i d h
    refine ⟨by omega, ?_⟩
    rw [h2]
    congr 1
    omega
theorem rngD_len (lo : Int) : ∀ n : Nat, (rngD lo n).length = n
  | 0 => rfl
  | n + 1 => by simp [rngD, rngD_len (lo + 1) n]
theorem wk_rng {B : List Addr} {S : Sto} {H : Hp} (lo : Int) (n : Nat) : Wk G (Itr lo n) (rngD lo n) B S H := by
  intro B' S' H' st r'
  refine ⟨fun i d hd => ?_, by rw [rngD_len]; exact Nat.le_refl _⟩
  obtain ⟨h1, rfl⟩ := rngD_get lo n i d hd
  refine ⟨h1, fun x H2 hy => ?_⟩
  obtain ⟨rfl, rfl⟩ := hy
  exact ⟨fun _ _ q => q, rfl⟩
theorem zipD_get : ∀ (xs ys : List D) (i : Nat) (d : D), (zipD xs ys)[i]? = some d → ∃ x y, xs[i]? = some x ∧ ys[i]? = some y ∧ d = .tup [x, y]
  | [], _, i, d, h => by simp [zipD] at h
  | _ :: _, [], i, d, h => by simp [zipD] at h
  | x :: xs, y :: ys, 0, d, h => by simp [zipD] at h; subst h; exact ⟨x, y, rfl, rfl, rfl⟩
  | x :: xs, y :: ys, i + 1, d, h => by
    simp only [zipD, List.getElem?_cons_succ] at h ⊢
    exact zipD_get xs ys i d h
theorem zipD_len : ∀ (xs ys : List D), (zipD xs ys).length = min xs.length ys.length
  | [], _ => by simp [zipD]
  | _ :: _, [] => by simp [zipD]
  | x :: xs, y :: ys => by simp [zipD, zipD_len xs ys]
theorem enumD_get : ∀ (xs : List D) (n : Int) (i : Nat) (d : D), (enumD n xs)[i]? = some d → ∃ x, xs[i]? = some x ∧ d = .tup [.int (n + i), x]
  | [], n, i, d, h => by simp [enumD] at h
  | x :: xs, n, 0, d, h => by simp [enumD] at h; subst h; exact ⟨x, rfl, by simp⟩
  | x :: xs, n, i + 1, d, h => by
    simp only [enumD, List.getElem?_cons_succ] at h ⊢
    obtain ⟨y, h1, h2⟩ := enumD_get xs (n + 1) i d h
    refine ⟨y, h1, ?_⟩
    rw [h2]
    have : n + 1 + (i : Int) = n + ((i + 1 : Nat) : Int) := by omega
    rw [this]
theorem enumD_len : ∀ (xs : List D) (n : Int), (enumD n xs).length = xs.length
  | [], n => rfl
  | x :: xs, n => by simp [enumD, enumD_len xs (n + 1)]
/-- a new pair -/
theorem rep_pair {B : List Addr} {S : Sto} {H : Hp} {T : Addr} {x y : V} {d1 d2 : D} (rs : RepS G B S H) (hT : H T = none) (h1 : RepD G (Live B S) H d1 x) (h2 : RepD G (Live B S) H d2 y) :
    (∀ b o, H b = some o → (upd H T (.tup [x, y])) b = some o) ∧ RepD G (Live B S) (upd H T (.tup [x, y])) (.tup [d1, d2]) (.ref T) := by
  have g := Grow.new (o := .tup [x, y]) hT
  refine ⟨g, T, [x, y], rfl, .of upd_same, x, [y], rfl, RepD.ext (g.ext _) rs.liveOk _ _ h1, y, [], rfl, RepD.ext (g.ext _) rs.liveOk _ _ h2, rfl⟩
theorem wk_zipL {B : List Addr} {S : Sto} {H : Hp} {p q : Addr} {us vs : List V} {xs ys : List D} (h1 : H p = some (.lst us)) (hn : ¬ Live B S p) (h2 : RepDs G (Live B S) H xs us) (g1 : H q = some (.lst vs)) (gn : ¬ Live B S q) (g2 : RepDs G (Live B S) H ys vs) (rs : RepS G B S H) :
    Wk G (Itz G.K p q) (zipD xs ys) B S H := by
  intro B' S' H' st r'
  have h1' := (st.ext.rdl h1 hn).1
  have g1' := (st.ext.rdl g1 gn).1
  have h2' := RepDs.stp st rs h2
  have g2' := RepDs.stp st rs g2
  have el := h2.len
  have gl := g2.len
  refine ⟨fun i d hd => ?_, us, vs, .of h1', .of g1', by rw [zipD_len]; omega⟩
  obtain ⟨x, y, e1, e2, rfl⟩ := zipD_get _ _ _ _ hd
  obtain ⟨v, e3, rv⟩ := h2'.get e1
  obtain ⟨w, e4, rw⟩ := g2'.get e2
  refine ⟨⟨us, vs, v, w, .of h1', .of g1', e3, e4⟩, fun z H2 hy => ?_⟩
  obtain ⟨T, x1, y1, rfl, hT, rfl, k1, k2⟩ := hy
  exact rep_pair r' hT (h2'.get' e1 (k1 us (.of h1'))) (g2'.get' e2 (k2 vs (.of g1')))
theorem wk_zipT {B : List Addr} {S : Sto} {H : Hp} {p q : Addr} {us vs : List V} {xs ys : List D} (h1 : SqT G.K H p us) (h2 : RepDs G (Live B S) H xs us) (g1 : SqT G.K H q vs) (g2 : RepDs G (Live B S) H ys vs) (rs : RepS G B S H) :
    Wk G (RZ.ItzT G.K p q) (zipD xs ys) B S H := by
  intro B' S' H' st r'
  have h1' := st.ext.tup rs.liveOk h1
  have g1' := st.ext.tup rs.liveOk g1
  have h2' := RepDs.stp st rs h2
  have g2' := RepDs.stp st rs g2
  have el := h2.len
  have gl := g2.len
  refine ⟨fun i d hd => ?_, us, vs, h1', g1', by rw [zipD_len]; omega⟩
  obtain ⟨x, y, e1, e2, rfl⟩ := zipD_get _ _ _ _ hd
  obtain ⟨v, e3, rv⟩ := h2'.get e1
  obtain ⟨w, e4, rw⟩ := g2'.get e2
  refine ⟨⟨us, vs, v, w, h1', g1', e3, e4⟩, fun z H2 hy => ?_⟩
  obtain ⟨T, x1, y1, rfl, hT, rfl, k1, k2⟩ := hy
  exact rep_pair r' hT (h2'.get' e1 (k1 us h1')) (g2'.get' e2 (k2 vs g1'))
theorem wk_enum {B : List Addr} {S : Sto} {H : Hp} {p : Addr} {us : List V} {xs : List D} (h1 : H p = some (.lst us)) (hn : ¬ Live B S p) (h2 : RepDs G (Live B S) H xs us) (rs : RepS G B S H) : Wk G (Ite G.K p) (enumD 0 xs) B S H := by
  intro B' S' H' st r'
  have h1' := (st.ext.rdl h1 hn).1
  have h2' := RepDs.stp st rs h2
  have el := h2.len
  refine ⟨fun i d hd => ?_, us, .of h1', by rw [enumD_len]; omega⟩
  obtain ⟨x, e1, rfl⟩ := enumD_get _ _ _ _ hd
  obtain ⟨v, e, rv⟩ := h2'.get e1
  refine ⟨⟨us, v, .of h1', e⟩, fun z H2 hy => ?_⟩
  obtain ⟨T, x1, rfl, hT, rfl, k1⟩ := hy
  exact rep_pair r' hT (by simp [RepD]) (h2'.get' e1 (k1 us (.of h1')))
/-! ### the rules -/
theorem wk_str {B : List Addr} {S : Sto} {H : Hp} (x : Str) : Wk G (Its x) (x.cps.toList.map fun c => .str ⟨#[c]⟩) B S H := by
  intro B' S' H' st r'
  refine ⟨fun i d hd => ?_, by simp [Its]⟩
  rw [List.getElem?_map, Option.map_eq_some_iff] at hd
  obtain ⟨c, hc, rfl⟩ := hd
  rw [Array.getElem?_toList] at hc
  refine ⟨(Array.getElem?_eq_some_iff.mp hc).1, fun z H2 hy => ?_⟩
  obtain ⟨rfl, c', hc', rfl⟩ := hy
  rw [hc] at hc'; cases hc'
  exact ⟨fun _ _ q => q, rfl⟩
theorem i_val (hK : X.K = G.K) (ha : PE X a (tE G W ma)) : PI X tg a (tI G W fun r S => (bindP (ma r S) fun x S => (Ev.R.ok ([] : List D) S).bind fun xs S => .ok (x :: xs) S).bind fun xs S => .ofO (walkD .val xs) S) := by
  refine ⟨fun pins s σ H R I h => ?_⟩
  obtain ⟨r, S, B, re, rs, an⟩ := h
  have an1 := an.bind.bindP
  refine thn (ha.run pins s σ H (fun u H1 => ∃ B1 S1 x, RepS G B1 S1 H1 ∧ RepD G (Live B1 S1) H1 x u ∧ ∃ its, walkD .val [x] = some its ∧ ∀ J, Wk G J its B1 S1 H1 → R J H1) I ⟨r, S, B, re, rs, an1.mono fun v B1 S1 H1 s1 r1 ⟨x, ex, an2⟩ u ru => ?_⟩) fun v s1 ⟨x, H1, I1, r1, q1⟩ => ?_
  · subst ex
    have q := (show Ans G W σ (Ev.R.ok [x] S1) B1 S1 H1 _ from an2).done r1
    obtain ⟨its, hi, an3⟩ := q.ofO
    exact ⟨B1, S1, x, r1, ru, its, hi, an3.done r1⟩
  · obtain ⟨B1, S1, d, rs1, rd, its, hi, q⟩ := q1
    cases d <;> simp only [walkD, itemsD] at hi <;> try (cases hi; done)
    · rename_i x'
      cases hi
      cases (show x = _ from rd)
      obtain ⟨t, rfl⟩ := r1
      have q' := q _ (wk_str x')
      cases ha : x'.cps.all (· < 128)
      · exact wpAny_pyIter_wide ha (pi_one (tk := s1.toks) I1 _ (turn_str _ x' t "str_iterator" (.inr rfl)) ⟨_, Heap.get?_push_size _ rfl, rfl, rfl⟩ q')
      · exact wpAny_pyIter_ascii ha (pi_one (tk := s1.toks) I1 _ (turn_str _ x' t "str_ascii_iterator" (.inl rfl)) ⟨_, Heap.get?_push_size _ rfl, rfl, rfl⟩ q')
    · rename_i xs
      cases hi
      obtain ⟨p, us, rfl, h1, hn, h2⟩ := rd
      cases r1
      obtain ⟨its, rv, p', hz⟩ := I1.list (.of h1)
      exact wpAny_pyIter_list p'.isList (pi_one (tk := s1.toks) I1 _ (turn_list p _) ⟨_, Heap.get?_push_size _ rfl, rfl, rfl⟩ (q _ (by rw [hK]; exact wk_list h1 hn h2 rs1)))
    · rename_i xs
      cases hi
      obtain ⟨p, us, rfl, h1, h2⟩ := rd
      cases r1
      obtain ⟨its, rv, p', hz⟩ := I1.tuple (by rw [hK]; exact h1)
      exact wpAny_pyIter_tuple (show s1.heap.IsTuple p its.toArray from p') (pi_one (tk := s1.toks) I1 _ (turn_tuple p _) ⟨_, Heap.get?_push_size _ rfl, rfl, rfl⟩ (q _ (by rw [hK]; exact wk_tup h1 h2 rs1)))
theorem rngOk_ok {i j : Int} (h : rngOk i j = true) : -(2 ^ 62) ≤ i ∧ i < 2 ^ 62 ∧ -(2 ^ 62) ≤ j ∧ j < 2 ^ 62 := by
  simpa [rngOk] using h
theorem i_rng1 (k : Cok G C n X N sc W) {p : Pos} (h2 : glB sc "range" = true) (hs : nStar a = true) (ha : PA X [a] (tD G W md)) : PI X tg (.Call (.Name "range" p) [a] [] pos) (tI G W fun r S => (md r S).bind fun xs S => .ofO (walkD .range1 xs) S) := by
  refine pi_weak (pi_range1 (k.gl h2) (by rw [k.hm]; exact k.gok.blt "range" (by decide +kernel)) ha (star_one hs)) fun σ H R h => ?_
  obtain ⟨r, S, B, re, rs, an⟩ := h
  refine ⟨r, S, B, re, rs, an.bind.mono fun xs B1 S1 H1 s1 r1 an1 us rus => ?_⟩
  obtain ⟨its, hi, an2⟩ := an1.ofO
  simp only [walkD] at hi
  split at hi
  · rename_i j
    split at hi
    · rename_i hr
      cases hi
      obtain ⟨v, vs, rfl, rv, rvs⟩ := rus
      cases (show v = _ from rv); cases (show vs = _ from rvs)
      obtain ⟨_, _, c1, c2⟩ := rngOk_ok hr
      exact ⟨j, rfl, c1, c2, an2.done r1 _ (wk_rng 0 j.toNat)⟩
    · cases hi
  · cases hi
theorem i_rng2 (k : Cok G C n X N sc W) {p : Pos} (h2 : glB sc "range" = true) (hs : nStar a = true) (hs2 : nStar b = true) (ha : PA X [a, b] (tD G W md)) : PI X tg (.Call (.Name "range" p) [a, b] [] pos) (tI G W fun r S => (md r S).bind fun xs S => .ofO (walkD .range2 xs) S) := by
  refine pi_weak (pi_range2 (k.gl h2) (by rw [k.hm]; exact k.gok.blt "range" (by decide +kernel)) ha (by rw [starEach_ns hs, star_one hs2]) (star_one hs2)) fun σ H R h => ?_
  obtain ⟨r, S, B, re, rs, an⟩ := h
  refine ⟨r, S, B, re, rs, an.bind.mono fun xs B1 S1 H1 s1 r1 an1 us rus => ?_⟩
  obtain ⟨its, hi, an2⟩ := an1.ofO
  simp only [walkD] at hi
  split at hi
  · rename_i i j
    split at hi
    · rename_i hr
      cases hi
      obtain ⟨v, vs, rfl, rv, w, ws, rfl, rw, rws⟩ := rus
      cases (show v = _ from rv); cases (show w = _ from rw); cases (show ws = _ from rws)
      exact ⟨i, j, rfl, rngOk_ok hr, an2.done r1 _ (wk_rng i (j - i).toNat)⟩
    · cases hi
  · cases hi
def isTupE : Expr → Bool
  | .Tuple _ _ _ => true
  | _ => false
theorem i_zip (k : Cok G C n X N sc W) {p : Pos} (h2 : glB sc "zip" = true) (ht : isTupE tg = true) (hs : nStar a = true) (hs2 : nStar b = true) (ha : PA X [a, b] (tD G W md)) : PI X tg (.Call (.Name "zip" p) [a, b] [] pos) (tI G W fun r S => (md r S).bind fun xs S => .ofO (walkD .zip xs) S) := by
  cases tg <;> simp only [isTupE] at ht <;> try (cases ht; done)
  refine pi_weak (RZ.pi_zipA (k.gl h2) (by rw [k.hm]; exact k.gok.blt "zip" (by decide +kernel)) ha (starEach_ns hs) (star_any (by simp [hs2]))) fun σ H R h => ?_
  obtain ⟨r, S, B, re, rs, an⟩ := h
  refine ⟨r, S, B, re, rs, an.bind.mono fun xs B1 S1 H1 s1 r1 an1 us rus => ?_⟩
  obtain ⟨its, hi, an2⟩ := an1.ofO
  simp only [walkD] at hi
  split at hi
  · rename_i xs ys
    cases hi
    obtain ⟨v, vs, rfl, ⟨p, us, rfl, g1, g2, g3⟩, w, ws, rfl, ⟨q, vs', rfl, e1, e2, e3⟩, rws⟩ := rus
    cases (show ws = _ from rws)
    exact ⟨p, q, us, vs', rfl, .inl ⟨.of g1, .of e1, an2.done r1 _ (by rw [k.hK]; exact wk_zipL g1 g2 g3 e1 e2 e3 r1)⟩⟩
  · rename_i xs ys
    cases hi
    obtain ⟨v, vs, rfl, ⟨p, us, rfl, g1, g3⟩, w, ws, rfl, ⟨q, vs', rfl, e1, e3⟩, rws⟩ := rus
    cases (show ws = _ from rws)
    exact ⟨p, q, us, vs', rfl, .inr ⟨by rw [k.hK]; exact g1, by rw [k.hK]; exact e1, an2.done r1 _ (by rw [k.hK]; exact wk_zipT g1 g3 e1 e3 r1)⟩⟩
  · cases hi
theorem i_enum (k : Cok G C n X N sc W) {p : Pos} (h2 : glB sc "enumerate" = true) (ht : isTupE tg = true) (hs : nStar a = true) (ha : PA X [a] (tD G W md)) : PI X tg (.Call (.Name "enumerate" p) [a] [] pos) (tI G W fun r S => (md r S).bind fun xs S => .ofO (walkD .enum xs) S) := by
  cases tg <;> simp only [isTupE] at ht <;> try (cases ht; done)
  refine pi_weak (pi_enum (k.gl h2) (by rw [k.hm]; exact k.gok.blt "enumerate" (by decide +kernel)) ha (star_one hs)) fun σ H R h => ?_
  obtain ⟨r, S, B, re, rs, an⟩ := h
  refine ⟨r, S, B, re, rs, an.bind.mono fun xs B1 S1 H1 s1 r1 an1 us rus => ?_⟩
  obtain ⟨its, hi, an2⟩ := an1.ofO
  simp only [walkD] at hi
  split at hi
  · rename_i xs
    cases hi
    obtain ⟨v, vs, rfl, ⟨p, us, rfl, g1, g2, g3⟩, rws⟩ := rus
    cases (show vs = _ from rws)
    exact ⟨p, us, rfl, .of g1, an2.done r1 _ (by rw [k.hK]; exact wk_enum g1 g2 g3 r1)⟩
  · cases hi
end
end Ev

set_option Elab.async false
set_option linter.all false
set_option autoImplicit false
set_option maxRecDepth 100000
/-! Comprehensions. Own work. -/
namespace Ev
open PySem PySem.Spec PyProof.Rows L2
section
variable {G : Dom} {C : Calls} {n : Nat} {X : Cx} {N : List Str} {sc : Scope} {W : WX}
variable {elt tg iter : Expr} {es ifs : List Expr} {me : Env → Sto → R Val} {md : Env → Sto → R (List D)} {mt : Env → Sto → R Bool} {pos : Pos}
theorem live_take {B : List Addr} {S : Sto} {m : Nat} {p : Addr} (h : Live (B.take m) (S.take m) p) : Live B S p := by
  obtain ⟨i, c, e1, e2, e3⟩ := h
  have hi : i < m := by
    have := (List.getElem?_eq_some_iff.mp e1).1
    rw [List.length_take] at this
    omega
  rw [List.getElem?_take_of_lt hi] at e1 e2
  exact ⟨i, c, e1, e2, e3⟩
theorem RepS.take {B : List Addr} {S : Sto} {H : Hp} (r : RepS G B S H) (m : Nat) : Ext (Live B S) (Live (B.take m) (S.take m)) H H ∧ RepS G (B.take m) (S.take m) H := by
  have x : Ext (Live B S) (Live (B.take m) (S.take m)) H H := ⟨fun _ _ e _ _ => e, fun a l => .inl (live_take l)⟩
  have get : ∀ {i : Nat} {c : Cell}, (S.take m)[i]? = some c → S[i]? = some c ∧ i < m := fun {i c} e => by
    have hi : i < m := by
      have := (List.getElem?_eq_some_iff.mp e).1
      rw [List.length_take] at this
      omega
    rw [List.getElem?_take_of_lt hi] at e
    exact ⟨e, hi⟩
  have getB : ∀ {i : Nat} {c : Addr}, i < m → (B.take m)[i]? = some c → B[i]? = some c := fun {i c} hi e => by
    rw [List.getElem?_take_of_lt hi] at e
    exact e
  refine ⟨x, by simp [r.len], fun i c a e1 e2 => ?_, fun i j c d a e1 e2 n1 n2 e3 e4 => ?_, r.tabs⟩
  · obtain ⟨e1, hi⟩ := get e1
    have h := r.cell i c a e1 (getB hi e2)
    cases c with
    | dead => exact h
    | lst zs => obtain ⟨vs, h1, h2⟩ := h; exact ⟨vs, h1, RepDs.ext x r.liveOk _ _ h2⟩
    | obj c fs => obtain ⟨C, dx, vs, y, h0, h1, h2, h3, h4⟩ := h; exact ⟨C, dx, vs, y, h0, h1, h2, h3, RepDs.ext x r.liveOk _ _ h4⟩
  · obtain ⟨e1, hi⟩ := get e1
    obtain ⟨e2, hj⟩ := get e2
    exact r.nd i j c d a e1 e2 n1 n2 (getB hi e3) (getB hj e4)
/-- back to the cells that were there -/
theorem Stp.cut {B B' : List Addr} {S S' : Sto} {H H' : Hp} (s : Stp B S H B' S' H') (r : RepS G B' S' H') : Stp B S H (B'.take B.length) (S'.take B.length) H' ∧ RepS G (B'.take B.length) (S'.take B.length) H' := by
  obtain ⟨x, r2⟩ := r.take B.length
  refine ⟨⟨s.ext.trans x, ?_⟩, r2⟩
  rw [List.take_take, Nat.min_self]
  exact s.pre
/-- the cells that were there, and one more -/
theorem RepS.pick {B : List Addr} {S : Sto} {H : Hp} {m j : Nat} {c : Cell} {p : Addr} (r : RepS G B S H) (hm : m ≤ j) (hc : S[j]? = some c) (hp : B[j]? = some p) :
    Ext (Live B S) (Live (B.take m ++ [p]) (S.take m ++ [c])) H H ∧ RepS G (B.take m ++ [p]) (S.take m ++ [c]) H := by
  have hjS : j < S.length := (List.getElem?_eq_some_iff.mp hc).1
  have hjB : j < B.length := (List.getElem?_eq_some_iff.mp hp).1
  have lS : (S.take m).length = m := by rw [List.length_take]; omega
  have lB : (B.take m).length = m := by rw [List.length_take]; omega
  have get : ∀ {i : Nat} {d : Cell} {a : Addr}, (S.take m ++ [c])[i]? = some d → (B.take m ++ [p])[i]? = some a → ∃ i', S[i']? = some d ∧ B[i']? = some a ∧ ((i < m ∧ i' = i) ∨ (i = m ∧ i' = j)) := fun {i d a} e1 e2 => by
    by_cases hi : i < m
    · rw [List.getElem?_append_left (by omega), List.getElem?_take_of_lt hi] at e1 e2
      exact ⟨i, e1, e2, .inl ⟨hi, rfl⟩⟩
    · rw [List.getElem?_append_right (by omega)] at e1 e2
      rw [lS] at e1
      rw [lB] at e2
      cases q : i - m with
      | zero =>
        rw [q] at e1 e2
        simp at e1 e2
        subst e1 e2
        exact ⟨j, hc, hp, .inr ⟨by omega, rfl⟩⟩
      | succ k => rw [q] at e1; simp at e1
  have x : Ext (Live B S) (Live (B.take m ++ [p]) (S.take m ++ [c])) H H := ⟨fun _ _ e _ _ => e, fun a ⟨i, d, e1, e2, e3⟩ => by
    obtain ⟨i', g1, g2, _⟩ := get e2 e1
    exact .inl ⟨i', d, g2, g1, e3⟩⟩
  refine ⟨x, by simp [lS, lB], fun i d a e1 e2 => ?_, fun i k d e a e1 e2 n1 n2 e3 e4 => ?_, r.tabs⟩
  · obtain ⟨i', g1, g2, _⟩ := get e1 e2
    have h := r.cell i' d a g1 g2
    cases d with
    | dead => exact h
    | lst zs => obtain ⟨vs, h1, h2⟩ := h; exact ⟨vs, h1, RepDs.ext x r.liveOk _ _ h2⟩
    | obj c fs => obtain ⟨C, dx, vs, y, h0, h1, h2, h3, h4⟩ := h; exact ⟨C, dx, vs, y, h0, h1, h2, h3, RepDs.ext x r.liveOk _ _ h4⟩
  · obtain ⟨i', g1, g2, g3⟩ := get e1 e3
    obtain ⟨k', f1, f2, f3⟩ := get e2 e4
    have := r.nd i' k' d e a g1 f1 n1 n2 g2 f2
    omega
theorem Stp.pick {B B' : List Addr} {S S' : Sto} {H H' : Hp} {j : Nat} {c : Cell} {p : Addr} (s : Stp B S H B' S' H') (r : RepS G B' S' H') (hm : B.length ≤ j) (hc : S'[j]? = some c) (hp : B'[j]? = some p) :
    Stp B S H (B'.take B.length ++ [p]) (S'.take B.length ++ [c]) H' ∧ RepS G (B'.take B.length ++ [p]) (S'.take B.length ++ [c]) H' := by
  obtain ⟨x, r2⟩ := r.pick hm hc hp
  have hjB : j < B'.length := (List.getElem?_eq_some_iff.mp hp).1
  refine ⟨⟨s.ext.trans x, ?_⟩, r2⟩
  have hl : (B'.take B.length).length = B.length := by rw [List.length_take]; omega
  rw [List.take_append_of_le_length (by omega), List.take_take, Nat.min_self]
  exact s.pre
def noX : WX := fun _ _ _ _ => False
/-- one turn's answer -/
def turnM (t : Tg) (own : List Nat) (mt : Env → Sto → R Bool) (me : Env → Sto → R Val) (r : Env) (x : D) (S : Sto) : R (Option D) := match setT t x (wipeV r own) with
  | none => .stuck
  | some r1 => (mt r1 S).bind fun b S => if b then bindP (me r1 S) fun y S => .ok (some y) S else .ok none S
theorem s_comp (k : Cok G C n X N sc W) {scope : Scope} {own : List (Str × Nat)} {t : Tg} (hi : PI X tg iter (tI G W md)) (ok : BlkOk X.N X.env.scope scope own)
    (hg : ∀ (s : Shared) (H : Hp) (C : Addr) (cl : List (Str × Addr)) (fp : List Addr), PG (X.blk s H scope (compEnvC scope cl C X.env) fp) tg (gT G (own.map (·.2)) t))
    (ht : ∀ (s : Shared) (H : Hp) (C : Addr) (cl : List (Str × Addr)) (fp : List Addr), PTs (X.blk s H scope (compEnvC scope cl C X.env) fp) ifs (tT G noX mt))
    (he : ∀ (s : Shared) (H : Hp) (C : Addr) (cl : List (Str × Addr)) (fp : List Addr), PE (X.blk s H scope (compEnvC scope cl C X.env) fp) elt (tE G noX me)) :
    ∀ σ H Q, tE G W (fun r S => (md r S).bind fun its S => (compLoop (turnM t (own.map (·.2)) mt me r) S.length its (S ++ [.lst []])).bind fun ys S1 => .ok (.d (.lst ys)) (S1.take S.length)) σ H Q →
      tLc (tI G W md) (gT G (own.map (·.2)) t) (tT G noX mt) (tE G noX me) (own.map (·.2)) σ H Q := by
  intro σ H Q h
  obtain ⟨r, S, B, re, rs, an⟩ := h
  refine ⟨r, S, B, re, rs, an.bind.mono fun its B1 S1 H1 s1 r1 an1 J wk L0 hD => ?_⟩
  have re1 := re.stp s1 rs
  obtain ⟨st0, rs0⟩ := r1.snoc (xs := []) (us := []) hD rfl
  have hn : S1.length = B1.length := r1.len.symm
  -- what is left to do at turn i
  let fin : R (List D) → R Val := fun x => x.bind fun ys S' => .ok (.d (.lst ys)) (S'.take S1.length)
  let P : Nat → Hp → Prop := fun i H' => ∃ S' B', Stp (B1 ++ [L0]) (S1 ++ [.lst []]) (upd H1 L0 (.lst [])) B' S' H' ∧ RepS G B' S' H' ∧
    Ans G W σ (fin (compLoop (turnM t (own.map (·.2)) mt me r) S1.length (its.drop i) S')) B1 S1 H1 fun v B' S' H' => ∀ u, RepV G B' S' H' v u → Q u H'
  refine ⟨fun i m H' => m = its.length - i ∧ i ≤ its.length ∧ P i H', ⟨its.length, rfl, Nat.zero_le _, S1 ++ [.lst []], B1 ++ [L0], Stp.refl _ _ _, rs0, by rw [List.drop_zero]; exact an1⟩, ?_⟩
  rintro i m H' ⟨rfl, hi', S', B', st, rs', an'⟩
  have stB : Stp B1 S1 H1 B' S' H' := st0.trans st
  have hD' : B'[B1.length]? = some L0 := st.get (by simp)
  obtain ⟨wk1, wk2⟩ := wk B' S' H' stB rs'
  by_cases hlt : i < its.length
  · right
    have hd : its[i]? = some its[i] := by simp [hlt]
    obtain ⟨go, yl⟩ := wk1 i _ hd
    rw [List.drop_eq_getElem_cons hlt] at an'
    refine ⟨go, P (i + 1), fun H2 p => ⟨its.length - (i + 1), by omega, rfl, hlt, p⟩, fun x H2 hy => ?_⟩
    obtain ⟨gr, rd⟩ := yl x H2 hy
    have st2 : Stp B' S' H' B' S' H2 := Stp.grow gr
    have rs2 := rs'.grow gr
    -- the turn's steps, by the evaluator
    have an2 : Ans G W σ (fin (compLoop (turnM t (own.map (·.2)) mt me r) S1.length (its[i] :: its.drop (i + 1)) S')) B1 S1 H1 fun v B' S' H' => ∀ u, RepV G B' S' H' v u → Q u H' := an'
    clear an'
    have nx : ∀ {o : R (Option D)}, turnM t (own.map (·.2)) mt me r its[i] S' = o → Ans G W σ (fin (match o with
      | .ok none S1' => compLoop (turnM t (own.map (·.2)) mt me r) S1.length (its.drop (i + 1)) S1'
      | .ok (some y) S1' => (match S1'[S1.length]? with
        | some (.lst acc) => if acc.length < sizeMax then compLoop (turnM t (own.map (·.2)) mt me r) S1.length (its.drop (i + 1)) (S1'.set S1.length (.lst (acc ++ [y]))) else .stuck
        | _ => .stuck)
      | _ => .stuck)) B1 S1 H1 fun v B' S' H' => ∀ u, RepV G B' S' H' v u → Q u H' := fun {o} e => by
      have := an2
      unfold compLoop at this
      rw [e] at this
      exact this
    have nxt := nx rfl
    unfold turnM at nxt
    cases e1 : setT t its[i] (wipeV r (own.map (·.2))) with
    | none => rw [e1] at nxt; exact nxt.elim
    | some r' =>
      rw [e1] at nxt
      refine ⟨wipeV r (own.map (·.2)), S', B', its[i], r', ((re1.stp stB r1).stp st2 rs').wipe _, rs2, rd, e1, fun σ2 re2 hw => ⟨?_, r', S', B', re2, rs2, ?_⟩⟩
      · rw [hw, wipe_wipe]
      · cases e2 : mt r' S' with
        | stuck => simp only [e2, Ev.R.bind] at nxt; exact nxt.elim
        | exc c S2 => simp only [e2, Ev.R.bind] at nxt; exact nxt.elim
        | ok b S2 =>
          simp only [e2, Ev.R.bind] at nxt
          intro B2 H3 s3 rs3
          cases b with
          | false =>
            simp only [Bool.false_eq_true, if_false] at nxt ⊢
            exact ⟨S2, B2, (st.trans st2).trans s3, rs3, nxt⟩
          | true =>
            simp only [if_true] at nxt ⊢
            refine ⟨r', S2, B2, re2.stp s3 rs2, rs3, ?_⟩
            cases e3 : me r' S2 with
            | stuck => simp only [e3, Ev.bindP, Ev.R.bind] at nxt; exact nxt.elim
            | exc c S3 => simp only [e3, Ev.bindP, Ev.R.bind] at nxt; exact nxt.elim
            | ok v S3 =>
              simp only [e3, Ev.bindP, Ev.R.bind] at nxt
              cases v <;> simp only at nxt <;> try (exact nxt.elim)
              rename_i y
              intro B3 H4 s4 rs4 u ru
              have st4 := ((st.trans st2).trans s3).trans s4
              have hD4 : B3[B1.length]? = some L0 := st4.get (by simp)
              split at nxt
              · rename_i acc hacc
                rw [hn] at hacc
                obtain ⟨vs, g1, g2⟩ := rs4.cell _ _ _ hacc hD4
                split at nxt
                · rename_i hl
                  refine ⟨vs, g1, by rw [g2.len, ← sizeMax_eq]; exact hl, ?_⟩
                  obtain ⟨s5, rs5⟩ := rs4.put hacc hD4 (ys := acc ++ [y]) (us := vs ++ [u]) (RepDs.app g2 ⟨u, [], rfl, ru, rfl⟩)
                  rw [← hn] at s5 rs5
                  exact ⟨_, B3, st4.trans s5, rs5, nxt⟩
                · exact nxt.elim
              · exact nxt.elim
  · left
    have e : i = its.length := by omega
    subst e
    refine ⟨wk2, ?_⟩
    have an2 : Ans G W σ (fin (compLoop (turnM t (own.map (·.2)) mt me r) S1.length (its.drop its.length) S')) B1 S1 H1 fun v B' S' H' => ∀ u, RepV G B' S' H' v u → Q u H' := an'
    clear an'
    rw [List.drop_length] at an2
    unfold compLoop at an2
    split at an2
    · rename_i acc hacc
      rw [hn] at hacc
      obtain ⟨s5, rs5, rd5⟩ := rs'.kill hacc hD'
      have stE := stB.trans s5
      obtain ⟨s6, rs6⟩ := stE.cut rs5
      have rd6 := RepD.ext (rs5.take B1.length).1 rs5.liveOk _ _ rd5
      rw [← hn] at s6 rs6 rd6
      exact an2.ok s6 rs6 _ rd6
    · exact an2.elim
/-- the same, and the list is kept to be changed -/
theorem s_compb (k : Cok G C n X N sc W) {scope : Scope} {own : List (Str × Nat)} {t : Tg} (hi : PI X tg iter (tI G W md)) (ok : BlkOk X.N X.env.scope scope own)
    (hg : ∀ (s : Shared) (H : Hp) (C : Addr) (cl : List (Str × Addr)) (fp : List Addr), PG (X.blk s H scope (compEnvC scope cl C X.env) fp) tg (gT G (own.map (·.2)) t))
    (ht : ∀ (s : Shared) (H : Hp) (C : Addr) (cl : List (Str × Addr)) (fp : List Addr), PTs (X.blk s H scope (compEnvC scope cl C X.env) fp) ifs (tT G noX mt))
    (he : ∀ (s : Shared) (H : Hp) (C : Addr) (cl : List (Str × Addr)) (fp : List Addr), PE (X.blk s H scope (compEnvC scope cl C X.env) fp) elt (tE G noX me)) :
    ∀ σ H Q, tE G W (fun r S => (md r S).bind fun its S => (compLoop (turnM t (own.map (·.2)) mt me r) S.length its (S ++ [.lst []])).bind fun ys S1 => .ok (.box S.length) ((S1.take S.length) ++ [.lst ys])) σ H Q →
      tLc (tI G W md) (gT G (own.map (·.2)) t) (tT G noX mt) (tE G noX me) (own.map (·.2)) σ H Q := by
  intro σ H Q h
  obtain ⟨r, S, B, re, rs, an⟩ := h
  refine ⟨r, S, B, re, rs, an.bind.mono fun its B1 S1 H1 s1 r1 an1 J wk L0 hD => ?_⟩
  have re1 := re.stp s1 rs
  obtain ⟨st0, rs0⟩ := r1.snoc (xs := []) (us := []) hD rfl
  have hn : S1.length = B1.length := r1.len.symm
  -- what is left to do at turn i
  let fin : R (List D) → R Val := fun x => x.bind fun ys S' => .ok (.box S1.length) ((S'.take S1.length) ++ [.lst ys])
  let P : Nat → Hp → Prop := fun i H' => ∃ S' B', Stp (B1 ++ [L0]) (S1 ++ [.lst []]) (upd H1 L0 (.lst [])) B' S' H' ∧ RepS G B' S' H' ∧
    Ans G W σ (fin (compLoop (turnM t (own.map (·.2)) mt me r) S1.length (its.drop i) S')) B1 S1 H1 fun v B' S' H' => ∀ u, RepV G B' S' H' v u → Q u H'
  refine ⟨fun i m H' => m = its.length - i ∧ i ≤ its.length ∧ P i H', ⟨its.length, rfl, Nat.zero_le _, S1 ++ [.lst []], B1 ++ [L0], Stp.refl _ _ _, rs0, by rw [List.drop_zero]; exact an1⟩, ?_⟩
  rintro i m H' ⟨rfl, hi', S', B', st, rs', an'⟩
  have stB : Stp B1 S1 H1 B' S' H' := st0.trans st
  have hD' : B'[B1.length]? = some L0 := st.get (by simp)
  obtain ⟨wk1, wk2⟩ := wk B' S' H' stB rs'
  by_cases hlt : i < its.length
  · right
    have hd : its[i]? = some its[i] := by simp [hlt]
    obtain ⟨go, yl⟩ := wk1 i _ hd
    rw [List.drop_eq_getElem_cons hlt] at an'
    refine ⟨go, P (i + 1), fun H2 p => ⟨its.length - (i + 1), by omega, rfl, hlt, p⟩, fun x H2 hy => ?_⟩
    obtain ⟨gr, rd⟩ := yl x H2 hy
    have st2 : Stp B' S' H' B' S' H2 := Stp.grow gr
    have rs2 := rs'.grow gr
    -- the turn's steps, by the evaluator
    have an2 : Ans G W σ (fin (compLoop (turnM t (own.map (·.2)) mt me r) S1.length (its[i] :: its.drop (i + 1)) S')) B1 S1 H1 fun v B' S' H' => ∀ u, RepV G B' S' H' v u → Q u H' := an'
    clear an'
    have nx : ∀ {o : R (Option D)}, turnM t (own.map (·.2)) mt me r its[i] S' = o → Ans G W σ (fin (match o with
      | .ok none S1' => compLoop (turnM t (own.map (·.2)) mt me r) S1.length (its.drop (i + 1)) S1'
      | .ok (some y) S1' => (match S1'[S1.length]? with
        | some (.lst acc) => if acc.length < sizeMax then compLoop (turnM t (own.map (·.2)) mt me r) S1.length (its.drop (i + 1)) (S1'.set S1.length (.lst (acc ++ [y]))) else .stuck
        | _ => .stuck)
      | _ => .stuck)) B1 S1 H1 fun v B' S' H' => ∀ u, RepV G B' S' H' v u → Q u H' := fun {o} e => by
      have := an2
      unfold compLoop at this
      rw [e] at this
      exact this
    have nxt := nx rfl
    unfold turnM at nxt
    cases e1 : setT t its[i] (wipeV r (own.map (·.2))) with
    | none => rw [e1] at nxt; exact nxt.elim
    | some r' =>
      rw [e1] at nxt
      refine ⟨wipeV r (own.map (·.2)), S', B', its[i], r', ((re1.stp stB r1).stp st2 rs').wipe _, rs2, rd, e1, fun σ2 re2 hw => ⟨?_, r', S', B', re2, rs2, ?_⟩⟩
      · rw [hw, wipe_wipe]
      · cases e2 : mt r' S' with
        | stuck => simp only [e2, Ev.R.bind] at nxt; exact nxt.elim
        | exc c S2 => simp only [e2, Ev.R.bind] at nxt; exact nxt.elim
        | ok b S2 =>
          simp only [e2, Ev.R.bind] at nxt
          intro B2 H3 s3 rs3
          cases b with
          | false =>
            simp only [Bool.false_eq_true, if_false] at nxt ⊢
            exact ⟨S2, B2, (st.trans st2).trans s3, rs3, nxt⟩
          | true =>
            simp only [if_true] at nxt ⊢
            refine ⟨r', S2, B2, re2.stp s3 rs2, rs3, ?_⟩
            cases e3 : me r' S2 with
            | stuck => simp only [e3, Ev.bindP, Ev.R.bind] at nxt; exact nxt.elim
            | exc c S3 => simp only [e3, Ev.bindP, Ev.R.bind] at nxt; exact nxt.elim
            | ok v S3 =>
              simp only [e3, Ev.bindP, Ev.R.bind] at nxt
              cases v <;> simp only at nxt <;> try (exact nxt.elim)
              rename_i y
              intro B3 H4 s4 rs4 u ru
              have st4 := ((st.trans st2).trans s3).trans s4
              have hD4 : B3[B1.length]? = some L0 := st4.get (by simp)
              split at nxt
              · rename_i acc hacc
                rw [hn] at hacc
                obtain ⟨vs, g1, g2⟩ := rs4.cell _ _ _ hacc hD4
                split at nxt
                · rename_i hl
                  refine ⟨vs, g1, by rw [g2.len, ← sizeMax_eq]; exact hl, ?_⟩
                  obtain ⟨s5, rs5⟩ := rs4.put hacc hD4 (ys := acc ++ [y]) (us := vs ++ [u]) (RepDs.app g2 ⟨u, [], rfl, ru, rfl⟩)
                  rw [← hn] at s5 rs5
                  exact ⟨_, B3, st4.trans s5, rs5, nxt⟩
                · exact nxt.elim
              · exact nxt.elim
  · left
    have e : i = its.length := by omega
    subst e
    refine ⟨wk2, ?_⟩
    have an2 : Ans G W σ (fin (compLoop (turnM t (own.map (·.2)) mt me r) S1.length (its.drop its.length) S')) B1 S1 H1 fun v B' S' H' => ∀ u, RepV G B' S' H' v u → Q u H' := an'
    clear an'
    rw [List.drop_length] at an2
    unfold compLoop at an2
    split at an2
    · rename_i acc hacc
      rw [hn] at hacc
      have stE := stB
      obtain ⟨s6, rs6⟩ := stE.pick rs' (Nat.le_refl _) hacc hD'
      have e7 : ((S'.set S1.length .dead).take S1.length) = S'.take B1.length := by rw [hn, List.take_set_of_le (Nat.le_refl _)]
      have an3 : Ans G W σ (.ok (.box S1.length) (S'.take B1.length ++ [.lst acc])) B1 S1 H1 fun v B' S' H' => ∀ u, RepV G B' S' H' v u → Q u H' := by
        rw [← e7]
        exact an2
      have hlB : B1.length < B'.length := (List.getElem?_eq_some_iff.mp hD').1
      refine an3.ok s6 rs6 _ ⟨L0, rfl, ?_⟩
      rw [hn, List.getElem?_append_right (by rw [List.length_take]; omega), List.length_take, Nat.min_eq_left (by omega), Nat.sub_self]
      rfl
    · exact an2.elim
end
end Ev

set_option Elab.async false
set_option linter.all false
set_option autoImplicit false
set_option maxRecDepth 100000
/-! Statements. Own work. -/
namespace Ev
open PySem PySem.Spec PyProof.Rows L2
section
variable {G : Dom} {C : Calls} {n : Nat} {X : Cx} {N : List Str} {sc : Scope} {W : WX}
variable {a b c e tg iter : Expr} {es : List Expr} {ma mb mc : Env → Sto → R Val} {md : Env → Sto → R (List D)} {mv : Env → Sto → R (List Val)} {mt : Env → Sto → R Bool} {pos : Pos}
variable {st : Stmt} {rest sa sb : List Stmt} {m1 m2 : Env → Sto → RS}
/-- what a block answers -/
def AnsS (G : Dom) (W : WX) (x : RS) (B : List Addr) (S : Sto) (H : Hp) (D : Ends) : Prop :=
  match x with
  | .nx r S' => ∀ B' H', Stp B S H B' S' H' → RepS G B' S' H' → ∀ σ', RepE G B' S' H' σ' r → D.nx σ' H'
  | .ret v S' => ∀ B' H', Stp B S H B' S' H' → RepS G B' S' H' → ∀ u, RepV G B' S' H' v u → D.rt u H'
  | .exc c S' => ∀ B' H', Stp B S H B' S' H' → RepS G B' S' H' → ∀ x C σ', G.cname c = some x → G.mg x = some (.ref C) → W (.ref C) none σ' H'
  | .stuck => False
def tS (G : Dom) (W : WX) (m : Env → Sto → RS) : TS := fun D σ H => ∃ r S B, RepE G B S H σ r ∧ RepS G B S H ∧ AnsS G W (m r S) B S H D
variable {α β : Type} {B B' : List Addr} {S S' : Sto} {H H' : Hp} {σ : L2.St} {E : Ends}
theorem AnsS.later {x : RS} (s : Stp B S H B' S' H') (h : AnsS G W x B S H E) : AnsS G W x B' S' H' E := by
  cases x with
  | nx r S2 => exact fun B2 H2 s2 r2 => h B2 H2 (s.trans s2) r2
  | ret v S2 => exact fun B2 H2 s2 r2 => h B2 H2 (s.trans s2) r2
  | exc c S2 => exact fun B2 H2 s2 r2 => h B2 H2 (s.trans s2) r2
  | stuck => exact h
theorem AnsS.of {x : R α} {f : α → Sto → RS} (h : AnsS G W (.of x f) B S H E) : Ans G W σ x B S H fun a B1 S1 H1 => AnsS G W (f a S1) B1 S1 H1 E := by
  cases x with
  | ok a S1 => exact fun B1 H1 s1 r1 => AnsS.later s1 h
  | exc c S1 => exact fun B1 H1 s1 r1 x C h1 h2 => h B1 H1 s1 r1 x C σ h1 h2
  | stuck => exact h
theorem AnsS.ofO {x : Option α} {f : α → RS} (h : AnsS G W (.ofO x f) B S H E) : ∃ a, x = some a ∧ AnsS G W (f a) B S H E := by
  cases x with
  | none => exact h.elim
  | some a => exact ⟨a, rfl, h⟩
theorem AnsS.nx {r : Env} (h : AnsS G W (.nx r S') B S H E) {B2 : List Addr} {H2 : Hp} (s : Stp B S H B2 S' H2) (rs : RepS G B2 S' H2) {σ' : L2.St} (re : RepE G B2 S' H2 σ' r) : E.nx σ' H2 := h B2 H2 s rs σ' re
theorem AnsS.then {x : RS} {f : Env → Sto → RS} (h : AnsS G W (x.andThen f) B S H E) (N' : L2.St → Hp → Prop) (hN : ∀ σ' H', (∃ r S' B', RepE G B' S' H' σ' r ∧ RepS G B' S' H' ∧ Stp B S H B' S' H' ∧ x = .nx r S' ∧ AnsS G W (f r S') B' S' H' E) → N' σ' H') : AnsS G W x B S H { E with nx := N' } := by
  cases x with
  | nx r S2 => exact fun B2 H2 s2 r2 σ2 re2 => hN _ _ ⟨r, S2, B2, re2, r2, s2, rfl, AnsS.later s2 h⟩
  | ret v S2 => exact h
  | exc c S2 => exact h
  | stuck => exact h
theorem ss_nil : PSs X [] (tS G W fun r S => .nx r S) := by
  refine ⟨fun pins s σ H D I h => ?_⟩
  obtain ⟨r, S, B, re, rs, an⟩ := h
  exact pss_nil.run pins s σ H D I (an.nx (Stp.refl _ _ _) rs re)
theorem ss_cons (h1 : PS X st (tS G W m1)) (h2 : PSs X rest (tS G W m2)) : PSs X (st :: rest) (tS G W fun r S => (m1 r S).andThen m2) := by
  refine ⟨fun pins s σ H D I h => ?_⟩
  obtain ⟨r, S, B, re, rs, an⟩ := h
  exact (pss_cons h1 h2).run pins s σ H D I ⟨r, S, B, re, rs, an.then _ fun σ' H' ⟨r', S', B', re', rs', _, _, an'⟩ => ⟨r', S', B', re', rs', an'⟩⟩
/-- a step without code -/
theorem ss_ghost (hg : ∀ r S B H σ D, RepE G B S H σ r → RepS G B S H → AnsS G W (m1 r S) B S H D → D.nx σ H) (h2 : PSs X rest (tS G W m2)) : PSs X rest (tS G W fun r S => (m1 r S).andThen m2) := by
  refine ⟨fun pins s σ H D I h => ?_⟩
  obtain ⟨r, S, B, re, rs, an⟩ := h
  refine h2.run pins s σ H D I (hg r S B H σ { D with nx := tS G W m2 D } re rs (an.then _ fun σ' H' ⟨r', S', B', re', rs', _, _, an'⟩ => ⟨r', S', B', re', rs', an'⟩))
theorem g_frz {i : Nat} : ∀ r S B H σ D, RepE G B S H σ r → RepS G B S H → AnsS G W (.ofO (boxAt r S i) fun (n, xs) => .nx (r.set i (some (.d (.lst xs)))) (S.set n .dead)) B S H D → D.nx σ H := by
  intro r S B H σ D re rs an
  obtain ⟨⟨m, xs⟩, hb, an⟩ := an.ofO
  obtain ⟨e0, e1, p, vs, e2, e3, e4, e5⟩ := boxAt_ok re rs hb
  obtain ⟨s1, rs1, rd⟩ := rs.kill e1 e3
  have re1 := (re.stp s1 rs).set (i := i) (v := .d (.lst xs)) rd
  have eσ : σ.set i (some (.ref p)) = σ := by
    apply List.ext_getElem?
    intro j
    by_cases hj : i = j
    · subst hj
      have hl : i < σ.length := (List.getElem?_eq_some_iff.mp e2).1
      rw [List.getElem?_set_self hl, e2]
    · rw [List.getElem?_set_ne hj]
  rw [eσ] at re1
  exact an.nx s1 rs1 re1
/-! ### stores -/
theorem nsw_of {e : Expr} (h : (match e with | .ListComp _ _ _ _ => false | .SetComp _ _ _ _ => false | .DictComp _ _ _ _ _ => false | _ => true) = true) {t : Option Expr} {l : Nat} {env : PySem.Env} : swapsWith e t l env = pure false := by
  cases e <;> simp at h <;> rfl
def notComp (e : Expr) : Bool := match e with | .ListComp _ _ _ _ => false | .SetComp _ _ _ _ => false | .DictComp _ _ _ _ _ => false | _ => true
theorem st_setv (k : Cok G C n X N sc W) {i : Nat} {x : Str} {p : Pos} (h1 : N[i]? = some x) (hs : StoOk X x) (ha : PE X e (tE G W ma)) (hn : swapsWith e (some (.Name x p)) pos.line X.env = pure false) :
    PS X (.Assign [.Name x p] e pos) (tS G W fun r S => .of (ma r S) fun v S => .ofO (setV (.v i) v r) fun r => .nx r S) := by
  refine ⟨fun pins s σ H D I h => ?_⟩
  obtain ⟨r, S, B, re, rs, an⟩ := h
  refine (ps_set (by rw [k.hN]; exact k.nd) (by rw [k.hN]; exact h1) hs.1 ha hn hs.2).run pins s σ H D I ⟨r, S, B, re, rs, an.of.mono fun v B1 S1 H1 s1 r1 an1 u ru => ?_⟩
  obtain ⟨r', hr, an2⟩ := an1.ofO
  simp only [setV] at hr
  split at hr
  · cases hr
    exact an2.nx (Stp.refl _ _ _) r1 ((re.stp s1 rs).set ru)
  · cases hr
theorem st_sett (k : Cok G C n X N sc W) {ts : List Tg} {les : List Expr} {kk : Nat} {p : Pos} {ok : Str → Bool} (hok : ∀ x, ok x = true → StoOk X x) (hg : ckG N ok (.t ts) (.Tuple les kk p) = true) (hv : tgIn (List.range 200) (.t ts) = true)
    (ha : PE X e (tE G W ma)) (hn : swapsWithSole [.Tuple les kk p] e pos.line X.env = pure false) (hw : swappedStores [.Tuple les kk p] e X.env = pure none) :
    PS X (.Assign [.Tuple les kk p] e pos) (tS G W fun r S => .of (ma r S) fun v S => .ofO (setV (.t ts) v r) fun r => .nx r S) := by
  refine ⟨fun pins s σ H D I h => ?_⟩
  obtain ⟨r, S, B, re, rs, an⟩ := h
  refine (ps_asg ha (g_ok k.nd k.hN k.calm k.hK hok (List.range 200) (.t ts) _ hg hv) hn hw).run pins s σ H D I ⟨r, S, B, re, rs, an.of.mono fun v B1 S1 H1 s1 r1 an1 u ru => ?_⟩
  obtain ⟨r', hr, an2⟩ := an1.ofO
  simp only [setV] at hr
  split at hr
  · rename_i xs
    exact ⟨r, S1, B1, .tup xs, r', re.stp s1 rs, r1, ru, by simpa [setT] using hr, fun σ' re' _ => an2.nx (Stp.refl _ _ _) r1 re'⟩
  · cases hr
/-- names side by side: what is stored -/
theorem setPar_rep {r' : Env} : ∀ {is : List Nat} {vs : List Val} {us : List V} {r : Env} {σ : L2.St}, RepE G B S H σ r → setPar is vs r = some r' → RepVs G B S H vs us → us.length = is.length ∧ RepE G B S H ((is.zip us).foldl (fun σ p => σ.set p.1 (some p.2)) σ) r'
  | [], vs, us, r, σ, re, h, ru => by
    cases vs with
    | nil => simp only [setPar] at h; cases h; cases (show us = _ from ru); exact ⟨rfl, re⟩
    | cons v vs => simp [setPar] at h
  | i :: is, vs, us, r, σ, re, h, ru => by
    cases vs with
    | nil => simp [setPar] at h
    | cons v vs =>
      simp only [setPar] at h
      split at h
      · obtain ⟨u, us', rfl, r1, r2⟩ := ru
        obtain ⟨g1, g2⟩ := setPar_rep (re.set r1) h r2
        exact ⟨by simp [g1], by simpa using g2⟩
      · cases h
theorem st_par2 (k : Cok G C n X N sc W) {i j kt k2 : Nat} {x y : Str} {px py pt pt2 : Pos} (h1 : N[i]? = some x) (h2 : N[j]? = some y) (hij : i ≠ j) (hx : sc.names.lookup x = some .local) (hy : sc.names.lookup y = some .local) (ha : PA X [a, b] (tA G W mv))
    (hw : swappedStores [.Tuple [.Name x px, .Name y py] kt pt] (.Tuple [a, b] k2 pt2) X.env = pure (some [x, y])) :
    PS X (.Assign [.Tuple [.Name x px, .Name y py] kt pt] (.Tuple [a, b] k2 pt2) pos) (tS G W fun r S => .of (mv r S) fun vs S => .ofO (setPar [i, j] vs r) fun r => .nx r S) := by
  refine ⟨fun pins s σ H D I h => ?_⟩
  obtain ⟨r, S, B, re, rs, an⟩ := h
  refine (ps_par k.calm (by rw [k.hN]; exact k.nd) (by rw [k.hN]; exact h1) (by rw [k.hN]; exact h2) hij (by rw [k.hS]; exact hx) (by rw [k.hS]; exact hy) ha hw).run pins s σ H D I ⟨r, S, B, re, rs, an.of.mono fun vs B1 S1 H1 s1 r1 an1 us rus => ?_⟩
  obtain ⟨r', hr, an2⟩ := an1.ofO
  obtain ⟨hl, re'⟩ := setPar_rep (re.stp s1 rs) hr rus
  match us, hl with
  | [u1, u2], _ => exact ⟨u1, u2, rfl, an2.nx (Stp.refl _ _ _) r1 re'⟩
theorem st_par3 (k : Cok G C n X N sc W) {i j l kt k2 : Nat} {x y z : Str} {px py pz pt pt2 : Pos} (h1 : N[i]? = some x) (h2 : N[j]? = some y) (h3 : N[l]? = some z) (hij : i ≠ j) (hil : i ≠ l) (hjl : j ≠ l) (hx : sc.names.lookup x = some .local) (hy : sc.names.lookup y = some .local) (hz : sc.names.lookup z = some .local) (ha : PA X [a, b, c] (tA G W mv))
    (hw : swappedStores [.Tuple [.Name x px, .Name y py, .Name z pz] kt pt] (.Tuple [a, b, c] k2 pt2) X.env = pure (some [x, y, z])) :
    PS X (.Assign [.Tuple [.Name x px, .Name y py, .Name z pz] kt pt] (.Tuple [a, b, c] k2 pt2) pos) (tS G W fun r S => .of (mv r S) fun vs S => .ofO (setPar [i, j, l] vs r) fun r => .nx r S) := by
  refine ⟨fun pins s σ H D I h => ?_⟩
  obtain ⟨r, S, B, re, rs, an⟩ := h
  refine (ps_par3 k.calm (by rw [k.hN]; exact k.nd) (by rw [k.hN]; exact h1) (by rw [k.hN]; exact h2) (by rw [k.hN]; exact h3) hij hil hjl (by rw [k.hS]; exact hx) (by rw [k.hS]; exact hy) (by rw [k.hS]; exact hz) ha hw).run pins s σ H D I ⟨r, S, B, re, rs, an.of.mono fun vs B1 S1 H1 s1 r1 an1 us rus => ?_⟩
  obtain ⟨r', hr, an2⟩ := an1.ofO
  obtain ⟨hl, re'⟩ := setPar_rep (re.stp s1 rs) hr rus
  match us, hl with
  | [u1, u2, u3], _ => exact ⟨u1, u2, u3, rfl, an2.nx (Stp.refl _ _ _) r1 re'⟩
/-- .. by a tuple that is laid and taken apart -/
def gSet (is : List Nat) : TGs := fun us σ H Q => us.length = is.length ∧ Q ((is.zip us).foldl (fun σ p => σ.set p.1 (some p.2)) σ) H
def nmsB (N : List Str) (ok : Str → Bool) : List Nat → List Expr → Bool
  | [], es => (match es with | [] => true | _ => false)
  | i :: is, es => (match es with | .Name x _ :: es => N[i]? == some x && ok x && nmsB N ok is es | _ => false)
theorem nms_ok (k : Cok G C n X N sc W) {ok : Str → Bool} (hok : ∀ x, ok x = true → StoOk X x) : ∀ (is : List Nat) (es : List Expr), nmsB N ok is es = true → PGs X es (gSet is) ∧ (assignEach es X.env).length = is.length ∧ (assignEach es X.env).findIdx? (·.1) = none
  | [], es, h => by
    cases es with
    | cons e es => simp [nmsB] at h
    | nil =>
      refine ⟨⟨fun pins s σ H v u Q I r hq => ?_⟩, rfl, rfl⟩
      obtain ⟨h1, h2⟩ := hq
      have : v = [] := List.length_eq_zero_iff.mp h1
      subst this
      exact pgs_nil.run pins s σ H [] u Q I r ⟨rfl, h2⟩
  | i :: is, es, h => by
    cases es with
    | nil => simp [nmsB] at h
    | cons e es =>
      cases e <;> simp only [nmsB] at h <;> try (cases h; done)
      rename_i x p
      simp only [Bool.and_eq_true, beq_iff_eq] at h
      obtain ⟨⟨h1, h2⟩, h3⟩ := h
      obtain ⟨P, l1, l2⟩ := nms_ok k hok is es h3
      obtain ⟨g1, g2⟩ := hok x h2
      refine ⟨⟨fun pins s σ H v u Q I r hq => ?_⟩, ?_, ?_⟩
      · obtain ⟨q1, q2⟩ := hq
        refine (pgs_cons (pg_name (i := i) (by rw [k.hN]; exact k.nd) (by rw [k.hN]; exact h1) g1 g2) P rfl).run pins s σ H v u Q I r ?_
        cases v with
        | nil => simp at q1
        | cons w ws => exact ⟨w, ws, rfl, by simpa using q1, by simpa using q2⟩
      · show (assignEach es X.env).length + 1 = _
        rw [l1]; rfl
      · show ((false, assign (.Name x p) X.env) :: assignEach es X.env).findIdx? (·.1) = none
        rw [List.findIdx?_cons]
        simp [l2]
theorem st_parn (k : Cok G C n X N sc W) {is : List Nat} {les : List Expr} {kt k2 : Nat} {pt pt2 : Pos} {ok : Str → Bool} (hok : ∀ x, ok x = true → StoOk X x) (hg : nmsB N ok is les = true) (hlen : is.length ≤ 1000) (ha : PA X es (tA G W mv))
    (hw : swappedStores [.Tuple les kt pt] (.Tuple es k2 pt2) X.env = pure none) :
    PS X (.Assign [.Tuple les kt pt] (.Tuple es k2 pt2) pos) (tS G W fun r S => .of (mv r S) fun vs S => .ofO (setPar is vs r) fun r => .nx r S) := by
  obtain ⟨P, l1, l2⟩ := nms_ok k hok is les hg
  refine ⟨fun pins s σ H D I h => ?_⟩
  obtain ⟨r, S, B, re, rs, an⟩ := h
  refine (ps_asg (pe_tup ha) (pg_tup k.calm P l1 l2) rfl hw).run pins s σ H D I ⟨r, S, B, re, rs, an.of.mono fun vs B1 S1 H1 s1 r1 an1 us rus => ?_⟩
  obtain ⟨r', hr, an2⟩ := an1.ofO
  obtain ⟨hl, re'⟩ := setPar_rep (re.stp s1 rs) hr rus
  refine ⟨small_len (by omega), fun p hp => ⟨p, us, rfl, .of upd_same, hl, hl, ?_⟩⟩
  have g := Grow.new (o := .tup us) hp
  exact an2.nx (Stp.grow g) (r1.grow g) (re'.stp (Stp.grow g) r1)
/-! ### ends, tests, loops -/
theorem st_ret (ha : PE X e (tE G W ma)) : PS X (.Return (some e) pos) (tS G W fun r S => .of (ma r S) fun v S => .ret v S) := by
  refine ⟨fun pins s σ H D I h => ?_⟩
  obtain ⟨r, S, B, re, rs, an⟩ := h
  exact (ps_ret ha).run pins s σ H D I ⟨r, S, B, re, rs, an.of.mono fun v B1 S1 H1 s1 r1 an1 u ru => an1 B1 H1 (Stp.refl _ _ _) r1 u ru⟩
theorem st_if (hc : PT X c (tT G W mt)) (ha : PSs X sa (tS G W m1)) (hb : PSs X sb (tS G W m2)) : PS X (.If c sa sb pos) (tS G W fun r S => .of (mt r S) fun t S => if t then m1 r S else m2 r S) := by
  refine ⟨fun pins s σ H D I h => ?_⟩
  obtain ⟨r, S, B, re, rs, an⟩ := h
  refine (ps_if hc ha hb).run pins s σ H D I ⟨r, S, B, re, rs, an.of.mono fun q B1 S1 H1 s1 r1 an1 => ?_⟩
  cases q with
  | true => rw [if_pos rfl]; exact ⟨r, S1, B1, re.stp s1 rs, r1, an1⟩
  | false => rw [if_neg (by decide)]; exact ⟨r, S1, B1, re.stp s1 rs, r1, an1⟩
theorem st_for (k : Cok G C n X N sc W) {t : Tg} {ok : Str → Bool} (hp : PassesOwn (model X.prog X.w) X.A X.env X.xe) (hi : PI X tg iter (tI G W md)) (hok : ∀ x, ok x = true → StoOk X x) (hg : ckG N ok t tg = true) (hv : tgIn (List.range 200) t = true) (hb : PSs X sa (tS G W m1))
    (hs : ∀ x, foldedSetIterable iter X.env x = pure x) :
    PS X (.For tg iter sa [] pos) (tS G W fun r S => .of (md r S) fun its S => loopF (fun x r S => .ofO (setT t x r) fun r => m1 r S) its r S) := by
  refine ⟨fun pins s σ H D I h => ?_⟩
  obtain ⟨r, S, B, re, rs, an⟩ := h
  refine (ps_for hp k.calm hi (g_ok k.nd k.hN k.calm k.hK hok (List.range 200) t tg hg hv) hb hs).run pins s σ H D I ⟨r, S, B, re, rs, an.of.mono fun its B1 S1 H1 s1 r1 an1 J wk => ?_⟩
  let body : Ev.D → Env → Sto → RS := fun x r S => .ofO (setT t x r) fun r => m1 r S
  let P : Nat → L2.St → Hp → Prop := fun i σ' H' => ∃ r' S' B', RepE G B' S' H' σ' r' ∧ RepS G B' S' H' ∧ Stp B1 S1 H1 B' S' H' ∧ AnsS G W (loopF body (its.drop i) r' S') B' S' H' D
  refine ⟨fun i m σ' H' => m = its.length - i ∧ i ≤ its.length ∧ P i σ' H', ⟨its.length, rfl, Nat.zero_le _, r, S1, B1, re.stp s1 rs, r1, Stp.refl _ _ _, by rw [List.drop_zero]; exact an1⟩, ?_⟩
  rintro i m σ' H' ⟨rfl, hi', r', S', B', re', rs', st, an'⟩
  obtain ⟨wk1, wk2⟩ := wk B' S' H' st rs'
  by_cases hlt : i < its.length
  · right
    have hd : its[i]? = some its[i] := by simp [hlt]
    obtain ⟨go, yl⟩ := wk1 i _ hd
    rw [List.drop_eq_getElem_cons hlt] at an'
    have an2 : AnsS G W ((body its[i] r' S').andThen (loopF body (its.drop (i + 1)))) B' S' H' D := an'
    refine ⟨go, P (i + 1), fun σ2 H2 p => ⟨its.length - (i + 1), by omega, rfl, hlt, p⟩, fun x H2 hy => ?_⟩
    obtain ⟨gr, rd⟩ := yl x H2 hy
    have st2 : Stp B' S' H' B' S' H2 := Stp.grow gr
    have rs2 := rs'.grow gr
    cases e1 : setT t its[i] r' with
    | none => simp only [body, e1] at an2; exact an2.elim
    | some r2 =>
      simp only [body, e1] at an2
      refine ⟨r', S', B', its[i], r2, re'.stp st2 rs', rs2, rd, e1, fun σ2 re2 _ => ⟨r2, S', B', re2, rs2, ?_⟩⟩
      exact (AnsS.later st2 an2).then (E := { D with ct := P (i + 1), bk := D.nx }) (P (i + 1)) fun σ3 H3 ⟨r3, S3, B3, re3, rs3, st3, _, an3⟩ => ⟨r3, S3, B3, re3, rs3, (st.trans st2).trans st3, an3⟩
  · left
    have e : i = its.length := by omega
    subst e
    have an2 : AnsS G W (loopF body (its.drop its.length) r' S') B' S' H' D := an'
    rw [List.drop_length] at an2
    exact ⟨wk2, an2.nx (Stp.refl _ _ _) rs' re'⟩
theorem st_while (hp : PassesOwn (model X.prog X.w) X.A X.env X.xe) (hc : PT X c (tT G W mt)) (hb : PSs X sa (tS G W m1)) (m0 : Nat) : PS X (.While c sa [] pos) (tS G W fun r S => loopW m1 mt m0 r S) := by
  refine ⟨fun pins s σ H D I h => ?_⟩
  obtain ⟨r, S, B, re, rs, an⟩ := h
  refine (ps_while hp hc hb).run pins s σ H D I ⟨fun m σ H => ∃ r S B, RepE G B S H σ r ∧ RepS G B S H ∧ AnsS G W (loopW m1 mt m r S) B S H D, ⟨m0, r, S, B, re, rs, an⟩, ?_⟩
  rintro m σ' H' ⟨r', S', B', re', rs', an'⟩
  cases m with
  | zero => exact an'.elim
  | succ m =>
    refine ⟨r', S', B', re', rs', (AnsS.of (f := fun b S => if b then (m1 r' S).andThen (loopW m1 mt m) else .nx r' S) an').mono fun q B1 S1 H1 s1 r1 an1 => ?_⟩
    cases q with
    | false =>
      rw [if_neg (by decide)]
      rw [if_neg (by decide)] at an1
      exact an1.nx (Stp.refl _ _ _) r1 (re'.stp s1 rs')
    | true =>
      rw [if_pos rfl]
      rw [if_pos rfl] at an1
      let P : L2.St → Hp → Prop := fun σ H => ∃ r S B, RepE G B S H σ r ∧ RepS G B S H ∧ AnsS G W (loopW m1 mt m r S) B S H D
      exact ⟨P, fun σ2 H2 p => ⟨m, Nat.lt_succ_self _, p⟩, r', S1, B1, re'.stp s1 rs', r1, an1.then (E := { D with ct := P, bk := D.nx }) P fun σ3 H3 ⟨r3, S3, B3, re3, rs3, _, _, an3⟩ => ⟨r3, S3, B3, re3, rs3, an3⟩⟩
theorem st_expr (ha : PE X e (tE G W ma)) (hn : notComp e = true) : PS X (.Expr e pos) (tS G W fun r S => .of (ma r S) fun _ S => .nx r S) := by
  refine ⟨fun pins s σ H D I h => ?_⟩
  obtain ⟨r, S, B, re, rs, an⟩ := h
  refine (ps_expr ha (nsw_of hn)).run pins s σ H D I ⟨r, S, B, re, rs, an.of.mono fun v B1 S1 H1 s1 r1 an1 u ru => ?_⟩
  exact an1.nx (Stp.refl _ _ _) r1 (re.stp s1 rs)
theorem st_pass : PS X (.Pass pos) (tS G W fun r S => .nx r S) := by
  refine ⟨fun pins s σ H D I h => ?_⟩
  obtain ⟨r, S, B, re, rs, an⟩ := h
  exact ps_pass.run pins s σ H D I (an.nx (Stp.refl _ _ _) rs re)
theorem st_doc {x : Str} {j : Nat} {p : Pos} : PS X (.Expr (.Constant (.str x) j p) pos) (tS G W fun r S => .nx r S) := by
  refine ⟨fun pins s σ H D I h => ?_⟩
  obtain ⟨r, S, B, re, rs, an⟩ := h
  exact ps_doc.run pins s σ H D I (an.nx (Stp.refl _ _ _) rs re)
theorem st_append (k : Cok G C n X N sc W) {i : Nat} {x : Str} {apos p0 p1 : Pos} (h1 : N[i]? = some x) (h2 : visB sc x = true) (hl : (apos.endLine == p1.line) = true) (hs : nStar e = true) (ha : PE X e (tE G W ma)) :
    PS X (.Expr (.Call (.Attribute (.Name x p0) "append" apos) [e] [] p1) pos) (tS G W fun r S => .ofO (boxAt r S i) fun _ => .of (bindP (ma r S) fun x S => .ok x S) fun x S => .ofO (boxAt r S i) fun (n, xs) => if xs.length < sizeMax then .nx r (S.set n (.lst (xs ++ [x]))) else .stuck) := by
  refine ⟨fun pins s σ H D I h => ?_⟩
  obtain ⟨r, S, B, re, rs, an⟩ := h
  have pv : PE X (.Name x p0) (tVar i) := pe_var (by rw [k.hN]; exact h1) (k.vis h2) (visB_ok h2).2.1 (visB_ok h2).2.2
  refine (ps_expr (pe_bm PySem.F.plainAttrs_list PySem.F.slot_list_append PySem.F.type_list_append mt_append pv (pa_cons ha pa_nil (starEach_ns hs)) rfl (few_one hs) hl (starEach_ns hs) rfl) (nsw_of rfl)).run pins s σ H D I ?_
  obtain ⟨⟨m, xs⟩, hb, an⟩ := an.ofO
  obtain ⟨e0, e1, p, vs, e2, e3, e4, e5⟩ := boxAt_ok re rs hb
  refine ⟨.ref p, e2, .inl ⟨rfl, _, .inl (.inl e4)⟩, r, S, B, re, rs, (an.of (σ := σ)).bindP.mono fun v B1 S1 H1 s1 r1 ⟨y, ey, an1⟩ u ru => ?_⟩
  subst ey
  have an2 := an1.done r1
  obtain ⟨⟨m', xs'⟩, hb', an3⟩ := an2.ofO
  obtain ⟨f0, f1, p', vs', f2, f3, f4, f5⟩ := boxAt_ok (re.stp s1 rs) r1 hb'
  have : p' = p := by rw [e2] at f2; cases f2; rfl
  subst this
  replace an3 : AnsS G W (if xs'.length < sizeMax then .nx r (S1.set m' (.lst (xs' ++ [y]))) else .stuck) B1 S1 H1 D := an3
  split at an3
  · rename_i hlt
    obtain ⟨s2, r2⟩ := r1.put (ys := xs' ++ [y]) (us := vs' ++ [u]) f1 f3 (RepDs.app f5 ⟨u, [], rfl, ru, rfl⟩)
    exact ⟨p', vs', u, rfl, rfl, f4, by rw [f5.len, ← sizeMax_eq]; exact hlt, an3.nx s2 r2 ((re.stp s1 rs).stp s2 r1)⟩
  · exact an3.elim
theorem st_seti (k : Cok G C n X N sc W) {i : Nat} {x : Str} {p0 p1 : Pos} (h1 : N[i]? = some x) (h2 : visB sc x = true) (ha : PE X a (tE G W ma)) (hb : PE X b (tE G W mb)) (hn : notComp b = true) (hsl : ∀ v, assign (.Subscript (.Name x p0) a p1) X.env v = (do
      let ov ← holding [v] (eval (.Name x p0) X.env)
      let iv ← holding [v, ov] (eval a X.env)
      standAt p1
      holding [v, ov, iv] (setItem ov iv v)
      release [v, ov, iv] [])) :
    PS X (.Assign [.Subscript (.Name x p0) a p1] b pos) (tS G W fun r S => .ofO (boxAt r S i) fun _ => .of (bindP (mb r S) fun x S => .ok x S) fun x S => .of (bindP (ma r S) fun x S => .ok x S) fun y S => .ofO (boxAt r S i) fun (n, xs) => (match y with
    | .int k => .ofO (L2.ixN xs.length k) fun j => .nx r (S.set n (.lst (xs.set j x)))
    | _ => .stuck)) := by
  refine ⟨fun pins s σ H D I h => ?_⟩
  obtain ⟨r, S, B, re, rs, an⟩ := h
  have pv : PE X (.Name x p0) (tVar i) := pe_var (by rw [k.hN]; exact h1) (k.vis h2) (visB_ok h2).2.1 (visB_ok h2).2.2
  obtain ⟨⟨m0, xs0⟩, hb0, an⟩ := an.ofO
  obtain ⟨e0, e1, p, vs, e2, e3, e4, e5⟩ := boxAt_ok re rs hb0
  refine (ps_asg hb (pg_sub pv ha set_list hsl) (show swapsWithSole [.Subscript (.Name x p0) a p1] b pos.line X.env = pure false from by unfold swapsWithSole; exact nsw_of hn) (by cases b <;> rfl) (by rfl)).run pins s σ H D I ⟨r, S, B, re, rs, (an.of (σ := σ)).bindP.mono fun v B1 S1 H1 s1 r1 ⟨y, ey, an1⟩ u ru => ?_⟩
  subst ey
  have an2 := (an1.done r1).of (σ := σ)
  have re1 := re.stp s1 rs
  refine ⟨.ref p, e2, r, S1, B1, re1, r1, an2.bindP.mono fun w B2 S2 H2 s2 r2 ⟨z, ez, an3⟩ t rt => ?_⟩
  subst ez
  have an4 := an3.done r2
  obtain ⟨⟨m', xs'⟩, hb', an5⟩ := an4.ofO
  obtain ⟨f0, f1, p', vs', f2, f3, f4, f5⟩ := boxAt_ok (re1.stp s2 r1) r2 hb'
  have : p' = p := by rw [e2] at f2; cases f2; rfl
  subst this
  cases z <;> simp only at an5 <;> try (exact an5.elim)
  rename_i q _
  obtain ⟨j, hj, an6⟩ := an5.ofO
  cases (show t = _ from rt)
  obtain ⟨s3, r3⟩ := r2.put (ys := xs'.set j y) (us := vs'.set j u) f1 f3 (RepDs.set j f5 (RepD.stp s2 r1 ru))
  exact ⟨p', vs', q, j, rfl, rfl, f4, by rw [f5.len]; exact hj, an6.nx s3 r3 ((re1.stp s2 r1).stp s3 r2)⟩
theorem st_raise (k : Cok G C n X N sc W) {cn : Nat} {x m : Str} {j : Nat} {p p2 p3 : Pos} (h1 : G.cname cn = some x) (h2 : glB sc x = true) : PS X (.Raise (some (.Call (.Name x p) [.Constant (.str m) j p2] [] p3)) none pos) (tS G W fun _ S => .exc cn S) := by
  refine ⟨fun pins s σ H D I h => ?_⟩
  obtain ⟨r, S, B, re, rs, an⟩ := h
  obtain ⟨Cd, g1, g2, g3, g4, g5⟩ := k.gok.exc cn x h1
  have rz : Raises X (.ref Cd) := raises_own (by rw [k.hK]; exact g4) (by rw [k.hK]; exact g5)
  refine (L2N.ps_raise k.calm k.takes (L2N.pmk_own PySem.F.excBase_ValueError (by rw [k.hK]; exact g2) (by rw [k.hm]; exact g1) (by rw [k.hK]; exact g3) rz (k.gl h2) (glB_ok h2).2)).run pins s σ H D I ?_
  exact an B H (Stp.refl _ _ _) rs x Cd σ h1 g1
end
end Ev

set_option Elab.async false
set_option linter.all false
set_option autoImplicit false
set_option maxRecDepth 100000
/-! What a slot holds is called: a def, a closure. Own work. -/
namespace Ev
open PySem PySem.Spec PyProof.Rows L2
section
variable {G : Dom} {C : Calls} {n : Nat} {X : Cx} {N : List Str} {sc : Scope} {W : WX}
variable {a : Expr} {as : List Expr} {mv : Env → Sto → R (List Val)} {pos : Pos}
theorem ansE {σ : L2.St} {x : R Val} {B : List Addr} {S : Sto} {H : Hp} {Q : VK} (an : Ans G W σ x B S H fun v B' S' H' => ∀ u, RepV G B' S' H' v u → Q u H') :
    Ans G (fun c d _ H' => WE W σ c d H') [] x B S H fun v B' S' H' => ∀ u, RepV G B' S' H' v u → Q u H' := by
  cases x with
  | ok v S2 => exact an
  | exc c S2 => exact an
  | stuck => exact an
theorem RepVs.minus {B : List Addr} {S : Sto} {H : Hp} {cs : List Addr} (k : Exts H cs) : ∀ {vs : List Val} {us : List V}, vs.all slotV = true → RepVs G B S H vs us → RepVs G B S (minus H cs) vs us
  | [], us, _, h => h
  | v :: vs, us, hs, h => by
    have hs' : slotV v = true ∧ vs.all slotV = true := by simpa using hs
    obtain ⟨u, r, e, h1, h2⟩ := h
    refine ⟨u, r, e, ?_, RepVs.minus k hs'.2 h2⟩
    cases v with
    | d x => exact RepD.minus k x u h1
    | box j => exact h1
    | obj j => exact h1
    | clo q e => simp [slotV] at hs'
theorem repL_repE {B : List Addr} {S : Sto} {H : Hp} : ∀ {r : Env} {σ : L2.St}, RepL G B S H r σ → RepE G B S H σ r := by
  intro r
  induction r with
  | nil =>
    intro σ h
    unfold RepL at h
    subst h
    exact ⟨rfl, fun i v e => by simp at e⟩
  | cons o r ih =>
    intro σ h
    unfold RepL at h
    obtain ⟨u, us, rfl, h1, h2⟩ := h
    have q := ih h2
    refine ⟨by simp [q.len], fun i v e => ?_⟩
    cases i with
    | zero =>
      simp at e
      subst e
      obtain ⟨x, rfl, h3⟩ := h1
      exact ⟨x, rfl, h3⟩
    | succ i => simpa using q.at_ i v (by simpa using e)
theorem repE_repL {B : List Addr} {S : Sto} {H : Hp} : ∀ {r : Env} {σ : L2.St}, RepE G B S H σ r → RepL G B S H r σ := by
  intro r
  induction r with
  | nil =>
    intro σ h
    unfold RepL
    have := h.len
    simp at this
    exact List.length_eq_zero_iff.mp this.symm
  | cons o r ih =>
    intro σ h
    have hl := h.len
    cases σ with
    | nil => simp at hl
    | cons u us =>
      unfold RepL
      refine ⟨u, us, rfl, ?_, ih ⟨by simpa using hl, fun i v e => by simpa using h.at_ (i + 1) v (by simpa using e)⟩⟩
      cases o with
      | none => trivial
      | some w =>
        obtain ⟨x, e, q⟩ := h.at_ 0 w rfl
        simp at e
        exact ⟨x, e, q⟩
theorem minus_none {H : Hp} {cs : List Addr} {b : Addr} (h : H b = none) : minus H cs b = none := by
  unfold minus
  split
  · rfl
  · exact h
theorem env0_minus {P : Program} {w : World} {K : PySem.W.Frag} {mg : Str → Option Value} {base : Heap} {A : Around} {outer : List PySem.Env} {s : Shared} {H : Hp} {cs : List Addr} (k : Exts H cs) (e0 : Env0 P w K mg base A outer s H) : Env0 P w K mg base A outer s (minus H cs) :=
  ⟨e0.frames, e0.mod, fun b o e => ⟨(e0.bs b o e).1, minus_none (e0.bs b o e).2⟩, e0.bsz, e0.funs, fun b hb => minus_none (e0.frf b hb), hok_minus k e0.hok, e0.bare⟩
/-- a tracked closure is called -/
theorem lam_tracked {q : Nat} {m : Env → List Val → Sto → R Val} (F : LamFact G n q m) {A : Around} {outer : List PySem.Env} {s : Shared} {H : Hp} {f : Addr} {r : Env} {vs : List Val} {us : List V} {uvals : List Value} {S : Sto} {B : List Addr} {Q : VK} {E : XK}
    (hr : Room n A) (e0 : Env0 G.prog G.w G.K G.mg G.base A outer s H) (rs : RepS G B S H) (rv : RepV G B S H (.clo q r) (.ref f)) (hs : vs.all slotV = true) (rvs : RepVs G B S H vs us) (rvals : Vals us uvals)
    (an : Ans G (fun c d _ H' => E c d H') [] (m r vs S) B S H (fun v B' S' H' => ∀ u, RepV G B' S' H' v u → Q u H')) : codeAny (model G.prog G.w) A (.call (.ref f) ⟨uvals, []⟩) (CR (L2N.CX G.prog G.w) outer G.prog G.w H s Q E) s := by
  unfold RepV at rv
  obtain ⟨f', c', clo, LD, pm, ctv, σ0, ef, h1, h2, h3, h4, h5, h6, h7, h8⟩ := rv
  cases ef
  have kc : Exts H (clo.map (·.2)) := cells_minus h5
  obtain ⟨hf, _, _⟩ := e0.hok _ _ h2
  obtain ⟨hcode, _, _⟩ := e0.hok _ _ h3
  have mem : ∀ {y c}, clo.lookup y = some c → (y, c) ∈ clo := fun {y c} e => PySem.mem_of_lookup e
  have memc : ∀ {y c}, clo.lookup y = some c → c ∈ clo.map (·.2) := fun {y c} e => List.mem_map.mpr ⟨(y, c), mem e, rfl⟩
  have nf : ∀ c ∈ clo.map (·.2), c ∉ frs outer := fun c hc z => by
    obtain ⟨o, e⟩ := kc c hc
    rw [e0.frf c z] at e
    cases e
  have nc : NoCode H (clo.map (·.2)) := fun c hc q e => by
    obtain ⟨p, hp, rfl⟩ := List.mem_map.mp hc
    obtain ⟨ob, w, e1, e2, _⟩ := h5 p hp
    obtain ⟨⟨oc, vs, t, g1, g2, g3⟩, _, _⟩ := e0.hok _ _ e
    obtain ⟨f1, _, _⟩ := e0.hok _ _ e1
    have f1 : s.heap.get? p.2 = some ob := f1
    rw [g1] at f1; cases f1
    rw [g2] at e2; cases e2
  have CA : CloAt LD clo s (minus H (clo.map (·.2))) σ0 := by
    refine ⟨h7, h4, fun y c e => ⟨minus_in (memc e), ?_⟩, h6⟩
    obtain ⟨ob, w, e1, e2, e3⟩ := h5 (y, c) (mem e)
    obtain ⟨f1, _, _⟩ := e0.hok _ _ e1
    exact ⟨w, ⟨ob, f1, e2⟩, fun i u g1 g2 _ => e3 i u g1 g2⟩
  have an2 : Ans G (fun cls d _ Hm => (∀ c ∈ clo.map (·.2), Hm c = none) → E cls d (plus Hm H (clo.map (·.2)))) [] (m r vs S) B S (minus H (clo.map (·.2))) fun v B' S' Hm => ∀ u, RepV G B' S' Hm v u → (∀ c ∈ clo.map (·.2), Hm c = none) → Q u (plus Hm H (clo.map (·.2))) :=
    an.minus kc (fun C Hm _ hn hE _ => hE) fun C Hm hn h => absurd h hn
  exact codeAny_mono (F LD A outer s (minus H (clo.map (·.2))) f c' clo pm ctv σ0 r vs us uvals S B (fun u Hm => (∀ c ∈ clo.map (·.2), Hm c = none) → Q u (plus Hm H (clo.map (·.2)))) (fun cls d Hm => (∀ c ∈ clo.map (·.2), Hm c = none) → E cls d (plus Hm H (clo.map (·.2))))
    h1 hr (env0_minus kc e0) hf hcode CA (rs.minus kc nc) (repL_repE h8) (RepVs.minus kc hs rvs) rvals an2) fun res s' hres => cr_plus kc e0.hok nf hres
/-- a closure is called -/
theorem run_clo (k : Cok G C n X N sc W) {pins : List (Addr × Obj)} {σ : L2.St} {H : Hp} {s : Shared} {B : List Addr} {S : Sto} {q : Nat} {r : Env} {f : Addr} {vs : List Val} {us : List V} {uvals : List Value} {Q : VK} (I : L2.Inv X pins σ H s) (rs : RepS G B S H) (rv : RepV G B S H (.clo q r) (.ref f))
    (hs : vs.all slotV = true) (ru : RepVs G B S H vs us) (rr : Vals us uvals) (an : Ans G W σ (C.lam q r vs S) B S H fun v B' S' H' => ∀ u, RepV G B' S' H' v u → Q u H') : wpAny (model X.prog X.w) X.A (call (.ref f) uvals) (EP X pins σ Q) X.xe s := by
  have e0 : Env0 G.prog G.w G.K G.mg G.base X.A X.stack s H := by
    have := I.env0
    rw [k.hP, k.hw, k.hK, k.hm, k.hb] at this
    exact this
  have F := lam_tracked (k.gok.lams q) (E := WE W σ) k.room e0 rs rv hs ru rr (ansE an)
  rw [← k.hP, ← k.hw] at F
  refine wpAny_call (codeAny_mono F fun res s' hq => ?_)
  cases res with
  | error e => exact L2N.passAt k.takes σ pins H s e s' I hq
  | ok fl =>
    cases fl with
    | ret u => exact I.after hq
    | next => exact False.elim hq
    | brk => exact False.elim hq
    | cont => exact False.elim hq
theorem clo_fn {P : Program} {w : World} {H : Hp} {s : Shared} {B : List Addr} {S : Sto} {q : Nat} {r : Env} {v : V} (x : HOk P w H s.heap) (rv : RepV G B S H (.clo q r) v) : ∃ f, v = .ref f ∧ PySem.W.FnAt f s.heap := by
  unfold RepV at rv
  obtain ⟨f, c', clo, LD, pm, ctv, σ0, e, _, h2, _⟩ := rv
  obtain ⟨hf, _, _⟩ := x _ _ h2
  exact ⟨f, e, _, _, _, _, hf⟩
/-- what is called, with its values at hand -/
def CallV (G : Dom) (C : Calls) (W : WX) (σ : L2.St) (v0 : Val) (Q : VK) (us : List V) (H : Hp) : Prop := ∃ vs S B, RepS G B S H ∧ RepVs G B S H vs us ∧
  Ans G W σ (match v0 with | .d (.fn f) => C.fn f vs S | .clo k q => if vs.all slotV then C.lam k q vs S else .stuck | _ => .stuck) B S H fun v B' S' H' => ∀ u, RepV G B' S' H' v u → Q u H'
theorem run_v (k : Cok G C n X N sc W) {pins : List (Addr × Obj)} {σ : L2.St} {H0 H : Hp} {s : Shared} {B0 : List Addr} {S0 : Sto} {v0 : Val} {u0 : V} {f : Addr} {us : List V} {uvals : List Value} {Q : VK} (I : L2.Inv X pins σ H s) (rr : Vals us uvals) (e : u0 = .ref f)
    (q : ∃ vs S B, RepS G B S H ∧ RepV G B S H v0 u0 ∧ RepVs G B S H vs us ∧ Ans G W σ (match v0 with | .d (.fn f) => C.fn f vs S | .clo k q => if vs.all slotV then C.lam k q vs S else .stuck | _ => .stuck) B S H fun v B' S' H' => ∀ u, RepV G B' S' H' v u → Q u H') :
    wpAny (model X.prog X.w) X.A (call (.ref f) uvals) (EP X pins σ Q) X.xe s := by
  obtain ⟨vs, S, B, rs, rv, rvs, an⟩ := q
  subst e
  cases v0 with
  | box m => exact an.elim
  | obj m => exact an.elim
  | clo q r =>
    have an2 : Ans G W σ (if vs.all slotV then C.lam q r vs S else .stuck) B S H fun v B' S' H' => ∀ u, RepV G B' S' H' v u → Q u H' := an
    split at an2
    · rename_i hs
      exact run_clo k I rs rv hs rvs rr an2
    · exact an2.elim
  | d d =>
    cases d <;> simp only at an <;> try (exact an.elim)
    rename_i g
    obtain ⟨a0, x0, e0, hx, hm⟩ := (show ∃ a x, V.ref f = .ref a ∧ G.fname g = some x ∧ G.mg x = some (.ref a) from rv)
    cases e0
    obtain ⟨a1, fd, ps, hm1, hk, hb, hF, hlen⟩ := k.gok.fns g x0 hx
    rw [hm] at hm1; cases hm1
    have hF' : FnOk X.prog X.w X.K X.mg X.base (L2N.CX X.prog X.w) n f fd ps (spF G ps.length (C.fn g)) := by rw [k.hP, k.hw, k.hK, k.hm, k.hb]; exact hF
    have hne : C.fn g vs S ≠ .stuck := fun z => by rw [z] at an; exact an.elim
    exact run_fnS (E := WE W) hF' k.room (by rw [k.hK]; exact hb) (L2N.passAt k.takes σ) I rr ⟨by rw [rvs.len]; exact hlen vs S hne, S, B, vs, rs, rvs, ansE an⟩
/-- what may be called is a def of the text, or a function object that is tracked -/
theorem callee (k : Cok G C n X N sc W) {pins : List (Addr × Obj)} {σ : L2.St} {H : Hp} {s : Shared} {B : List Addr} {S : Sto} {v0 : Val} {u0 : V} (I : L2.Inv X pins σ H s) (rv : RepV G B S H v0 u0) (h : (∃ f, v0 = .d (.fn f)) ∨ ∃ q r, v0 = .clo q r) :
    ∃ f, u0 = .ref f ∧ (PySem.W.keepIn X.K (.ref f) = true ∨ ((∃ q r, v0 = .clo q r) ∧ PySem.W.FnAt f s.heap)) := by
  rcases h with ⟨g, rfl⟩ | ⟨q, r, rfl⟩
  · obtain ⟨a0, x0, rfl, hx, hm⟩ := (show ∃ a x, u0 = .ref a ∧ G.fname g = some x ∧ G.mg x = some (.ref a) from rv)
    obtain ⟨a1, fd, ps, hm1, hk, _⟩ := k.gok.fns g x0 hx
    rw [hm] at hm1; cases hm1
    exact ⟨a0, rfl, .inl (by rw [k.hK]; exact hk)⟩
  · obtain ⟨f, e, hf⟩ := clo_fn I.hok rv
    exact ⟨f, e, .inr ⟨⟨q, r, rfl⟩, hf⟩⟩
theorem s_callv (k : Cok G C n X N sc W) {i : Nat} {x : Str} {p : Pos} (h1 : N[i]? = some x) (h2 : visB sc x = true) (hs : nStar a = true) (hss : as.all nStar = true) (ha : PA X (a :: as) (tA G W mv)) :
    PE X (.Call (.Name x p) (a :: as) [] pos) (tE G W fun r S => (match getV r i with
    | some (.d (.fn f)) => (mv r S).bind fun vs S => C.fn f vs S
    | some (.clo k q) => (mv r S).bind fun vs S => if vs.all slotV then C.lam k q vs S else .stuck
    | _ => .stuck)) := by
  refine ⟨fun pins s σ H Q I h => ?_⟩
  obtain ⟨r, S, B, re, rs, an⟩ := h
  have pv := pe_var (X := X) (pos := p) (i := i) (by rw [k.hN]; exact h1) (k.vis h2) (visB_ok h2).2.1 (visB_ok h2).2.2
  cases hg : getV r i with
  | none => simp only [hg] at an; exact an.elim
  | some v0 =>
    simp only [hg] at an
    obtain ⟨u0, hu, ru0⟩ := re.get hg
    have hv : (∃ f, v0 = .d (.fn f)) ∨ ∃ q r, v0 = .clo q r := by
      cases v0 with
      | box m => exact an.elim
      | obj m => exact an.elim
      | clo q e => exact .inr ⟨q, e, rfl⟩
      | d d => cases d <;> simp only at an <;> first | exact .inl ⟨_, rfl⟩ | exact an.elim
    have an' : Ans G W σ ((mv r S).bind fun vs S => (match v0 with | .d (.fn f) => C.fn f vs S | .clo k q => if vs.all slotV then C.lam k q vs S else .stuck | _ => .stuck)) B S H fun v B' S' H' => ∀ u, RepV G B' S' H' v u → Q u H' := by
      rcases hv with ⟨f, rfl⟩ | ⟨q, e, rfl⟩ <;> exact an
    refine wpAny_Call_Name_kw (thn (pv.run pins s σ H (fun v H1 => v = u0 ∧ H1 = H) I ⟨u0, hu, rfl, rfl⟩) fun uv s1 ⟨v, H1, I1, r1, q1⟩ => ?_)
    obtain ⟨rfl, rfl⟩ := q1
    obtain ⟨f, rfl, hk⟩ := callee k I1 ru0 hv
    obtain rfl : uv = Value.ref f := r1
    have args := ha.run pos pins s1 σ H1 (fun us H2 => ∃ vs S2 B2, RepS G B2 S2 H2 ∧ RepV G B2 S2 H2 v0 (.ref f) ∧ RepVs G B2 S2 H2 vs us ∧ Ans G W σ (match v0 with | .d (.fn f) => C.fn f vs S2 | .clo k q => if vs.all slotV then C.lam k q vs S2 else .stuck | _ => .stuck) B2 S2 H2 fun v B' S' H' => ∀ u, RepV G B' S' H' v u → Q u H') I1
      ⟨r, S, B, re, rs, an'.bind.mono fun vs B1 S1 H1 s1 r1 an1 us rus => ⟨vs, S1, B1, r1, ru0.stp s1 rs, rus, an1⟩⟩
    rcases hk with hk | hk
    · refine PySem.W.callWith_K (h₀ := X.base) I1.ok.mod.kin hk (thn args fun us s2 ⟨vs', H2, I2, rr, q2⟩ => ⟨I2.kIn, ?_⟩) (starEach_ns hs) (star_any hss)
      exact run_v k (H0 := H2) (B0 := B) (S0 := S) I2 rr rfl q2
    · obtain ⟨⟨q, e, hq⟩, hk⟩ := hk
      refine PySem.W.callWith_F hk (thn args fun us s2 ⟨vs', H2, I2, rr, q2⟩ => ⟨?_, ?_⟩) (starEach_ns hs) (star_any hss)
      · obtain ⟨vs, S2, B2, _, rv2, _⟩ := q2
        subst hq
        obtain ⟨f3, e3, hf3⟩ := clo_fn I2.hok rv2
        cases e3
        exact hf3
      · exact run_v k (H0 := H2) (B0 := B) (S0 := S) I2 rr rfl q2
theorem s_callv0 (k : Cok G C n X N sc W) {i : Nat} {x : Str} {p : Pos} (h1 : N[i]? = some x) (h2 : visB sc x = true) :
    PE X (.Call (.Name x p) [] [] pos) (tE G W fun r S => (match getV r i with
    | some (.d (.fn f)) => (R.ok ([] : List Val) S).bind fun vs S => C.fn f vs S
    | some (.clo k q) => (R.ok ([] : List Val) S).bind fun vs S => if vs.all slotV then C.lam k q vs S else .stuck
    | _ => .stuck)) := by
  refine ⟨fun pins s σ H Q I h => ?_⟩
  obtain ⟨r, S, B, re, rs, an⟩ := h
  have pv := pe_var (X := X) (pos := p) (i := i) (by rw [k.hN]; exact h1) (k.vis h2) (visB_ok h2).2.1 (visB_ok h2).2.2
  cases hg : getV r i with
  | none => simp only [hg] at an; exact an.elim
  | some v0 =>
    simp only [hg] at an
    obtain ⟨u0, hu, ru0⟩ := re.get hg
    have hv : (∃ f, v0 = .d (.fn f)) ∨ ∃ q r, v0 = .clo q r := by
      cases v0 with
      | box m => exact an.elim
      | obj m => exact an.elim
      | clo q e => exact .inr ⟨q, e, rfl⟩
      | d d => cases d <;> simp only at an <;> first | exact .inl ⟨_, rfl⟩ | exact an.elim
    have an' : Ans G W σ (match v0 with | .d (.fn f) => C.fn f [] S | .clo k q => if ([] : List Val).all slotV then C.lam k q [] S else .stuck | _ => .stuck) B S H fun v B' S' H' => ∀ u, RepV G B' S' H' v u → Q u H' := by
      rcases hv with ⟨f, rfl⟩ | ⟨q, e, rfl⟩ <;> exact an
    refine wpAny_Call_Name_kw (thn (pv.run pins s σ H (fun v H1 => v = u0 ∧ H1 = H) I ⟨u0, hu, rfl, rfl⟩) fun uv s1 ⟨v, H1, I1, r1, q1⟩ => ?_)
    obtain ⟨rfl, rfl⟩ := q1
    obtain ⟨f, rfl, hk⟩ := callee k I1 ru0 hv
    obtain rfl : uv = Value.ref f := r1
    rcases hk with hk | hk
    · exact PySem.W.callWith_K0 I1.kIn hk (run_v k (H0 := H1) (B0 := B) (S0 := S) I1 .nil rfl ⟨[], S, B, rs, ru0, rfl, an'⟩)
    · exact PySem.W.callWith_F0 hk.2 (run_v k (H0 := H1) (B0 := B) (S0 := S) I1 .nil rfl ⟨[], S, B, rs, ru0, rfl, an'⟩)
end
end Ev

set_option Elab.async false
set_option linter.all false
set_option autoImplicit false
set_option maxRecDepth 100000
set_option maxHeartbeats 4000000
/-! A lambda is made and handed to a def that calls it. Own work. -/
namespace Ev
open PySem PySem.Spec PyProof.Rows L2
section
variable {G : Dom} {C : Calls} {n : Nat} {X : Cx} {N : List Str} {sc : Scope} {W : WX} {B : List Addr} {S : Sto} {H H1 : Hp}
/-- only tables have grown -/
theorem Stp.extN (eN : LamX.ExtN H H1) : Stp B S H B S H1 := ⟨⟨fun a o e _ t => eN a o e fun ps z => t ⟨ps, z⟩, fun _ h => .inl h⟩, by simp⟩
theorem RepS.extN (r : RepS G B S H) (eN : LamX.ExtN H H1) (T : LamX.Tabs G.T H1) : RepS G B S H1 := by
  have x : Ext (Live B S) (Live B S) H H1 := (Stp.extN (B := B) (S := S) eN).ext
  refine ⟨r.len, fun i c a e1 e2 => ?_, r.nd, T⟩
  have h := r.cell i c a e1 e2
  cases c with
  | dead => trivial
  | lst zs =>
    obtain ⟨vs, h1, h2⟩ := h
    exact ⟨vs, eN _ _ h1 (fun _ z => by cases z), RepDs.ext x r.liveOk _ _ h2⟩
  | obj c fs =>
    obtain ⟨C, dx, vs, y, h0, h1, h2, h3, h4⟩ := h
    exact ⟨C, dx, vs, y, h0, h1, eN _ _ h2 (fun _ z => by cases z), h3, RepDs.ext x r.liveOk _ _ h4⟩
/-- the lambda's free names are cells of the frame -/
def capB (sc : Scope) (ls : Scope) : Bool := ls.names.all fun y => !(y.2 == .free) || (match sc.names.lookup y.1 with | some .cell => true | some .free => true | _ => false)
theorem capB_ok {sc ls : Scope} (h : capB sc ls = true) {y : Str × NameKind} (hy : y ∈ ls.names) (hf : y.2 = .free) : sc.names.lookup y.1 = some .cell ∨ sc.names.lookup y.1 = some .free := by
  unfold capB at h
  rw [List.all_eq_true] at h
  have q := h y hy
  rw [hf] at q
  simp only [beq_self_eq_true, Bool.not_true, Bool.false_or] at q
  split at q <;> first | exact .inl ‹_› | exact .inr ‹_› | cases q
theorem cloAt_of {pins : List (Addr × Obj)} {σ : L2.St} {s : Shared} {LD : LamD} {dm : Str} (I : Inv X pins σ H s) (hXN : X.N = N) (hS : X.env.scope = sc) (hN : LD.N = N ++ [dm]) (hc : capB sc LD.scope = true) :
    CloAt LD (cloFrom X.env.cells LD.scope.names []) s H (σ ++ [none]) := by
  have has : ∀ y : Str × NameKind, y ∈ LD.scope.names → y.2 = .free → ∃ c, X.env.cells.lookup y.1 = some c := fun y hy hf => by
    have q := capB_ok hc hy hf
    rw [← hS] at q
    exact I.ok.has y.1 q
  have of : ∀ {y : Str} {c : Addr}, (cloFrom X.env.cells LD.scope.names []).lookup y = some c → (y, NameKind.free) ∈ LD.scope.names ∧ X.env.cells.lookup y = some c := fun {y c} e => by
    rcases cloFrom_mem (PySem.mem_of_lookup e) with z | ⟨z1, z2⟩
    · cases z
    · obtain ⟨c0, e0⟩ := has _ z1 rfl
      rw [e0] at z2
      rw [z2]
      exact ⟨z1, e0⟩
  refine ⟨fun y e => ?_, fun x y c e1 e2 => I.ok.inj x y c (of e1).2 (of e2).2, fun y c e => ?_, ?_⟩
  · exact mem_lookup (cloFrom_has (PySem.mem_of_lookup e))
  · obtain ⟨h1, h2⟩ := of e
    obtain ⟨v, hv⟩ := I.cell y c h2
    refine ⟨I.freeC y c h2, v, hv, fun i u e1 e2 e3 => ?_⟩
    have hl := I.len
    rw [hXN] at hl
    by_cases hi : i < σ.length
    · rw [List.getElem?_append_left hi] at e2
      rw [hN, List.getElem?_append_left (by omega)] at e1
      obtain ⟨m, _, loc⟩ := I.loc
      have q := capB_ok hc h1 rfl
      obtain ⟨w, r1, r2⟩ := loc i y u (by rw [hXN]; exact e1) e2 (by rw [hS]; exact q.elim (fun q => .inr (.inl q)) (fun q => .inr (.inr q)))
      rcases r2 with ⟨k1, _⟩ | ⟨_, c2, k1, k2⟩
      · have k1' : X.env.scope.names.lookup y = some .local := k1
        rw [hS] at k1'
        rcases q with q | q <;> rw [show sc.names.lookup y = _ from q] at k1' <;> cases k1'
      · rw [h2] at k1
        cases k1
        obtain ⟨o, g1, g2⟩ := hv
        obtain ⟨o2, g3, g4⟩ := k2
        rw [g1] at g3
        cases g3
        rw [g2] at g4
        cases g4
        exact ⟨w, rfl, r1⟩
    · rw [List.getElem?_append_right (by omega)] at e2
      cases hq : i - σ.length with
      | zero => rw [hq] at e2; simp at e2
      | succ k => rw [hq] at e2; simp at e2
  · have hl := I.len
    rw [hXN] at hl
    rw [hN, List.length_append, List.length_append, hl]
    rfl
theorem RepE.keep {σ : L2.St} {r : Env} (re : RepE G B S H σ r) (cap : List Nat) : RepE G B S H (σ ++ [none]) (keepV r cap) := by
  have hl := re.len
  refine ⟨by simp [keepV, hl], fun i v e => ?_⟩
  unfold keepV at e
  by_cases hi : i < r.length
  · rw [List.getElem?_append_left (by simpa using hi), List.getElem?_map, List.getElem?_range hi] at e
    simp only [Option.map_some, Option.some.injEq] at e
    split at e
    · cases q : r[i]? with
      | none => rw [q] at e; cases e
      | some w =>
        rw [q] at e
        simp only [Option.join_some] at e
        subst e
        obtain ⟨u, g1, g2⟩ := re.at_ i v q
        exact ⟨u, by rw [List.getElem?_append_left (by omega)]; exact g1, g2⟩
    · cases e
  · rw [List.getElem?_append_right (by simpa using hi)] at e
    cases hq : i - ((List.range r.length).map fun i => if i ∈ cap then (r[i]?).join else none).length with
    | zero => rw [hq] at e; simp at e
    | succ k => rw [hq] at e; simp at e
def noDefB (p : Arguments) : Bool := match p with
  | ⟨_, _, _, _, [], _, []⟩ => true
  | _ => false
theorem noDef {p : Arguments} {env : PySem.Env} (h : noDefB p = true) : defaultsOf p env = ([], []) := by
  unfold noDefB at h
  split at h
  · rfl
  · cases h
theorem noW {X : Cx} : L2N.Takes X (fun _ _ _ _ => False) := fun _ _ x => by
  obtain ⟨_, _, _, _, _, _, _, _, _, _, _, _, _, _, _, _, z⟩ := x
  exact z.elim
/-- x(lambda: ..) -/
theorem s_errl (k : Cok G C n X N sc W) {x : Str} {told : Bool} {q : Nat} {cap : List Nat} {LD : LamD} {dm : Str} {p lp pos : Pos} (hx : G.ename told = some x) (hg : glB sc x = true) (hq : G.lam q = some LD) (hmk : (N, LD.qual) ∈ G.mkq) (hN : LD.N = N ++ [dm]) (hc : capB sc LD.scope = true) (hd : noDefB LD.params = true) :
    PE X (.Call (.Name x p) [.Lambda LD.params LD.body LD.scope lp] [] pos) (tE G W fun r S => (match C.err told q (keepV r cap) S with
      | .ok v S => .ok v S
      | _ => .stuck)) := by
  obtain ⟨a, fd, a0, g1, g2, g3, F⟩ := k.gok.errs told x hx
  obtain ⟨hqual, c, P, m1, m2, m3, m4⟩ := k.mkl _ hmk
  refine ⟨fun pins s σ H Q I h => ?_⟩
  obtain ⟨r, S, B, re, rs, an⟩ := h
  refine wpAny_Call_Name_kw (ld_glob I (k.gl hg) (by rw [k.hm]; exact g1) ?_ (glB_ok hg).2)
  refine PySem.W.callWith_K (h₀ := X.base) I.ok.mod.kin (by rw [k.hK]; exact g2) ?_ (by rfl) (by rfl)
  show wpAny _ _ (spliced ((false, eval (.Lambda LD.params LD.body LD.scope lp) X.env) :: backTo pos (starEach [] X.env))) _ _ s
  refine Calls.spliced_cons (LamX.lam_make2 I m2 m1 (by rw [← hqual]; exact m3) (by rw [← hqual]; exact m4) rs.tabs (noDef hd) (fun y hy hf => I.ok.has y.1 (by have z := capB_ok hc hy hf; rw [← k.hS] at z; exact z)) fun f c' pm' ctv H1 s' I1 eN T1 hf hfn hfr hco => ?_)
  refine Calls.spliced_nil ⟨I1.kIn, ?_⟩
  have s1 : Stp B S H B S H1 := Stp.extN eN
  have rs1 := rs.extN eN T1
  rw [← hqual] at hf hco
  have e0 := I1.env0
  rw [k.hP, k.hw, k.hK, k.hm, k.hb] at e0
  have an1 : Ans G (fun _ _ _ _ => False) [] (C.err told q (keepV r cap) S) B S H1 fun v B' S' H' => ∀ u, RepV G B' S' H' v u → Q u H' := by
    cases e : C.err told q (keepV r cap) S with
    | ok v S2 =>
      simp only [e] at an
      exact fun B' H' t1 t2 => an B' H' (s1.trans t1) t2
    | exc c S2 => simp only [e] at an; exact an.elim
    | stuck => simp only [e] at an; exact an.elim
  have R := F LD X.A X.stack s' H1 f c' _ pm' ctv (σ ++ [none]) q (keepV r cap) S B Q ⟨[.ref f], []⟩ hq k.room e0 hf hfn hfr hco (cloAt_of I1 k.hN k.hS hN hc) rs1 ((re.stp s1 rs).keep cap)
    (g3 s' [.ref f] (by have z := I1.kIn; rw [k.hK] at z; exact z) rfl) an1
  rw [← k.hP, ← k.hw] at R
  refine wpAny_call (codeAny_mono R fun r2 s2 hq2 => ?_)
  cases r2 with
  | error e => exact L2N.passAt (W := fun _ _ _ _ => False) noW σ pins H1 s' e s2 I1 hq2
  | ok fl =>
    cases fl with
    | ret u => exact I1.after hq2
    | next => exact False.elim hq2
    | brk => exact False.elim hq2
    | cont => exact False.elim hq2
end
end Ev

set_option Elab.async false
set_option linter.all false
set_option autoImplicit false
set_option maxRecDepth 100000
set_option maxHeartbeats 4000000
/-! A lambda is made, kept and handed to a def with more arguments. Own work. -/
namespace Ev
open PySem PySem.Spec PyProof.Rows L2
section
variable {X : Cx} {pins : List (Addr × Obj)} {σ : L2.St} {H : Hp} {s : Shared}
/-- a lambda's function object is new -/
theorem lam_new {T : List (Addr × Str)} {c P : Addr} {params : Arguments} {body : Expr} {scope : Scope} {pos : Pos} {E : Value → Shared → Prop} {Q : Value → Shared → Prop} (I : Inv X pins σ H s) (TB : LamX.TabB X.base X.mg c P) (hcode : X.env.code = .ref c)
    (hm : (P, X.env.qual ++ "<lambda>") ∈ T) (hu : ∀ p ∈ T, p.1 = P → p.2 = X.env.qual ++ "<lambda>") (hT : LamX.Tabs T H) (hdef : defaultsOf params X.env = ([], [])) (hfree : ∀ y ∈ scope.names, y.2 = .free → ∃ c, X.env.cells.lookup y.1 = some c)
    (h : ∀ (f c' : Addr) (pm ctv : Value) (H1 : Hp) (s' : Shared), Inv X pins σ H1 s' → LamX.ExtN H H1 → LamX.Tabs T H1 →
      s'.heap.get? f = some (PySem.W.kla_obj "<lambda>" (X.env.qual ++ "<lambda>") params body scope (cloFrom X.env.cells scope.names []) pm c' ctv) → s.heap.objs.size ≤ f → H1 f = none → H1 c' = some (LamX.CodeO c' (X.env.qual ++ "<lambda>")) → Q (.ref f) s') :
    wpAny (model X.prog X.w) X.A (eval (.Lambda params body scope pos) X.env) Q E s := by
  have tab := hT _ hm
  obtain ⟨ps, hP, ht, ha⟩ := tab
  have gP : s.heap.get? P = some { cls := .none, data := .fields ps } := I.hok P _ hP
  have cl := closure_ok hfree
  have bP : s.heap.BuiltinsAt X.mg P := TB.bm.keeps I.bk
  refine PySem.W.kla_eval hdef ?_
  rcases hc : codeAmong pos ps.toList with _ | cv
  · refine PySem.W.kla_makeFunction (mg := X.mg) (c := c) (P := P) (ps := ps) cl I.ok.glob (I.mod.glob.keeps I.bk) hcode (TB.code.keeps I.bk) gP ht hc TB.gP bP fun c' ctv h' tk hx hge hlt hrec htb => ?_
    obtain ⟨c2, oc, vs, t, e2, hoc, hd, hv⟩ := hrec
    obtain rfl : c' = c2 := by cases e2; rfl
    have nC : H c' = none := I.hok.fresh hge
    have sz : s.heap.objs.size ≤ h'.objs.size := by omega
    have J := LamX.inv_table (t' := tk) (more := #[rawInt pos.line, rawInt pos.col, .ref c']) (h' := h'.push (PySem.W.kla_obj "<lambda>" (X.env.qual ++ "<lambda>") params body scope (cloFrom X.env.cells scope.names []) ((X.mg "__name__").getD .none) c' ctv)) I hP
      (fun b o hb e => Heap.get?_push_of_some _ (hx b o hb e)) (Heap.get?_push_of_some _ htb) hge ⟨oc, vs, t, Heap.get?_push_of_some _ hoc, hd, hv⟩
    generalize hH : upd (upd H P (.tbl (ps ++ #[rawInt pos.line, rawInt pos.col, .ref c']))) c' (LamX.CodeO c' (X.env.qual ++ "<lambda>")) = H1 at J
    have atC : H1 c' = some (LamX.CodeO c' (X.env.qual ++ "<lambda>")) := by rw [← hH]; exact upd_same
    have atP : H1 P = some (.tbl (ps ++ #[rawInt pos.line, rawInt pos.col, .ref c'])) := by rw [← hH, upd_ne (ne_of_none hP nC)]; exact upd_same
    have oth : ∀ b, b ≠ P → b ≠ c' → H1 b = H b := fun b h1 h2 => by rw [← hH, upd_ne h2, upd_ne h1]
    have ext : LamX.ExtN H H1 := fun b o e n => by
      rw [oth b (fun z => ?_) (ne_of_none e nC)]
      · exact e
      · rw [z, hP] at e; exact n ps (Option.some.inj e).symm
    refine h h'.objs.size c' _ ctv H1 _ J ext (fun p hp => ?_) (Heap.get?_push_size _ rfl) sz ?_ atC
    · by_cases hb : p.1 = P
      · refine ⟨_, by rw [hb]; exact atP, by rw [Array.toList_append]; exact PySem.TriplesOk_snoc _ _ _ _ ht, fun p' cv hcv => ?_⟩
        rw [hu p hp hb]
        rw [Array.toList_append] at hcv
        rcases LamX.among_app _ ht hcv with z | z
        · obtain ⟨c0, e1, e2⟩ := ha p' cv z
          exact ⟨c0, e1, ext _ _ e2 LamX.codeO_ne⟩
        · exact ⟨c', z, atC⟩
      · obtain ⟨qs, a1, a2, a3⟩ := hT p hp
        refine ⟨qs, by rw [oth _ hb (ne_of_none a1 nC)]; exact a1, a2, fun p' cv hcv => ?_⟩
        obtain ⟨c0, e1, e2⟩ := a3 p' cv hcv
        exact ⟨c0, e1, ext _ _ e2 LamX.codeO_ne⟩
    · rw [oth _ (fun z => ?_) (Nat.ne_of_gt hlt)]
      · exact I.hok.fresh sz
      · have q := Heap.lt_size gP; rw [← z] at q; exact absurd q (Nat.not_lt.mpr sz)
  · obtain ⟨c', rfl, hco⟩ := ha pos cv hc
    refine PySem.W.kla_makeFunctionHit (mg := X.mg) (c := c) (P := P) (ps := ps) cl I.ok.glob (I.mod.glob.keeps I.bk) hcode (TB.code.keeps I.bk) gP ht hc bP fun ctv h' tk hx hsz => ?_
    exact h h'.objs.size c' _ ctv H _ (I.kept (t' := tk) fun b o e => Heap.get?_push_of_some _ (hx b o e)) (LamX.ExtN.refl H) hT (Heap.get?_push_size _ rfl) hsz (I.hok.fresh hsz) hco
end
/-- these objects tracked as they stand -/
def track (H : Hp) (h : Heap) (cs : List Addr) : Hp := fun a => if a ∈ cs then (h.get? a).map (ObjO a) else H a
section
variable {H : Hp} {h : Heap} {cs : List Addr}
theorem track_in {a : Addr} {o : Obj} (k : a ∈ cs) (e : h.get? a = some o) : track H h cs a = some (ObjO a o) := by unfold track; rw [if_pos k, e]; rfl
theorem track_out {a : Addr} (k : a ∉ cs) : track H h cs a = H a := by unfold track; rw [if_neg k]
end
section
variable {P : Program} {w : World} {H : Hp} {cs : List Addr} {outer : List PySem.Env} {s s' : Shared} {Q : VK}
/-- what is tracked for a call only -/
structure Held (H : Hp) (h : Heap) (cs : List Addr) : Prop where
  un : ∀ c ∈ cs, H c = none
  at_ : ∀ c ∈ cs, ∃ o, h.get? c = some o ∧ ∀ ws, o.data ≠ .fields ws
theorem Held.grow (k : Held H s.heap cs) : ∀ b o, H b = some o → track H s.heap cs b = some o := fun b o e => by
  rw [track_out (fun z => by rw [k.un b z] at e; cases e)]
  exact e
theorem Held.hok (k : Held H s.heap cs) (x : HOk P w H s.heap) : HOk P w (track H s.heap cs) s.heap := fun a o e => by
  by_cases ha : a ∈ cs
  · obtain ⟨ob, e1, _⟩ := k.at_ a ha
    rw [track_in ha e1] at e
    cases e
    exact ⟨e1, ⟨ob, e1⟩, fun h1 h2 e st => st _ e⟩
  · rw [track_out ha] at e
    exact (x a o e).stay (fun b u _ q => q) (fun b q => k.grow b _ q) (fun b xs q => k.grow b _ q)
/-- a call's end, the objects no longer tracked -/
theorem Held.ce {u : Value} (k : Held H s.heap cs) (nf : ∀ c ∈ cs, c ∉ frs outer) (h : CE outer P w (track H s.heap cs) s (fun u H' => (∀ c ∈ cs, H' c = track H s.heap cs c) ∧ Q u (minus H' cs)) u s') : CE outer P w H s Q u s' := by
  obtain ⟨v, H', os, bare, un, hok, rv, hc, q⟩ := h
  have kx : Exts H' cs := fun c m => by
    obtain ⟨o, e1, _⟩ := k.at_ c m
    exact ⟨_, (hc c m).trans (track_in m e1)⟩
  have there : ∀ c ∈ cs, ∀ o, s.heap.get? c = some o → s'.heap.get? c = some o := fun c m o e => by
    have e2 := (hc c m).trans (track_in m e)
    exact (hok c _ e2).1
  refine ⟨v, minus H' cs, os, bare, ⟨fun b o q n hb hx => ?_, fun b o q n hb hx => ?_, fun b o q n hx => ?_, un.there, fun b xs q => ?_, fun b o u q => ?_, fun b ps q => ?_⟩, hok_minus kx hok, rv, q⟩
  · by_cases m : b ∈ cs
    · exact there b m o q
    · exact un.keep b o q (by rw [track_out m]; exact n) hb hx
  · have m : b ∉ cs := fun z => nf b z hb
    exact un.slot b o q (by rw [track_out m]; exact n) hb hx
  · by_cases m : b ∈ cs
    · exact minus_in m
    · rw [minus_out m]; exact un.free b o q (by rw [track_out m]; exact n) hx
  · have e := un.tups b xs (k.grow b _ q)
    exact minus_of (kx.not e notTup) e
  · have e := un.frzs b o u (k.grow b _ q)
    exact minus_of (kx.not e notFrz) e
  · obtain ⟨more, e⟩ := un.tbls b ps (k.grow b _ q)
    exact ⟨more, minus_of (kx.not e notTblE) e⟩
theorem Held.noCode (k : Held H s.heap cs) {H' : Hp} (hc : ∀ c ∈ cs, H' c = track H s.heap cs c) : NoCode H' cs := fun c m q e => by
  obtain ⟨o, e1, e2⟩ := k.at_ c m
  rw [hc c m, track_in m e1] at e
  unfold ObjO LamX.CodeO at e
  have := congrFun (HO.ext.inj (Option.some.inj e)) s.heap
  obtain ⟨oc, vs, t, g1, g2, _⟩ := this ▸ e1
  rw [e1] at g1
  cases g1
  exact e2 _ g2
end
section
variable {G : Dom} {C : Calls} {n : Nat} {X : Cx} {N : List Str} {sc : Scope} {W : WX} {mv : Env → Sto → R (List Val)}
theorem Ans.pre {α : Type} {σ : L2.St} {x : R α} {B B' : List Addr} {S S' : Sto} {H H' : Hp} {P : α → List Addr → Sto → Hp → Prop} (an : Ans G W σ x B S H P) (s : Stp B S H B' S' H') : Ans G W σ x B' S' H' P := by
  cases x with
  | ok a S2 => exact fun B2 H2 t1 t2 => an B2 H2 (s.trans t1) t2
  | exc c S2 => exact fun B2 H2 t1 t2 => an B2 H2 (s.trans t1) t2
  | stuck => exact an
/-- x(lambda: .., ..) -/
theorem s_calll (k : Cok G C n X N sc W) {f q : Nat} {x : Str} {cap : List Nat} {LD : LamD} {dm : Str} {as : List Expr} {p lp pos : Pos} (hx : G.fname f = some x) (hg : glB sc x = true) (hq : G.lam q = some LD) (hmk : (N, LD.qual) ∈ G.mkq) (hN : LD.N = N ++ [dm]) (hc : capB sc LD.scope = true) (hd : noDefB LD.params = true)
    (h0 : sc.names.lookup (".0" : Str) = none) (hlk : LD.scope.names.all (fun y => decide (LD.scope.names.lookup y.1 = some y.2)) = true) (hss : as.all nStar = true) (ha : PA X as (tA G W mv)) :
    PE X (.Call (.Name x p) (.Lambda LD.params LD.body LD.scope lp :: as) [] pos) (tE G W fun r S => (mv r S).bind fun vs S => (match C.fn f (.clo q (keepV r cap) :: vs) S with
      | .ok v S => if slotV v then .ok v S else .stuck
      | _ => .stuck)) := by
  obtain ⟨a, fd, ps, hm, hk, hb, hF, hlen⟩ := k.gok.fns f x hx
  obtain ⟨hqual, c, P, m1, m2, m3, m4⟩ := k.mkl _ hmk
  have hfn := k.cab _ hmk h0
  refine ⟨fun pins s σ H Q I h => ?_⟩
  obtain ⟨r, S, B, re, rs, an⟩ := h
  refine wpAny_Call_Name_kw (ld_glob I (k.gl hg) (by rw [k.hm]; exact hm) ?_ (glB_ok hg).2)
  refine PySem.W.callWith_K (h₀ := X.base) I.ok.mod.kin (by rw [k.hK]; exact hk) ?_ (by rfl) (star_any hss)
  show wpAny _ _ (spliced ((false, eval (.Lambda LD.params LD.body LD.scope lp) X.env) :: backTo pos (starEach as X.env))) _ _ s
  refine Calls.spliced_cons (lam_new I m2 m1 (by rw [← hqual]; exact m3) (by rw [← hqual]; exact m4) rs.tabs (noDef hd) (fun y hy hf => I.ok.has y.1 (by have z := capB_ok hc hy hf; rw [← k.hS] at z; exact z)) fun g c' pm' ctv H1 s' I1 eN T1 hf hge hgn hco => ?_)
  have s1 : Stp B S H B S H1 := Stp.extN eN
  have rs1 := rs.extN eN T1
  rw [← hqual] at hf hco
  -- the new object is pinned
  have gl : g ≠ X.env.locals := fun z => absurd (Nat.lt_of_lt_of_le I.lt hge) (by rw [z]; exact Nat.lt_irrefl _)
  have gfs : g ∉ X.fs := I.nofs hge
  have I1p : Inv X ((g, PySem.W.kla_obj "<lambda>" LD.qual LD.params LD.body LD.scope (cloFrom X.env.cells LD.scope.names []) pm' c' ctv) :: pins) σ H1 s' := I1.pins_of fun p hp => by
    rcases List.mem_cons.mp hp with z | z
    · subst z
      exact ⟨hf, hgn, gl, gfs, fun v z => by cases z⟩
    · exact I1.pin p (List.mem_append_right _ z)
  refine thn (ha.run pos _ s' σ H1 (fun us H2 => ∃ vs S2 B2, Stp B S H1 B2 S2 H2 ∧ RepS G B2 S2 H2 ∧ RepVs G B2 S2 H2 vs us ∧ Ans G W σ (match C.fn f (.clo q (keepV r cap) :: vs) S2 with
      | .ok v S => if slotV v then .ok v S else .stuck
      | _ => .stuck) B2 S2 H2 fun v B' S' H' => ∀ u, RepV G B' S' H' v u → Q u H') I1p
    ⟨r, S, B, re.stp s1 rs, rs1, ?_⟩) fun us s2 ⟨vs', H2, I2, rr, q2⟩ => ⟨I2.kIn, ?_⟩
  · have an1 : Ans G W σ ((mv r S).bind fun vs S => (match C.fn f (.clo q (keepV r cap) :: vs) S with
      | .ok v S => if slotV v then .ok v S else .stuck
      | _ => .stuck)) B S H1 fun v B' S' H' => ∀ u, RepV G B' S' H' v u → Q u H' := by
      exact an.pre s1
    exact an1.bind.mono fun vs B2 S2 H2 st r2 an2 us rus => ⟨vs, S2, B2, st, r2, rus, an2⟩
  · obtain ⟨vs, S2, B2, st, rs2, rvs, an2⟩ := q2
    have pg := I2.pin _ (List.mem_append_right _ (List.mem_cons_self ..))
    obtain ⟨hg2, hgn2, _, _, _⟩ := pg
    have hg2 : s2.heap.get? g = some (PySem.W.kla_obj "<lambda>" LD.qual LD.params LD.body LD.scope (cloFrom X.env.cells LD.scope.names []) pm' c' ctv) := hg2
    have hgn2 : H2 g = none := hgn2
    have I2' : Inv X pins σ H2 s2 := I2.pins_of fun p hp => I2.pin p (List.mem_append_right _ (List.mem_cons_of_mem _ hp))
    have hco2 : H2 c' = some (LamX.CodeO c' LD.qual) := st.ext.keep _ _ hco (liveOk_not rs1.liveOk hco) notTbl_ext
    have CA := cloAt_of I2' k.hN k.hS hN hc
    have RE := RepE.keep (re.stp (s1.trans st) rs) cap
    -- what is captured
    have cell : ∀ p ∈ cloFrom X.env.cells LD.scope.names [], X.env.cells.lookup p.1 = some p.2 := fun p hp => by
      rcases cloFrom_mem (show (p.1, p.2) ∈ _ from hp) with z | ⟨z1, z2⟩
      · cases z
      · obtain ⟨c0, e0⟩ := I2'.ok.has p.1 (by have w := capB_ok hc z1 rfl; rw [← k.hS] at w; exact w)
        rw [e0] at z2
        rw [z2]
        exact e0
    generalize hclo : cloFrom X.env.cells LD.scope.names [] = clo at *
    have cmem : ∀ c ∈ clo.map (·.2), ∃ y, X.env.cells.lookup y = some c := fun c hc => by
      obtain ⟨p, hp, rfl⟩ := List.mem_map.mp hc
      exact ⟨p.1, cell p hp⟩
    have cge : ∀ c ∈ clo.map (·.2), X.s_0.heap.objs.size ≤ c := fun c hc => by
      obtain ⟨y, e⟩ := cmem c hc
      exact I2'.ok.cab y c (hfn y) e
    have HD : Held H2 s2.heap (g :: clo.map (·.2)) := by
      refine ⟨fun c hc => ?_, fun c hc => ?_⟩
      · rcases List.mem_cons.mp hc with z | z
        · rw [z]; exact hgn2
        · obtain ⟨y, e⟩ := cmem c z; exact I2'.freeC y c e
      · rcases List.mem_cons.mp hc with z | z
        · exact ⟨_, by rw [z]; exact hg2, fun ws z => by cases z⟩
        · obtain ⟨y, e⟩ := cmem c z
          obtain ⟨v, o, ho, hd⟩ := I2'.cell y c e
          exact ⟨o, ho, fun ws z => by rw [hd] at z; cases z⟩
    have nfs : ∀ c ∈ g :: clo.map (·.2), c ∉ frs X.stack := fun c hc hb => by
      have hb := I2'.stkSub c hb
      rcases List.mem_cons.mp hc with z | z
      · subst z
        rcases List.mem_cons.mp hb with e | e
        · exact gl e
        · exact gfs e
      · rcases List.mem_cons.mp hb with e | e
        · obtain ⟨y, e2⟩ := cmem c z
          exact I2'.cne y c e2 e
        · obtain ⟨_, o, ho, _⟩ := I2'.ok.funs.mem e
          exact absurd (Heap.lt_size ho) (Nat.not_lt.mpr (cge c z))
    have nbase : ∀ c ∈ g :: clo.map (·.2), X.base.get? c = none := fun c hc => by
      cases e : X.base.get? c with
      | none => rfl
      | some o =>
        exfalso
        have hl := Heap.lt_size e
        rcases List.mem_cons.mp hc with z | z
        · subst z
          exact absurd hl (Nat.not_lt.mpr (Nat.le_trans (Nat.le_trans I.ok.bsz I.sz) hge))
        · exact absurd hl (Nat.not_lt.mpr (Nat.le_trans I.ok.bsz (cge c z)))
    have nc' : c' ∉ g :: clo.map (·.2) := fun z => by rw [HD.un c' z] at hco2; cases hco2
    have e0 := I2'.env0
    have e3 : Env0 X.prog X.w X.K X.mg X.base X.A X.stack s2 (track H2 s2.heap (g :: clo.map (·.2))) :=
      ⟨e0.frames, e0.mod, fun b o e => ⟨(e0.bs b o e).1, by rw [track_out (fun z => by rw [nbase b z] at e; cases e)]; exact (e0.bs b o e).2⟩, e0.bsz, e0.funs,
        fun b hb => by rw [track_out (fun z => nfs b z hb)]; exact e0.frf b hb, HD.hok e0.hok, e0.bare⟩
    have grow : Stp B2 S2 H2 B2 S2 (track H2 s2.heap (g :: clo.map (·.2))) := Stp.grow HD.grow
    have rs3 := rs2.grow HD.grow
    have rclo : RepV G B2 S2 (track H2 s2.heap (g :: clo.map (·.2))) (.clo q (keepV r cap)) (.ref g) := by
      unfold RepV
      refine ⟨g, c', clo, LD, pm', ctv, σ ++ [none], rfl, hq, track_in (List.mem_cons_self ..) hg2, by rw [track_out nc']; exact hco2, CA.inj, fun p hp => ?_, CA.len, CA.has, ?_⟩
      · have hp2 : p.2 ∈ g :: clo.map (·.2) := List.mem_cons_of_mem _ (List.mem_map.mpr ⟨p, hp, rfl⟩)
        have lk : clo.lookup p.1 = some p.2 := by
          obtain ⟨d, hd⟩ := mem_lookup (show (p.1, p.2) ∈ clo from hp)
          have e1 := cell _ (PySem.mem_of_lookup hd)
          have e2 := cell p hp
          rw [e1] at e2
          rw [hd]
          exact e2
        obtain ⟨_, v, ⟨o, ho, hd⟩, hv⟩ := CA.cell p.1 p.2 lk
        refine ⟨o, v, track_in hp2 ho, hd, fun i u e1 e2 => hv i u e1 e2 ?_⟩
        rw [← hclo] at lk
        rcases cloFrom_mem (PySem.mem_of_lookup lk) with z | ⟨z1, z2⟩
        · cases z
        · have q := List.all_eq_true.mp hlk _ z1
          simpa using q
      · refine repE_repL (RE.stp (Stp.grow fun b o e => ?_) rs2)
        have nb : b ∉ g :: clo.map (·.2) := fun z => by rw [HD.un b z] at e; cases e
        rw [minus_out (fun z => nb (List.mem_cons_of_mem _ z)), track_out nb]
        exact e
    -- the call
    have an3 : Ans G (fun _ _ _ _ => False) [] (C.fn f (.clo q (keepV r cap) :: vs) S2) B2 S2 (track H2 s2.heap (g :: clo.map (·.2))) fun v B' S' H' => ∀ u, RepV G B' S' H' v u →
        (∀ c ∈ g :: clo.map (·.2), H' c = track H2 s2.heap (g :: clo.map (·.2)) c) ∧ Q u (minus H' (g :: clo.map (·.2))) := by
      cases e : C.fn f (.clo q (keepV r cap) :: vs) S2 with
      | stuck => rw [e] at an2; exact an2.elim
      | exc c S' => rw [e] at an2; exact an2.elim
      | ok v S' =>
        rw [e] at an2
        simp only at an2
        by_cases hv : slotV v = true
        · rw [if_pos hv] at an2
          intro B' H' t1 t2 u ru
          have same : ∀ c ∈ g :: clo.map (·.2), H' c = track H2 s2.heap (g :: clo.map (·.2)) c := fun c hc => by
            obtain ⟨o, e1, _⟩ := HD.at_ c hc
            have e4 := track_in (H := H2) hc e1
            rw [e4]
            exact t1.ext.keep _ _ e4 (liveOk_not rs3.liveOk e4) notTbl_ext
          have kx : Exts H' (g :: clo.map (·.2)) := fun c hc => by
            obtain ⟨o, e1, _⟩ := HD.at_ c hc
            exact ⟨_, (same c hc).trans (track_in hc e1)⟩
          have t3 : Stp B2 S2 H2 B' S' (minus H' (g :: clo.map (·.2))) := by
            refine ⟨⟨fun b o e n t => ?_, fun b l => ?_⟩, t1.pre⟩
            · have nb : b ∉ g :: clo.map (·.2) := fun z => by rw [HD.un b z] at e; cases e
              rw [minus_out nb]
              exact t1.ext.keep b o (HD.grow b o e) n t
            · rcases t1.ext.live b l with z | z
              · exact .inl z
              · exact .inr fun o e => z o (HD.grow b o e)
          have ru' : RepV G B' S' (minus H' (g :: clo.map (·.2))) v u := by
            cases v with
            | d x => exact RepD.minus kx x u ru
            | box j => exact ru
            | obj j => exact ru
            | clo q e => simp [slotV] at hv
          exact ⟨same, an2 B' _ t3 (t2.minus kx (HD.noCode same)) u ru'⟩
        · rw [if_neg hv] at an2; exact an2.elim
    have hne : C.fn f (.clo q (keepV r cap) :: vs) S2 ≠ .stuck := fun z => by rw [z] at an3; exact an3.elim
    have hl := hlen _ _ hne
    have rr' : Vals (.ref g :: vs') (Value.ref g :: us) := .cons rfl rr
    have b := hb s2 (Value.ref g :: us) (by have z := I2'.kIn; rw [k.hK] at z; exact z) (by rw [List.append_nil, ← rr'.length, ← hl]; simp [rvs.len])
    rw [List.append_nil] at b
    rw [k.hP, k.hw, k.hK, k.hm, k.hb] at e3
    have R := hF.run X.A X.stack s2 (track H2 s2.heap (g :: clo.map (·.2))) ⟨Value.ref g :: us, []⟩ (Value.ref g :: us) (.ref g :: vs') _ (fun _ _ _ => False) k.room e3 b rr'
      ⟨by rw [← hl]; simp [rvs.len], S2, B2, .clo q (keepV r cap) :: vs, rs3, ⟨.ref g, vs', rfl, rclo, rvs.stp grow rs2⟩, an3⟩
    rw [← k.hP, ← k.hw] at R
    refine wpAny_call (codeAny_mono R fun r2 s3 hq2 => ?_)
    cases r2 with
    | error e =>
      obtain ⟨_, _, _, _, _, _, _, _, _, _, _, _, z⟩ := (show L2N.CX X.prog X.w X.stack _ s2 _ e s3 from hq2)
      exact z.elim
    | ok fl =>
      cases fl with
      | ret u => exact I2'.after (HD.ce nfs hq2)
      | next => exact False.elim hq2
      | brk => exact False.elim hq2
      | cont => exact False.elim hq2
end
end Ev

set_option Elab.async false
set_option linter.all false
set_option autoImplicit false
set_option maxRecDepth 100000
set_option maxHeartbeats 4000000
/-! Two expressions are one: the forms that the text's lambdas have. Own work. -/
namespace Ev
open PySem PySem.Spec PyProof.Rows
mutual
def eqE : Expr → Expr → Bool
  | .Name x p, b => (match b with | .Name x2 p2 => decide (x = x2) && decide (p = p2) | _ => false)
  | .Constant c k p, b => (match b with | .Constant c2 k2 p2 => decide (c = c2) && decide (k = k2) && decide (p = p2) | _ => false)
  | .Attribute e x p, b => (match b with | .Attribute e2 x2 p2 => eqE e e2 && decide (x = x2) && decide (p = p2) | _ => false)
  | .BinOp e o f p, b => (match b with | .BinOp e2 o2 f2 p2 => eqE e e2 && decide (o = o2) && eqE f f2 && decide (p = p2) | _ => false)
  | .UnaryOp o e p, b => (match b with | .UnaryOp o2 e2 p2 => decide (o = o2) && eqE e e2 && decide (p = p2) | _ => false)
  | .IfExp e f g p, b => (match b with | .IfExp e2 f2 g2 p2 => eqE e e2 && eqE f f2 && eqE g g2 && decide (p = p2) | _ => false)
  | .Compare e o l p, b => (match b with | .Compare e2 o2 l2 p2 => eqE e e2 && decide (o = o2) && eqL l l2 && decide (p = p2) | _ => false)
  | .BoolOp o l p, b => (match b with | .BoolOp o2 l2 p2 => decide (o = o2) && eqL l l2 && decide (p = p2) | _ => false)
  | .Tuple l k p, b => (match b with | .Tuple l2 k2 p2 => eqL l l2 && decide (k = k2) && decide (p = p2) | _ => false)
  | .List l p, b => (match b with | .List l2 p2 => eqL l l2 && decide (p = p2) | _ => false)
  | .Subscript e f p, b => (match b with | .Subscript e2 f2 p2 => eqE e e2 && eqE f f2 && decide (p = p2) | _ => false)
  | .Call e l [] p, b => (match b with | .Call e2 l2 [] p2 => eqE e e2 && eqL l l2 && decide (p = p2) | _ => false)
  | _, _ => false
termination_by structural a => a
def eqL : List Expr → List Expr → Bool
  | [], b => b.isEmpty
  | e :: l, b => (match b with | f :: r => eqE e f && eqL l r | [] => false)
termination_by structural a => a
end
mutual
theorem eqE_ok : ∀ (a b : Expr), eqE a b = true → a = b
  | .Name x p, b, h => by
    unfold eqE at h
    split at h
    · simp only [Bool.and_eq_true, decide_eq_true_eq] at h
      obtain ⟨h0, h1⟩ := h
      rw [h0, h1]
    · cases h
  | .Constant c k p, b, h => by
    unfold eqE at h
    split at h
    · simp only [Bool.and_eq_true, decide_eq_true_eq] at h
      obtain ⟨⟨h0, h1⟩, h2⟩ := h
      rw [h0, h1, h2]
    · cases h
  | .Attribute e x p, b, h => by
    unfold eqE at h
    split at h
    · simp only [Bool.and_eq_true, decide_eq_true_eq] at h
      obtain ⟨⟨h0, h1⟩, h2⟩ := h
      rw [eqE_ok _ _ h0, h1, h2]
    · cases h
  | .BinOp e o f p, b, h => by
    unfold eqE at h
    split at h
    · simp only [Bool.and_eq_true, decide_eq_true_eq] at h
      obtain ⟨⟨⟨h0, h1⟩, h2⟩, h3⟩ := h
      rw [eqE_ok _ _ h0, h1, eqE_ok _ _ h2, h3]
    · cases h
  | .UnaryOp o e p, b, h => by
    unfold eqE at h
    split at h
    · simp only [Bool.and_eq_true, decide_eq_true_eq] at h
      obtain ⟨⟨h0, h1⟩, h2⟩ := h
      rw [h0, eqE_ok _ _ h1, h2]
    · cases h
  | .IfExp e f g p, b, h => by
    unfold eqE at h
    split at h
    · simp only [Bool.and_eq_true, decide_eq_true_eq] at h
      obtain ⟨⟨⟨h0, h1⟩, h2⟩, h3⟩ := h
      rw [eqE_ok _ _ h0, eqE_ok _ _ h1, eqE_ok _ _ h2, h3]
    · cases h
  | .Compare e o l p, b, h => by
    unfold eqE at h
    split at h
    · simp only [Bool.and_eq_true, decide_eq_true_eq] at h
      obtain ⟨⟨⟨h0, h1⟩, h2⟩, h3⟩ := h
      rw [eqE_ok _ _ h0, h1, eqL_ok _ _ h2, h3]
    · cases h
  | .BoolOp o l p, b, h => by
    unfold eqE at h
    split at h
    · simp only [Bool.and_eq_true, decide_eq_true_eq] at h
      obtain ⟨⟨h0, h1⟩, h2⟩ := h
      rw [h0, eqL_ok _ _ h1, h2]
    · cases h
  | .Tuple l k p, b, h => by
    unfold eqE at h
    split at h
    · simp only [Bool.and_eq_true, decide_eq_true_eq] at h
      obtain ⟨⟨h0, h1⟩, h2⟩ := h
      rw [eqL_ok _ _ h0, h1, h2]
    · cases h
  | .List l p, b, h => by
    unfold eqE at h
    split at h
    · simp only [Bool.and_eq_true, decide_eq_true_eq] at h
      obtain ⟨h0, h1⟩ := h
      rw [eqL_ok _ _ h0, h1]
    · cases h
  | .Subscript e f p, b, h => by
    unfold eqE at h
    split at h
    · simp only [Bool.and_eq_true, decide_eq_true_eq] at h
      obtain ⟨⟨h0, h1⟩, h2⟩ := h
      rw [eqE_ok _ _ h0, eqE_ok _ _ h1, h2]
    · cases h
  | .Call e l [] p, b, h => by
    unfold eqE at h
    split at h
    · simp only [Bool.and_eq_true, decide_eq_true_eq] at h
      obtain ⟨⟨h0, h1⟩, h2⟩ := h
      rw [eqE_ok _ _ h0, eqL_ok _ _ h1, h2]
    · cases h
  | .NamedExpr _ _ _, b, h => by unfold eqE at h; cases h
  | .Lambda _ _ _ _, b, h => by unfold eqE at h; cases h
  | .Dict _ _ _, b, h => by unfold eqE at h; cases h
  | .Set _ _ _, b, h => by unfold eqE at h; cases h
  | .ListComp _ _ _ _, b, h => by unfold eqE at h; cases h
  | .SetComp _ _ _ _, b, h => by unfold eqE at h; cases h
  | .DictComp _ _ _ _ _, b, h => by unfold eqE at h; cases h
  | .GeneratorExp _ _ _ _, b, h => by unfold eqE at h; cases h
  | .Await _ _, b, h => by unfold eqE at h; cases h
  | .Yield _ _, b, h => by unfold eqE at h; cases h
  | .YieldFrom _ _, b, h => by unfold eqE at h; cases h
  | .FormattedValue _ _ _ _, b, h => by unfold eqE at h; cases h
  | .JoinedStr _ _, b, h => by unfold eqE at h; cases h
  | .Starred _ _, b, h => by unfold eqE at h; cases h
  | .Slice _ _ _ _, b, h => by unfold eqE at h; cases h
  | .Call _ _ (_ :: _) _, b, h => by unfold eqE at h; cases h
theorem eqL_ok : ∀ (a b : List Expr), eqL a b = true → a = b
  | [], b, h => by
    unfold eqL at h
    cases b with
    | nil => rfl
    | cons e l => cases h
  | e :: l, b, h => by
    unfold eqL at h
    cases b with
    | nil => cases h
    | cons f r =>
      simp only [Bool.and_eq_true] at h
      rw [eqE_ok _ _ h.1, eqL_ok _ _ h.2]
end
def eqAr : List Arg → List Arg → Bool
  | [], b => b.isEmpty
  | ⟨x, n, p⟩ :: l, b => (match n, b with | none, ⟨y, none, q⟩ :: r => decide (x = y) && decide (p = q) && eqAr l r | _, _ => false)
theorem eqAr_ok : ∀ (a b : List Arg), eqAr a b = true → a = b
  | [], b, h => by
    unfold eqAr at h
    cases b with
    | nil => rfl
    | cons e l => cases h
  | ⟨x, n, p⟩ :: l, b, h => by
    unfold eqAr at h
    split at h
    · simp only [Bool.and_eq_true, decide_eq_true_eq] at h
      obtain ⟨⟨h1, h2⟩, h3⟩ := h
      rw [h1, h2, eqAr_ok _ _ h3]
    · cases h
/-- plain parameters alone -/
def eqP (a b : Arguments) : Bool := match a, b with
  | ⟨[], l, none, [], [], none, []⟩, ⟨[], r, none, [], [], none, []⟩ => eqAr l r
  | _, _ => false
theorem eqP_ok {a b : Arguments} (h : eqP a b = true) : a = b := by
  unfold eqP at h
  split at h
  · rw [eqAr_ok _ _ h]
  · cases h
end Ev

set_option Elab.async false
set_option linter.all false
set_option autoImplicit false
set_option maxRecDepth 100000
/-! The look at a text against its core code. Own work. -/
namespace Ev
open PySem PySem.Spec PyProof.Rows L2
def opB (op : BOp) (o : Operator) : Bool := match op, o with
  | .add, .Add => true | .sub, .Sub => true | .mul, .Mult => true | .fdiv, .FloorDiv => true | .mod, .Mod => true | .pow, .Pow => true
  | _, _ => false
def opC (op : COp) (o : CmpOp) : Bool := match op, o with
  | .eq, .Eq => true | .ne, .NotEq => true | .lt, .Lt => true | .le, .LtE => true | .gt, .Gt => true | .ge, .GtE => true
  | .isin, .In => true | .notin, .NotIn => true | .is, .Is => true | .isnot, .IsNot => true
  | _, _ => false
def boolB (isAnd : Bool) (o : PySem.BoolOp) : Bool := match isAnd, o with
  | true, .And => true | false, .Or => true | _, _ => false
def biN : Bi → Str
  | .len => "len" | .abs => "abs" | .sum => "sum" | .max => "max" | .min => "min" | .sorted => "sorted" | .tuple => "tuple" | .list => "list" | .int => "int" | .str => "str" | .all => "all" | .any => "any" | .bool => "bool"
def clsN : Cls → Option Str
  | .int => some "int" | .bool => some "bool" | .str => some "str" | .tuple => some "tuple" | .list => some "list" | .own _ => none
def notSet (e : Expr) : Bool := match e with | .Set _ _ _ => false | _ => true
def isCmpE : Expr → Bool
  | .Compare _ _ _ _ => true | _ => false
/-- the names that a block's target may store to -/
def stoB (scope : Scope) (x : Str) : Bool := match scope.names.lookup x with | some .local => true | some .cell => true | _ => false
def ownL (N : List Str) (own : List Nat) : List (Str × Nat) := own.map fun i => ((N[i]?).getD Str.empty, i)
/-- a block's scope: the walked iterator has a name there -/
def dotB (sc : Scope) : Bool := match sc.names.lookup (".0" : Str) with | some _ => true | none => false
/-- the parts of what is walked -/
def iterA (sc : Scope) : IK → Expr → Expr → Option (List Expr)
  | .val, _, a => some [a]
  | .range1, _, a => (match a with | .Call (.Name x _) [b] [] _ => if x == "range" && glB sc "range" then some [b] else none | _ => none)
  | .range2, _, a => (match a with | .Call (.Name x _) [b, c] [] _ => if x == "range" && glB sc "range" then some [b, c] else none | _ => none)
  | .zip, tg, a => (match a with | .Call (.Name x _) [b, c] [] _ => if x == "zip" && glB sc "zip" && isTupE tg then some [b, c] else none | _ => none)
  | .enum, tg, a => (match a with | .Call (.Name x _) [b] [] _ => if x == "enumerate" && glB sc "enumerate" && isTupE tg then some [b] else none | _ => none)
section
variable (G : Names) (N : List Str)
mutual
def ckE (sc : Scope) : Ex → Expr → Bool
  | .var i, a => (match a with | .Name x _ => N[i]? == some x && visB sc x | _ => false)
  | .lit d, a => (match a with | .Constant c _ _ => litB d c | _ => false)
  | .fnr f, a => (match a with | .Name x _ => G.fname f == some x && glB sc x | _ => false)
  | .glob g, a => (match a with | .Name x _ => G.gname g == some x && glB sc x | _ => false)
  | .tup es, a => (match a with | .Tuple as _ _ => decide (es.length ≤ 1000) && ckDs sc es as | _ => false)
  | .lst es, a => (match a with | .List as _ => decide (es.length ≤ 1000) && ckDs sc es as | _ => false)
  | .box es, a => (match a with | .List as _ => decide (es.length ≤ 1000) && ckDs sc es as | _ => false)
  | .boxof e, a => (match a with | .Call (.Name x _) [b] [] _ => x == "list" && glB sc "list" && nStar b && ckE sc e b | _ => false)
  | .neg e, a => (match a with | .UnaryOp .USub b _ => ckE sc e b | _ => false)
  | .not e, a => (match a with | .UnaryOp .Not b _ => ckE sc e b | _ => false)
  | .bin op x y, a => (match a with | .BinOp b o c _ => opB op o && ckE sc x b && ckE sc y c | _ => false)
  | .cmp op x y, a => (match a with | .Compare b [o] [c] _ => opC op o && !behindInMarks o c && ckE sc x b && ckE sc y c | _ => false)
  | .chain o1 o2 x y z, a => (match a with | .Compare b [p1, p2] [c, d] _ => opC o1 p1 && opC o2 p2 && !lastMarks [p1, p2] [c, d] && ckE sc x b && ckE sc y c && ckE sc z d | _ => false)
  | .bool isAnd es, a => (match a with | .BoolOp o as _ => boolB isAnd o && ckBs sc es as | _ => false)
  | .ite c x y, a => (match a with | .IfExp c' b d _ => ckT sc c c' && ckE sc x b && ckE sc y d | _ => false)
  | .idx x y, a => (match a with | .Subscript b c _ => !isSlice c && ckE sc x b && ckE sc y c | _ => false)
  | .cut x lo hi, a => (match a with | .Subscript b (.Slice l h none _) _ => ckE sc x b && ckDs sc lo l.toList && ckDs sc hi h.toList | _ => false)
  | .rev x, a => (match a with | .Subscript b (.Slice none none (some (.UnaryOp .USub (.Constant (.int 1) _ _) _)) _) _ => ckE sc x b | _ => false)
  | .back h x, a => (match a with | .Subscript b (.Slice none (some (.Constant (.int i) _ _)) (some (.UnaryOp .USub (.Constant (.int 1) _ _) _)) _) _ => decide (i = (h : Int)) && ckE sc x b | _ => false)
  | .revt x, a => (match a with | .Subscript b (.Slice none none (some (.UnaryOp .USub (.Constant (.int 1) _ _) _)) _) _ => ckE sc x b | _ => false)
  | .call f es, a => (match a with | .Call (.Name x _) as [] _ => G.fname f == some x && glB sc x && !as.isEmpty && ckDs sc es as | _ => false)
  | .callv i es, a => (match a with | .Call (.Name x _) as [] _ => N[i]? == some x && visB sc x && ckDs sc es as | _ => false)
  | .calll f k cap es, a => (match a with
    | .Call (.Name x _) (.Lambda ps b s2 _ :: as) [] _ => G.fname f == some x && glB sc x && !dotB sc && ckDs sc es as && (match G.lam k with
      | some L => eqP L.params ps && eqE L.body b && decide (L.scope = s2) && decide (L.N = N ++ [(L.N.getLast?).getD Str.empty]) && capB sc L.scope && noDefB L.params && decide ((N, L.qual) ∈ G.mkq) && L.scope.names.all (fun y => decide (L.scope.names.lookup y.1 = some y.2))
      | none => false)
    | _ => false)
  | .errl k cap told, a => (match a with
    | .Call (.Name x _) [.Lambda ps b s2 _] [] _ => G.ename told == some x && glB sc x && (match G.lam k with
      | some L => eqP L.params ps && eqE L.body b && decide (L.scope = s2) && decide (L.N = N ++ [(L.N.getLast?).getD Str.empty]) && capB sc L.scope && noDefB L.params && decide ((N, L.qual) ∈ G.mkq)
      | none => false)
    | _ => false)
  | .compb k es tg ifs elt own, a => (match a with
    | .ListComp elt' [⟨tg', iter, ifs', 0⟩] scope _ => blkC N sc scope (ownL N own) && dotB (relS scope sc) && notSet iter && (match iterA sc k tg' iter with | some as => ckDs sc es as | none => false) && ckG N (stoB scope) tg tg' && tgIn own tg && decide (ifs.length ≤ 1) && ckTs (relS scope sc) ifs ifs' && ckE (relS scope sc) elt elt'
    | _ => false)
  | .bi b e, a => (match a with | .Call (.Name x _) [c] [] _ => x == biN b && glB sc x && nStar c && ckE sc e c | _ => false)
  | .len e, a => (match a with | .Call (.Name x _) [c] [] _ => x == "len" && glB sc "len" && nStar c && ckE sc e c | _ => false)
  | .isi e c, a => (match a with | .Call (.Name x _) [b, .Name y _] [] _ => x == "isinstance" && glB sc "isinstance" && some y == clsN c && glB sc y && nStar b && ckE sc e b | _ => false)
  | .comp k es tg ifs elt own, a => (match a with
    | .ListComp elt' [⟨tg', iter, ifs', 0⟩] scope _ => blkC N sc scope (ownL N own) && dotB (relS scope sc) && notSet iter && (match iterA sc k tg' iter with | some as => ckDs sc es as | none => false) && ckG N (stoB scope) tg tg' && tgIn own tg && decide (ifs.length ≤ 1) && ckTs (relS scope sc) ifs ifs' && ckE (relS scope sc) elt elt'
    | _ => false)
  | .fstr es, a => (match a with | .JoinedStr as _ => decide (2 ≤ es.length) && ckDs sc es as | _ => false)
  | .fmt e, a => (match a with | .FormattedValue b (-1) none _ => ckE sc e b | _ => false)
  | .count x y, a => false
  | .split x y, a => (match a with | .Call (.Attribute b m apos) [c] [] pos => m == "split" && nStar c && noSuper b && (apos.endLine == pos.line) && ckE sc x b && ckE sc y c | _ => false)
  | .join x y, a => (match a with | .Call (.Attribute b m apos) [c] [] pos => m == "join" && nStar c && noSuper b && (apos.endLine == pos.line) && ckE sc x b && ckE sc y c | _ => false)
  | .pop0 i, a => (match a with | .Call (.Attribute (.Name x _) m apos) [.Constant (.int 0) _ _] [] pos => m == "pop" && N[i]? == some x && visB sc x && (apos.endLine == pos.line) | _ => false)
  | .popl i, a => (match a with | .Call (.Attribute (.Name x _) m apos) [] [] pos => m == "pop" && N[i]? == some x && visB sc x && (apos.endLine == pos.line) | _ => false)
def ckT (sc : Scope) : Tx → Expr → Bool
  | .val e, a => (plainT a || isCmpE a) && ckE sc e a
  | .not t, a => (match a with | .UnaryOp .Not b _ => ckT sc t b | _ => false)
  | .bool isAnd ts, a => (match a with | .BoolOp o as _ => boolB isAnd o && !as.isEmpty && ckTs sc ts as | _ => false)
def ckTs (sc : Scope) : List Tx → List Expr → Bool
  | [], as => as.isEmpty
  | t :: ts, as => (match as with | a :: as => ckT sc t a && ckTs sc ts as | [] => false)
def ckDs (sc : Scope) : List Ex → List Expr → Bool
  | [], as => as.isEmpty
  | e :: es, as => (match as with | a :: as => nStar a && ckE sc e a && ckDs sc es as | [] => false)
/- and, or as values -/
def ckBs (sc : Scope) : List Ex → List Expr → Bool
  | [], _ => false
  | e :: es, as => (match as with | a :: as => ckE sc e a && (match es with | [] => as.isEmpty | _ :: _ => ckBs sc es as) | [] => false)
end
end
end Ev

set_option Elab.async false
set_option linter.all false
set_option autoImplicit false
set_option maxRecDepth 100000
set_option maxHeartbeats 8000000
/-! What is looked at, holds: expressions. Own work. -/
namespace Ev
open PySem PySem.Spec PyProof.Rows L2
section
variable {G : Dom} {C : Calls} {n : Nat} {N : List Str}
theorem opB_ok {op : BOp} {o : Operator} (h : opB op o = true) : o = pyB op := by
  cases op <;> cases o <;> simp [opB] at h <;> rfl
theorem opC_ok {op : COp} {o : CmpOp} (h : opC op o = true) : o = pyC op := by
  cases op <;> cases o <;> simp [opC] at h <;> rfl
theorem boolB_ok {i : Bool} {o : PySem.BoolOp} (h : boolB i o = true) : o = if i then .And else .Or := by
  cases i <;> cases o <;> simp [boolB] at h <;> rfl
theorem Cok.blk {X : Cx} {sc : Scope} {W : WX} (k : Cok G C n X N sc W) {scope : Scope} (hd : dotB (relS scope sc) = true) (s : Shared) (H : Hp) (scope' : Scope) (D : Addr) (cl : List (Str × Addr)) (fp : List Addr) (e : scope' = scope := by rfl) : Cok G C n (X.blk s H scope' (compEnvC scope' cl D X.env) fp) N (relS scope' sc) noX where
  gok := k.gok
  hP := k.hP
  hw := k.hw
  hK := k.hK
  hm := k.hm
  hb := k.hb
  hN := k.hN
  nd := k.nd
  hS := by rw [← k.hS]; rfl
  calm := k.calm
  room := k.room
  takes := fun u s' h => by
    obtain ⟨_, _, _, _, _, _, _, _, _, _, _, _, _, _, _, _, z⟩ := h
    exact z.elim
  mkl := k.mkl
  cab := fun q hq h => by
    subst e
    unfold dotB at hd
    rw [h] at hd
    cases hd
theorem evDs_len : ∀ (es : List Ex) (r : Env) (S : Sto) (xs : List D) (S' : Sto), evDs C es r S = .ok xs S' → xs.length = es.length
  | [], r, S, xs, S', h => by
    simp only [evDs] at h
    cases h; rfl
  | e :: es, r, S, xs, S', h => by
    simp only [evDs, Ev.bindP] at h
    cases h1 : evE C e r S with
    | exc c S1 => simp [h1, Ev.R.bind] at h
    | stuck => simp [h1, Ev.R.bind] at h
    | ok v S1 =>
      simp only [h1, Ev.R.bind] at h
      cases v <;> simp only at h <;> try (cases h; done)
      cases h2 : evDs C es r S1 with
      | exc c S2 => simp [h2] at h
      | stuck => simp [h2] at h
      | ok ys S2 =>
        simp only [h2] at h
        cases h
        simp [evDs_len es r S1 ys _ h2]
theorem ckDs_star {sc : Scope} : ∀ {es : List Ex} {as : List Expr}, ckDs G.toNames N sc es as = true → as.all nStar = true
  | [], as, h => by
    cases as with
    | nil => rfl
    | cons a as => simp [ckDs] at h
  | e :: es, as, h => by
    cases as with
    | nil => simp [ckDs] at h
    | cons a as =>
      have h' : (nStar a = true ∧ ckE G.toNames N sc e a = true) ∧ ckDs G.toNames N sc es as = true := by simpa [ckDs] using h
      simp [h'.1.1, ckDs_star h'.2]
theorem stoB_ok {X : Cx} {s : Shared} {H : Hp} {scope : Scope} {D : Addr} {cl : List (Str × Addr)} {fp : List Addr} {x : Str} (h : stoB scope x = true) : StoOk (X.blk s H scope (compEnvC scope cl D X.env) fp) x := by
  unfold stoB at h
  have hl : ∀ k, k ≠ NameKind.free → scope.names.lookup x = some k → (relabel scope X.env).names.lookup x = some k := fun k hk e => lookup_relS_keep hk e
  split at h
  · rename_i e
    exact ⟨.inl (hl _ (fun z => by cases z) e), .inr (hl _ (fun z => by cases z) e)⟩
  · rename_i e
    refine ⟨.inr (hl _ (fun z => by cases z) e), .inl ?_⟩
    show (scope.names.lookup x == some .cell) = true
    rw [e]; rfl
  · cases h
theorem notSet_ok {e : Expr} (h : notSet e = true) {env : PySem.Env} : ∀ x, foldedSetIterable e env x = pure x := by
  intro x
  cases e <;> first | rfl | (simp [notSet] at h)
theorem ownL_map (own : List Nat) : (ownL N own).map (·.2) = own := by
  unfold ownL
  rw [List.map_map]
  exact List.map_id' own
theorem and3 {a b : Bool} (h : (a && b) = true) : a = true ∧ b = true := by simpa using h
theorem opt_list {o : Option Expr} {sc : Scope} {es : List Ex} (h : ckDs G.toNames N sc es o.toList = true) : (es = [] ∧ o = none) ∨ ∃ e a, es = [e] ∧ o = some a ∧ ckE G.toNames N sc e a = true := by
  cases o with
  | none =>
    cases es with
    | nil => exact .inl ⟨rfl, rfl⟩
    | cons e es => simp [ckDs] at h
  | some a =>
    cases es with
    | nil => simp [ckDs] at h
    | cons e es =>
      cases es with
      | nil =>
        simp [ckDs] at h
        exact .inr ⟨e, a, rfl, rfl, h.2⟩
      | cons e2 es => simp [ckDs] at h
/-- both ends of a slice -/
theorem po_of {X : Cx} {W : WX} {o : Option Expr} {es : List Ex} {sc : Scope} (h : ckDs G.toNames N sc es o.toList = true) (ih : ∀ e a, es = [e] → o = some a → PE X a (tE G W (evE C e))) :
    ∃ t, PO X o t ∧ ∀ (σ : L2.St) (H : Hp) (P : Option Int → Hp → Prop) (r : Env) (S : Sto) (B : List Addr), RepE G B S H σ r → RepS G B S H → Ans G W σ (evDs C es r S) B S H (fun l B' S' H' => ∃ o, optI l = some o ∧ P o H') → t σ H P := by
  rcases opt_list h with ⟨rfl, rfl⟩ | ⟨e, a, rfl, rfl, _⟩
  · exact ⟨_, po_none, fun σ H P r S B re rs an => cut_none (G := G) (W := W) (σ := σ) (r := r) rs an⟩
  · exact ⟨_, po_some (ih e a rfl rfl), fun σ H P r S B re rs an => cut_some re rs an⟩
theorem pe_weak {X : Cx} {e : Expr} {t1 t2 : TE} (h : PE X e t1) (k : ∀ σ H Q, t2 σ H Q → t1 σ H Q) : PE X e t2 := ⟨fun pins s σ H Q I q => h.run pins s σ H Q I (k σ H Q q)⟩
theorem pts_yes {X : Cx} {W : WX} : PTs X [] (tT G W (evAnd C [])) := ⟨fun pins s σ H Q I h => by
  obtain ⟨r, S, B, re, rs, an⟩ := h
  exact pts_nil.run pins s σ H Q I (an.done rs)⟩
theorem pts_t {X : Cx} {W : WX} {t : Tx} {b : Expr} (P : PT X b (tT G W (evT C t))) : PTs X [b] (tT G W (evAnd C [t])) := ⟨fun pins s σ H Q I h => by
  obtain ⟨r, S, B, re, rs, an⟩ := h
  refine (pts_one P).run pins s σ H Q I ⟨r, S, B, re, rs, ?_⟩
  simp only [evAnd] at an
  refine an.bind.mono fun q B1 S1 H1 s1 r1 an1 => ?_
  cases q <;> exact an1.done r1⟩
theorem iter_ok {X : Cx} {sc : Scope} {W : WX} (k : Cok G C n X N sc W) {q : IK} {tg iter : Expr} {es : List Ex} {as : List Expr} (hA : iterA sc q tg iter = some as) (h : ckDs G.toNames N sc es as = true) (P : PA X as (tD G W (evDs C es))) (P1 : ∀ e a, es = [e] → as = [a] → PE X a (tE G W (evE C e))) :
    PI X tg iter (tI G W fun r S => (evDs C es r S).bind fun xs S => .ofO (walkD q xs) S) := by
  cases q with
  | val =>
    simp only [iterA, Option.some.injEq] at hA
    subst hA
    match es, h with
    | [e], h => exact i_val k.hK (P1 e iter rfl rfl)
    | e :: e2 :: es, h => simp [ckDs] at h
  | range1 =>
    simp only [iterA] at hA
    split at hA
    · split at hA
      · rename_i hc
        simp only [Bool.and_eq_true, beq_iff_eq] at hc
        obtain ⟨rfl, hc⟩ := hc
        cases hA
        have st := ckDs_star h
        simp only [List.all_cons, Bool.and_eq_true] at st
        exact i_rng1 k hc st.1 P
      · cases hA
    · cases hA
  | range2 =>
    simp only [iterA] at hA
    split at hA
    · split at hA
      · rename_i hc
        simp only [Bool.and_eq_true, beq_iff_eq] at hc
        obtain ⟨rfl, hc⟩ := hc
        cases hA
        have st := ckDs_star h
        simp only [List.all_cons, Bool.and_eq_true] at st
        exact i_rng2 k hc st.1 st.2.1 P
      · cases hA
    · cases hA
  | zip =>
    simp only [iterA] at hA
    split at hA
    · split at hA
      · rename_i hc
        simp only [Bool.and_eq_true, beq_iff_eq] at hc
        obtain ⟨⟨rfl, hc⟩, ht⟩ := hc
        cases hA
        have st := ckDs_star h
        simp only [List.all_cons, Bool.and_eq_true] at st
        exact i_zip k hc ht st.1 st.2.1 P
      · cases hA
    · cases hA
  | enum =>
    simp only [iterA] at hA
    split at hA
    · split at hA
      · rename_i hc
        simp only [Bool.and_eq_true, beq_iff_eq] at hc
        obtain ⟨⟨rfl, hc⟩, ht⟩ := hc
        cases hA
        have st := ckDs_star h
        simp only [List.all_cons, Bool.and_eq_true] at st
        exact i_enum k hc ht st.1 P
      · cases hA
    · cases hA
def isCmpX : Ex → Bool
  | .cmp _ _ _ => true | .chain _ _ _ _ _ => true | _ => false
theorem noCmp {sc : Scope} {e : Ex} {a : Expr} (h1 : isCmpX e = false) (h2 : isCmpE a = true) : ¬ ckE G.toNames N sc e a = true := by
  cases a <;> simp only [isCmpE] at h2 <;> try (cases h2; done)
  cases e <;> simp only [isCmpX] at h1 <;> first | (cases h1; done) | (intro h; unfold ckE at h; cases h)
def EOk (G : Dom) (C : Calls) (X : Cx) (W : WX) (e : Ex) (a : Expr) : Prop := PE X a (tE G W (evE C e)) ∧ (isCmpE a = true → PT X a (tT G W fun r S => bindD (evE C e r S) fun x S => .ofO (truD x) S))
theorem okP {X : Cx} {sc : Scope} {W : WX} {e : Ex} {a : Expr} (h1 : isCmpX e = false) (h : ckE G.toNames N sc e a = true) (P : PE X a (tE G W (evE C e))) : EOk G C X W e a := ⟨P, fun hc => absurd h (noCmp h1 hc)⟩
theorem fstr_ok {X : Cx} {sc : Scope} {W : WX} {es : List Ex} {as : List Expr} {pos : Pos} (h1 : decide (2 ≤ es.length) = true) (h2 : ckDs G.toNames N sc es as = true) (J : JS G W X as (evCat C es)) : PE X (.JoinedStr as pos) (tE G W (evE C (.fstr es))) := by
  cases es with
  | nil => simp at h1
  | cons e1 es =>
    cases es with
    | nil => simp at h1
    | cons e2 es =>
      cases as with
      | nil => simp [ckDs] at h2
      | cons a1 as =>
        cases as with
        | nil => simp [ckDs] at h2
        | cons a2 as => exact s_fstr J
theorem evBool_cons {i : Bool} {e e2 : Ex} {es : List Ex} : evBool C i (e :: e2 :: es) = fun r S => bindP (evE C e r S) fun x S => (match x with
      | .bl q => if q == i then evBool C i (e2 :: es) r S else .ok (.d (.bl q)) S
      | _ => .stuck) := by
  funext r S
  rw [evBool] <;> rfl
theorem tgIn_map {own : List Nat} {t : Tg} (h : tgIn own t = true) : tgIn ((ownL N own).map (·.2)) t = true := by rw [ownL_map]; exact h
mutual
theorem ckE_ok : ∀ (e : Ex) (X : Cx) (sc : Scope) (W : WX) (a : Expr), Cok G C n X N sc W → ckE G.toNames N sc e a = true → EOk G C X W e a
  | .var i, X, sc, W, a, k, h => by
    refine okP rfl h ?_
    unfold ckE at h
    split at h
    · obtain ⟨h1, h2⟩ := and3 h
      exact s_var k (by simpa using h1) h2
    · cases h
  | .lit d, X, sc, W, a, k, h => by
    refine okP rfl h ?_
    unfold ckE at h
    split at h
    · exact s_lit h
    · cases h
  | .fnr f, X, sc, W, a, k, h => by
    refine okP rfl h ?_
    unfold ckE at h
    split at h
    · obtain ⟨h1, h2⟩ := and3 h
      exact s_fnr k (by simpa using h1) h2
    · cases h
  | .glob g, X, sc, W, a, k, h => by
    refine okP rfl h ?_
    unfold ckE at h
    split at h
    · obtain ⟨h1, h2⟩ := and3 h
      exact s_glob k (by simpa using h1) h2
    · cases h
  | .tup es, X, sc, W, a, k, h => by
    refine okP rfl h ?_
    unfold ckE at h
    split at h
    · obtain ⟨h1, h2⟩ := and3 h
      exact s_tup (ckDs_ok es X sc W _ k h2) fun r S xs S' e => by rw [evDs_len es r S xs S' e]; simpa using h1
    · cases h
  | .lst es, X, sc, W, a, k, h => by
    refine okP rfl h ?_
    unfold ckE at h
    split at h
    · obtain ⟨h1, h2⟩ := and3 h
      exact s_lst (ckDs_ok es X sc W _ k h2) fun r S xs S' e => by rw [evDs_len es r S xs S' e]; simpa using h1
    · cases h
  | .box es, X, sc, W, a, k, h => by
    refine okP rfl h ?_
    unfold ckE at h
    split at h
    · obtain ⟨h1, h2⟩ := and3 h
      exact s_box (ckDs_ok es X sc W _ k h2) fun r S xs S' e => by rw [evDs_len es r S xs S' e]; simpa using h1
    · cases h
  | .boxof e, X, sc, W, a, k, h => by
    refine okP rfl h ?_
    unfold ckE at h
    split at h
    · simp only [Bool.and_eq_true, beq_iff_eq] at h
      obtain ⟨⟨⟨rfl, h1⟩, h2⟩, h3⟩ := h
      exact s_boxof k h1 h2 (ckE_ok e X sc W _ k h3).1
    · cases h
  | .neg e, X, sc, W, a, k, h => by
    refine okP rfl h ?_
    unfold ckE at h
    split at h
    · exact s_neg (ckE_ok e X sc W _ k h).1
    · cases h
  | .not e, X, sc, W, a, k, h => by
    refine okP rfl h ?_
    unfold ckE at h
    split at h
    · exact s_not (ckE_ok e X sc W _ k h).1
    · cases h
  | .bin op x y, X, sc, W, a, k, h => by
    refine okP rfl h ?_
    unfold ckE at h
    split at h
    · simp only [Bool.and_eq_true] at h
      obtain ⟨⟨h1, h2⟩, h3⟩ := h
      cases opB_ok h1
      exact s_bin k (ckE_ok x X sc W _ k h2).1 (ckE_ok y X sc W _ k h3).1
    · cases h
  | .cmp op x y, X, sc, W, a, k, h => by
    unfold ckE at h
    split at h
    · simp only [Bool.and_eq_true, Bool.not_eq_true'] at h
      obtain ⟨⟨⟨h1, h0⟩, h2⟩, h3⟩ := h
      cases opC_ok h1
      exact ⟨s_cmp k (ckE_ok x X sc W _ k h2).1 (ckE_ok y X sc W _ k h3).1 h0, fun _ => t_cmp k (ckE_ok x X sc W _ k h2).1 (ckE_ok y X sc W _ k h3).1 h0⟩
    · cases h
  | .chain o1 o2 x y z, X, sc, W, a, k, h => by
    unfold ckE at h
    split at h
    · simp only [Bool.and_eq_true, Bool.not_eq_true'] at h
      obtain ⟨⟨⟨⟨⟨h1, h2⟩, h0⟩, h3⟩, h4⟩, h5⟩ := h
      cases opC_ok h1
      cases opC_ok h2
      exact ⟨s_chain k (ckE_ok x X sc W _ k h3).1 (ckE_ok y X sc W _ k h4).1 (ckE_ok z X sc W _ k h5).1 h0, fun _ => t_chain k (ckE_ok x X sc W _ k h3).1 (ckE_ok y X sc W _ k h4).1 (ckE_ok z X sc W _ k h5).1 h0⟩
    · cases h
  | .bool isAnd es, X, sc, W, a, k, h => by
    refine okP rfl h ?_
    unfold ckE at h
    split at h
    · obtain ⟨h1, h2⟩ := and3 h
      exact ckBs_ok es X sc W isAnd _ _ _ k h1 h2
    · cases h
  | .ite c x y, X, sc, W, a, k, h => by
    refine okP rfl h ?_
    unfold ckE at h
    split at h
    · simp only [Bool.and_eq_true] at h
      obtain ⟨⟨h1, h2⟩, h3⟩ := h
      exact s_ite (ckT_ok c X sc W _ k h1) (ckE_ok x X sc W _ k h2).1 (ckE_ok y X sc W _ k h3).1
    · cases h
  | .idx x y, X, sc, W, a, k, h => by
    refine okP rfl h ?_
    unfold ckE at h
    split at h
    · simp only [Bool.and_eq_true, Bool.not_eq_true'] at h
      obtain ⟨⟨h1, h2⟩, h3⟩ := h
      exact s_idx k (ckE_ok x X sc W _ k h2).1 (ckE_ok y X sc W _ k h3).1 h1
    · cases h
  | .cut x lo hi, X, sc, W, a, k, h => by
    refine okP rfl h ?_
    unfold ckE at h
    split at h
    · simp only [Bool.and_eq_true] at h
      obtain ⟨⟨h1, h2⟩, h3⟩ := h
      obtain ⟨tl, pl, ql⟩ := po_of (X := X) (W := W) (C := C) h2 fun e a he ha => ckPs_ok lo X sc W _ k h2 e a he (by rw [ha]; rfl)
      obtain ⟨th, ph, qh⟩ := po_of (X := X) (W := W) (C := C) h3 fun e a he ha => ckPs_ok hi X sc W _ k h3 e a he (by rw [ha]; rfl)
      exact s_cut k (ckE_ok x X sc W _ k h1).1 ql qh pl ph
    · cases h
  | .rev x, X, sc, W, a, k, h => by
    refine okP rfl h ?_
    unfold ckE at h
    split at h
    · exact s_revL k (ckE_ok x X sc W _ k h).1
    · cases h
  | .back m x, X, sc, W, a, k, h => by
    refine okP rfl h ?_
    unfold ckE at h
    split at h
    · simp only [Bool.and_eq_true, decide_eq_true_eq] at h
      obtain ⟨rfl, h2⟩ := h
      exact s_back k (ckE_ok x X sc W _ k h2).1
    · cases h
  | .revt x, X, sc, W, a, k, h => by
    refine okP rfl h ?_
    unfold ckE at h
    split at h
    · exact s_revt k (ckE_ok x X sc W _ k h).1
    · cases h
  | .call f es, X, sc, W, a, k, h => by
    refine okP rfl h ?_
    unfold ckE at h
    split at h
    · simp only [Bool.and_eq_true, beq_iff_eq] at h
      obtain ⟨⟨⟨h1, h2⟩, h3⟩, h4⟩ := h
      have st := ckDs_star h4
      have pv := ckVs_ok es X sc W _ k h4
      rename_i as _
      cases as with
      | nil => simp at h3
      | cons b bs =>
        simp only [List.all_cons, Bool.and_eq_true] at st
        exact s_call k h1 h2 st.1 st.2 pv
    · cases h
  | .callv i es, X, sc, W, a, k, h => by
    refine okP rfl h ?_
    unfold ckE at h
    split at h
    · simp only [Bool.and_eq_true, beq_iff_eq] at h
      obtain ⟨⟨h1, h2⟩, h3⟩ := h
      have st := ckDs_star h3
      have pv := ckVs_ok es X sc W _ k h3
      rename_i as _
      cases as with
      | nil =>
        cases es with
        | nil => exact s_callv0 k h1 h2
        | cons e es => simp [ckDs] at h3
      | cons b bs =>
        simp only [List.all_cons, Bool.and_eq_true] at st
        exact s_callv k h1 h2 st.1 st.2 pv
    · cases h
  | .calll f q cap es, X, sc, W, a, k, h => by
    refine okP rfl h ?_
    unfold ckE at h
    split at h
    · simp only [Bool.and_eq_true, beq_iff_eq] at h
      obtain ⟨⟨⟨⟨h1, h2⟩, h0⟩, h4⟩, h3⟩ := h
      split at h3
      · rename_i L hL
        simp only [Bool.and_eq_true, decide_eq_true_eq] at h3
        obtain ⟨⟨⟨⟨⟨⟨⟨e1, e2⟩, e3⟩, e4⟩, e5⟩, e6⟩, e7⟩, e8⟩ := h3
        have e1' := eqP_ok e1
        have e2' := eqE_ok _ _ e2
        subst e1' e2' e3
        have d0 : sc.names.lookup (".0" : Str) = none := by
          unfold dotB at h0
          cases q : sc.names.lookup (".0" : Str) with
          | none => rfl
          | some z => rw [q] at h0; cases h0
        exact s_calll k h1 h2 hL e7 e4 e5 e6 d0 e8 (ckDs_star h4) (ckVs_ok es X sc W _ k h4)
      · cases h3
    · cases h
  | .errl q cap told, X, sc, W, a, k, h => by
    refine okP rfl h ?_
    unfold ckE at h
    split at h
    · simp only [Bool.and_eq_true, beq_iff_eq] at h
      obtain ⟨⟨h1, h2⟩, h3⟩ := h
      split at h3
      · rename_i L hL
        simp only [Bool.and_eq_true, decide_eq_true_eq] at h3
        obtain ⟨⟨⟨⟨⟨⟨e1, e2⟩, e3⟩, e4⟩, e5⟩, e6⟩, e7⟩ := h3
        have e1' := eqP_ok e1
        have e2' := eqE_ok _ _ e2
        subst e1' e2' e3
        exact s_errl k h1 h2 hL e7 e4 e5 e6
      · cases h3
    · cases h
  | .compb q es tg ifs elt own, X, sc, W, a, k, h => by
    refine okP rfl h ?_
    unfold ckE at h
    split at h
    · simp only [Bool.and_eq_true] at h
      obtain ⟨⟨⟨⟨⟨⟨⟨⟨h1, hd⟩, h2⟩, h3⟩, h4⟩, h5⟩, h6⟩, h7⟩, h8⟩ := h
      rename_i elt' tg' iter ifs' scope _
      cases hA : iterA sc q tg' iter with
      | none => rw [hA] at h3; cases h3
      | some as =>
        simp only [hA] at h3
        have Pi : PI X tg' iter (tI G W fun r S => (evDs C es r S).bind fun xs S => .ofO (walkD q xs) S) := iter_ok k hA h3 (ckDs_ok es X sc W as k h3) (ckPs_ok es X sc W as k h3)
        have ok : BlkOk X.N X.env.scope scope (ownL N own) := by rw [k.hN, k.hS]; exact blkOk_by h1
        have Pg : ∀ (s : Shared) (H : Hp) (D : Addr) (cl : List (Str × Addr)) (fp : List Addr), PG (X.blk s H scope (compEnvC scope cl D X.env) fp) tg' (gT G ((ownL N own).map (·.2)) tg) := fun s H D cl fp =>
          g_ok (k.blk hd s H scope D cl fp).nd (k.blk hd s H scope D cl fp).hN (k.blk hd s H scope D cl fp).calm (k.blk hd s H scope D cl fp).hK (fun x hx => stoB_ok hx) _ tg tg' h4 (tgIn_map h5)
        have Pt : ∀ (s : Shared) (H : Hp) (D : Addr) (cl : List (Str × Addr)) (fp : List Addr), PTs (X.blk s H scope (compEnvC scope cl D X.env) fp) ifs' (tT G noX (evAnd C ifs)) := fun s H D cl fp => by
          exact ckIf_ok ifs _ _ _ ifs' (k.blk hd s H scope D cl fp) (by simpa using h6) h7
        have Pe : ∀ (s : Shared) (H : Hp) (D : Addr) (cl : List (Str × Addr)) (fp : List Addr), PE (X.blk s H scope (compEnvC scope cl D X.env) fp) elt' (tE G noX (evE C elt)) := fun s H D cl fp => (ckE_ok elt _ _ _ elt' (k.blk hd s H scope D cl fp) h8).1
        have R := s_compb (G := G) (C := C) (n := n) k Pi ok Pg Pt Pe
        refine pe_weak (pe_lc k.calm (by rw [k.hN]; exact k.nd) Pi ok Pg Pt Pe (notSet_ok h2)) fun σ H Q hq => R σ H Q ?_
        rw [ownL_map]
        exact hq
    · cases h
  | .bi b e, X, sc, W, a, k, h => by
    refine okP rfl h ?_
    unfold ckE at h
    split at h
    · simp only [Bool.and_eq_true, beq_iff_eq] at h
      obtain ⟨⟨⟨rfl, h2⟩, h3⟩, h4⟩ := h
      have P := (ckE_ok e X sc W _ k h4).1
      cases b
      · exact s_bi k (cr_len_D k.hK) boot_len (by decide +kernel) h2 (by decide +kernel) h3 P
      · exact s_bi k cr_abs_D (by decide +kernel) (by decide +kernel) h2 (by decide +kernel) h3 P
      · exact s_bi k (cr_sum_D k.calm k.hK) (by decide +kernel) (by decide +kernel) h2 (by decide +kernel) h3 P
      · exact s_bi k (cr_max_D k.calm) (by decide +kernel) (by decide +kernel) h2 (by decide +kernel) h3 P
      · exact s_bi k (cr_min_D k.calm) (by decide +kernel) (by decide +kernel) h2 (by decide +kernel) h3 P
      · exact s_bi k cr_sorted_D (by decide +kernel) (by decide +kernel) h2 (by decide +kernel) h3 P
      · exact s_biT k (cr_tuple_D k.hK) (by decide +kernel) (by decide +kernel) h2 (by decide +kernel) h3 P
      · exact s_biT k (cr_list_D k.hK) (by decide +kernel) (by decide +kernel) h2 (by decide +kernel) h3 P
      · exact s_biT k cr_int_D (by decide +kernel) (by decide +kernel) h2 (by decide +kernel) h3 P
      · exact s_biT k cr_str_D (by decide +kernel) (by decide +kernel) h2 (by decide +kernel) h3 P
      · exact s_bi k (cr_all_D k.calm) (by decide +kernel) (by decide +kernel) h2 (by decide +kernel) h3 P
      · exact s_bi k (cr_any_D k.calm) (by decide +kernel) (by decide +kernel) h2 (by decide +kernel) h3 P
      · exact s_biT k cr_bool_D (by decide +kernel) (by decide +kernel) h2 (by decide +kernel) h3 P
    · cases h
  | .len e, X, sc, W, a, k, h => by
    refine okP rfl h ?_
    unfold ckE at h
    split at h
    · simp only [Bool.and_eq_true, beq_iff_eq] at h
      obtain ⟨⟨⟨rfl, h2⟩, h3⟩, h4⟩ := h
      exact s_len k h2 h3 (ckE_ok e X sc W _ k h4).1
    · cases h
  | .isi e c, X, sc, W, a, k, h => by
    refine okP rfl h ?_
    unfold ckE at h
    split at h
    · simp only [Bool.and_eq_true, beq_iff_eq] at h
      obtain ⟨⟨⟨⟨⟨rfl, h1⟩, h2⟩, h3⟩, h4⟩, h5⟩ := h
      have P := (ckE_ok e X sc W _ k h5).1
      cases c <;> simp only [clsN, Option.some.injEq] at h2 <;> first | (subst h2; exact s_isi k h1 h3 rfl (by decide +kernel) (by decide +kernel) (by decide +kernel) h4 P) | (cases h2; done)
    · cases h
  | .comp q es tg ifs elt own, X, sc, W, a, k, h => by
    refine okP rfl h ?_
    unfold ckE at h
    split at h
    · simp only [Bool.and_eq_true] at h
      obtain ⟨⟨⟨⟨⟨⟨⟨⟨h1, hd⟩, h2⟩, h3⟩, h4⟩, h5⟩, h6⟩, h7⟩, h8⟩ := h
      rename_i elt' tg' iter ifs' scope _
      cases hA : iterA sc q tg' iter with
      | none => rw [hA] at h3; cases h3
      | some as =>
        simp only [hA] at h3
        have Pi : PI X tg' iter (tI G W fun r S => (evDs C es r S).bind fun xs S => .ofO (walkD q xs) S) := iter_ok k hA h3 (ckDs_ok es X sc W as k h3) (ckPs_ok es X sc W as k h3)
        have ok : BlkOk X.N X.env.scope scope (ownL N own) := by rw [k.hN, k.hS]; exact blkOk_by h1
        have Pg : ∀ (s : Shared) (H : Hp) (D : Addr) (cl : List (Str × Addr)) (fp : List Addr), PG (X.blk s H scope (compEnvC scope cl D X.env) fp) tg' (gT G ((ownL N own).map (·.2)) tg) := fun s H D cl fp =>
          g_ok (k.blk hd s H scope D cl fp).nd (k.blk hd s H scope D cl fp).hN (k.blk hd s H scope D cl fp).calm (k.blk hd s H scope D cl fp).hK (fun x hx => stoB_ok hx) _ tg tg' h4 (tgIn_map h5)
        have Pt : ∀ (s : Shared) (H : Hp) (D : Addr) (cl : List (Str × Addr)) (fp : List Addr), PTs (X.blk s H scope (compEnvC scope cl D X.env) fp) ifs' (tT G noX (evAnd C ifs)) := fun s H D cl fp => by
          exact ckIf_ok ifs _ _ _ ifs' (k.blk hd s H scope D cl fp) (by simpa using h6) h7
        have Pe : ∀ (s : Shared) (H : Hp) (D : Addr) (cl : List (Str × Addr)) (fp : List Addr), PE (X.blk s H scope (compEnvC scope cl D X.env) fp) elt' (tE G noX (evE C elt)) := fun s H D cl fp => (ckE_ok elt _ _ _ elt' (k.blk hd s H scope D cl fp) h8).1
        have R := s_comp (G := G) (C := C) (n := n) k Pi ok Pg Pt Pe
        refine pe_weak (pe_lc k.calm (by rw [k.hN]; exact k.nd) Pi ok Pg Pt Pe (notSet_ok h2)) fun σ H Q hq => R σ H Q ?_
        rw [ownL_map]
        exact hq
    · cases h
  | .fstr es, X, sc, W, a, k, h => by
    refine okP rfl h ?_
    unfold ckE at h
    split at h
    · obtain ⟨h1, h2⟩ := and3 h
      have J := ckJs_ok es X sc W _ k h2
      rename_i as _
      exact fstr_ok h1 h2 J
    · cases h
  | .fmt e, X, sc, W, a, k, h => by
    refine okP rfl h ?_
    unfold ckE at h
    split at h
    · exact s_fmt (ckE_ok e X sc W _ k h).1
    · cases h
  | .count x y, X, sc, W, a, k, h => by unfold ckE at h; cases h
  | .split x y, X, sc, W, a, k, h => by
    refine okP rfl h ?_
    unfold ckE at h
    split at h
    · simp only [Bool.and_eq_true, beq_iff_eq] at h
      obtain ⟨⟨⟨⟨⟨rfl, h1⟩, h2⟩, h3⟩, h4⟩, h5⟩ := h
      exact s_split (ckE_ok x X sc W _ k h4).1 (ckE_ok y X sc W _ k h5).1 h1 h2 (by simpa using h3)
    · cases h
  | .join x y, X, sc, W, a, k, h => by
    refine okP rfl h ?_
    unfold ckE at h
    split at h
    · simp only [Bool.and_eq_true, beq_iff_eq] at h
      obtain ⟨⟨⟨⟨⟨rfl, h1⟩, h2⟩, h3⟩, h4⟩, h5⟩ := h
      exact s_join k (ckE_ok x X sc W _ k h4).1 (ckE_ok y X sc W _ k h5).1 h1 h2 (by simpa using h3)
    · cases h
  | .pop0 i, X, sc, W, a, k, h => by
    refine okP rfl h ?_
    unfold ckE at h
    split at h
    · simp only [Bool.and_eq_true, beq_iff_eq] at h
      obtain ⟨⟨⟨rfl, h1⟩, h2⟩, h3⟩ := h
      exact s_pop0 k h1 h2 (by simpa using h3)
    · cases h
  | .popl i, X, sc, W, a, k, h => by
    refine okP rfl h ?_
    unfold ckE at h
    split at h
    · simp only [Bool.and_eq_true, beq_iff_eq] at h
      obtain ⟨⟨⟨rfl, h1⟩, h2⟩, h3⟩ := h
      exact s_popl k h1 h2 (by simpa using h3)
    · cases h
theorem ckT_ok : ∀ (t : Tx) (X : Cx) (sc : Scope) (W : WX) (a : Expr), Cok G C n X N sc W → ckT G.toNames N sc t a = true → PT X a (tT G W (evT C t))
  | .val e, X, sc, W, a, k, h => by
    unfold ckT at h
    obtain ⟨h1, h2⟩ := and3 h
    have P := ckE_ok e X sc W a k h2
    cases hp : plainT a with
    | true => exact t_val k P.1 hp
    | false => exact P.2 (by simpa [hp] using h1)
  | .not t, X, sc, W, a, k, h => by
    unfold ckT at h
    split at h
    · exact t_not (ckT_ok t X sc W _ k h)
    · cases h
  | .bool isAnd ts, X, sc, W, a, k, h => by
    unfold ckT at h
    split at h
    · simp only [Bool.and_eq_true] at h
      obtain ⟨⟨h1, h2⟩, h3⟩ := h
      cases boolB_ok h1
      cases isAnd with
      | true => exact (ckAnd_ok ts X sc W _ _ k (by simpa using h2) h3).pt
      | false => exact (ckOr_ok ts X sc W _ _ k (by simpa using h2) h3).pt
    · cases h
theorem ckAnd_ok : ∀ (ts : List Tx) (X : Cx) (sc : Scope) (W : WX) (as : List Expr) (pos : Pos), Cok G C n X N sc W → as ≠ [] → ckTs G.toNames N sc ts as = true → PW X (.BoolOp .And as pos) (tT G W (evAnd C ts))
  | [], X, sc, W, as, pos, k, hn, h => by
    unfold ckTs at h
    exact absurd (by simpa using h) hn
  | t :: ts, X, sc, W, as, pos, k, hn, h => by
    unfold ckTs at h
    split at h
    · obtain ⟨h1, h2⟩ := and3 h
      rename_i a as
      cases as with
      | nil =>
        cases ts with
        | nil => exact t_and1 (ckT_ok t X sc W a k h1)
        | cons t2 ts => simp [ckTs] at h2
      | cons b bs => exact t_and (ckT_ok t X sc W a k h1) (ckAnd_ok ts X sc W (b :: bs) pos k (by simp) h2)
    · cases h
theorem ckOr_ok : ∀ (ts : List Tx) (X : Cx) (sc : Scope) (W : WX) (as : List Expr) (pos : Pos), Cok G C n X N sc W → as ≠ [] → ckTs G.toNames N sc ts as = true → PW X (.BoolOp .Or as pos) (tT G W (evOr C ts))
  | [], X, sc, W, as, pos, k, hn, h => by
    unfold ckTs at h
    exact absurd (by simpa using h) hn
  | t :: ts, X, sc, W, as, pos, k, hn, h => by
    unfold ckTs at h
    split at h
    · obtain ⟨h1, h2⟩ := and3 h
      rename_i a as
      cases as with
      | nil =>
        cases ts with
        | nil => exact t_or1 (ckT_ok t X sc W a k h1)
        | cons t2 ts => simp [ckTs] at h2
      | cons b bs => exact t_or (ckT_ok t X sc W a k h1) (ckOr_ok ts X sc W (b :: bs) pos k (by simp) h2)
    · cases h
theorem ckDs_ok : ∀ (es : List Ex) (X : Cx) (sc : Scope) (W : WX) (as : List Expr), Cok G C n X N sc W → ckDs G.toNames N sc es as = true → PA X as (tD G W (evDs C es))
  | [], X, sc, W, as, k, h => by
    unfold ckDs at h
    cases as with
    | nil => exact d_nil
    | cons a as => simp at h
  | e :: es, X, sc, W, as, k, h => by
    unfold ckDs at h
    split at h
    · simp only [Bool.and_eq_true] at h
      obtain ⟨⟨h1, h2⟩, h3⟩ := h
      exact d_cons (ckE_ok e X sc W _ k h2).1 (ckDs_ok es X sc W _ k h3) h1
    · cases h
theorem ckVs_ok : ∀ (es : List Ex) (X : Cx) (sc : Scope) (W : WX) (as : List Expr), Cok G C n X N sc W → ckDs G.toNames N sc es as = true → PA X as (tA G W (evVs C es))
  | [], X, sc, W, as, k, h => by
    unfold ckDs at h
    cases as with
    | nil => exact v_nil
    | cons a as => simp at h
  | e :: es, X, sc, W, as, k, h => by
    unfold ckDs at h
    split at h
    · simp only [Bool.and_eq_true] at h
      obtain ⟨⟨h1, h2⟩, h3⟩ := h
      exact v_cons (ckE_ok e X sc W _ k h2).1 (ckVs_ok es X sc W _ k h3) h1
    · cases h
theorem ckPs_ok : ∀ (es : List Ex) (X : Cx) (sc : Scope) (W : WX) (as : List Expr), Cok G C n X N sc W → ckDs G.toNames N sc es as = true → ∀ e a, es = [e] → as = [a] → PE X a (tE G W (evE C e))
  | [], X, sc, W, as, k, h, e', a', he, ha => by cases he
  | e :: es, X, sc, W, as, k, h, e', a', he, ha => by
    unfold ckDs at h
    subst ha
    simp only [Bool.and_eq_true] at h
    have q := (ckE_ok e X sc W a' k h.1.2).1
    cases he
    exact q
theorem ckIf_ok : ∀ (ts : List Tx) (X : Cx) (sc : Scope) (W : WX) (as : List Expr), Cok G C n X N sc W → ts.length ≤ 1 → ckTs G.toNames N sc ts as = true → PTs X as (tT G W (evAnd C ts))
  | [], X, sc, W, as, k, hl, h => by
    unfold ckTs at h
    have : as = [] := by simpa using h
    subst this
    exact pts_yes
  | t :: ts, X, sc, W, as, k, hl, h => by
    unfold ckTs at h
    split at h
    · obtain ⟨h1, h2⟩ := and3 h
      rename_i b bs
      have q := ckT_ok t X sc W b k h1
      cases ts with
      | cons t2 ts => simp at hl
      | nil =>
        have : bs = [] := by simpa [ckTs] using h2
        subst this
        exact pts_t q
    · cases h
theorem ckJs_ok : ∀ (es : List Ex) (X : Cx) (sc : Scope) (W : WX) (as : List Expr), Cok G C n X N sc W → ckDs G.toNames N sc es as = true → JS G W X as (evCat C es)
  | [], X, sc, W, as, k, h => by
    unfold ckDs at h
    cases as with
    | nil => exact js_nil
    | cons a as => simp at h
  | e :: es, X, sc, W, as, k, h => by
    unfold ckDs at h
    split at h
    · simp only [Bool.and_eq_true] at h
      obtain ⟨⟨h1, h2⟩, h3⟩ := h
      exact js_cons (ckE_ok e X sc W _ k h2).1 (ckJs_ok es X sc W _ k h3)
    · cases h
theorem ckBs_ok : ∀ (es : List Ex) (X : Cx) (sc : Scope) (W : WX) (isAnd : Bool) (o : PySem.BoolOp) (as : List Expr) (pos : Pos), Cok G C n X N sc W → boolB isAnd o = true → ckBs G.toNames N sc es as = true → PE X (.BoolOp o as pos) (tE G W (evBool C isAnd es))
  | [], X, sc, W, isAnd, o, as, pos, k, hb, h => by
    unfold ckBs at h
    cases h
  | e :: es, X, sc, W, isAnd, o, as, pos, k, hb, h => by
    unfold ckBs at h
    split at h
    · obtain ⟨h1, h2⟩ := and3 h
      rename_i a as
      cases es with
      | nil =>
        have : as = [] := by simpa using h2
        subst this
        exact pe_one (ckE_ok e X sc W a k h1).1
      | cons e2 es =>
        have P := ckBs_ok (e2 :: es) X sc W isAnd o as pos k hb (by simpa using h2)
        cases as with
        | nil => simp [ckBs] at h2
        | cons b bs =>
          cases boolB_ok hb
          cases isAnd with
          | true =>
            rw [evBool_cons]
            exact s_and (ckE_ok e X sc W a k h1).1 P
          | false =>
            rw [evBool_cons]
            exact s_or (ckE_ok e X sc W a k h1).1 P
    · cases h
end
end
end Ev

set_option Elab.async false
set_option linter.all false
set_option autoImplicit false
set_option maxRecDepth 100000
set_option maxHeartbeats 8000000
/-! The look at statements, and that it is sound. Own work. -/
namespace Ev
open PySem PySem.Spec PyProof.Rows L2
/-- a frame of this scope, nothing else told -/
def envS (sc : Scope) : PySem.Env := { scope := sc, locals := 0, globals := 0, cells := [] }
/-- what swappedStores tells -/
def swapQ (sc : Scope) (ts : List Expr) (v : Expr) : Option (Option (List Str)) := match swappedStores ts v (envS sc) with
  | .pure r => some r
  | _ => none
theorem swapQ_ok {env : PySem.Env} {ts : List Expr} {v : Expr} {r : Option (List Str)} (h : swapQ env.scope ts v = some r) : swappedStores ts v env = pure r := by
  have e : swappedStores ts v env = swappedStores ts v (envS env.scope) := rfl
  rw [e]
  unfold swapQ at h
  split at h
  · rename_i q; cases h; exact q
  · cases h
def swsQ (sc : Scope) (e : Expr) (t : Expr) (l : Nat) : Option Bool := match swapsWith e (some t) l (envS sc) with
  | .pure r => some r
  | _ => none
theorem swsQ_ok {env : PySem.Env} {e t : Expr} {l : Nat} {r : Bool} (h : swsQ env.scope e t l = some r) : swapsWith e (some t) l env = pure r := by
  have q : swapsWith e (some t) l env = swapsWith e (some t) l (envS env.scope) := rfl
  rw [q]
  unfold swsQ at h
  split at h
  · rename_i q; cases h; exact q
  · cases h
section
variable (G : Names) (N : List Str)
def stoF (sc : Scope) (x : Str) : Bool := match sc.names.lookup x with | some .local => true | some .cell => true | _ => false
/-- a, b (, c) = .. with exchanged stores -/
def swapB (sc : Scope) (ts vs : List Expr) (is : List Nat) (k : Nat) (p : Pos) (k2 : Nat) (p2 : Pos) : Bool := match ts, vs, is with
  | [.Name x q, .Name y r], [a, b], [i, j] => swapQ sc [.Tuple [.Name x q, .Name y r] k p] (.Tuple [a, b] k2 p2) == some (some [x, y]) && sc.names.lookup x == some .local && sc.names.lookup y == some .local && !(i == j)
  | [.Name x q, .Name y r, .Name z t], [a, b, c], [i, j, l] => swapQ sc [.Tuple [.Name x q, .Name y r, .Name z t] k p] (.Tuple [a, b, c] k2 p2) == some (some [x, y, z]) && sc.names.lookup x == some .local && sc.names.lookup y == some .local && sc.names.lookup z == some .local && !(i == j) && !(i == l) && !(j == l)
  | _, _, _ => false
def ckSet (sc : Scope) (t : Tg) (e : Ex) (s : Stmt) : Bool := match t with
  | .v i => (match s with
    | .Assign [.Name x p] v pos => N[i]? == some x && stoF sc x && ckE G N sc e v && swsQ sc v (.Name x p) pos.line == some false
    | _ => false)
  | .t ts => (match s with
    | .Assign [.Tuple les k p] v pos => ckG N (stoF sc) (.t ts) (.Tuple les k p) && tgIn (List.range 200) (.t ts) && ckE G N sc e v && notComp v && swapQ sc [.Tuple les k p] v == some none
    | _ => false)
/-- name = [..], stored as the block ends -/
def ckLc (sc : Scope) (t : Tg) (e : Ex) (s : Stmt) : Bool := match t with
  | .v i => (match s with
    | .Assign [.Name x p] v pos => N[i]? == some x && sc.names.lookup x == some .local && ckE G N sc e v && swsQ sc v (.Name x p) pos.line == some true
    | _ => false)
  | .t _ => false
mutual
def ckS (sc : Scope) : St → Stmt → Bool
  | .set t e, s => ckSet G N sc t e s || ckLc G N sc t e s
  | .setp is es, s => (match s with
    | .Assign [.Tuple les k p] (.Tuple vs k2 p2) _ => nmsB N (stoF sc) is les && decide (is.length ≤ 1000) && ckDs G N sc es vs && (swapQ sc [.Tuple les k p] (.Tuple vs k2 p2) == some none || swapB sc les vs is k p k2 p2)
    | _ => false)
  | .ret e, s => (match s with | .Return (some v) _ => ckE G N sc e v | _ => false)
  | .ifs c a b, s => (match s with | .If c' a' b' _ => ckT G N sc c c' && ckSs sc a a' && ckSs sc b b' | _ => false)
  | .forr k es tg body, s => (match s with
    | .For tg' iter body' [] _ => notSet iter && (match iterA sc k tg' iter with | some as => ckDs G N sc es as | none => false) && ckG N (stoF sc) tg tg' && tgIn (List.range 200) tg && ckSs sc body body'
    | _ => false)
  | .whil c body, s => (match s with | .While c' body' [] _ => ckT G N sc c c' && ckSs sc body body' | _ => false)
  | .rais c m, s => (match s with | .Raise (some (.Call (.Name x _) [.Constant (.str m') _ _] [] _)) none _ => G.cname c == some x && glB sc x | _ => false)
  | .append i e, s => (match s with | .Expr (.Call (.Attribute (.Name x _) m apos) [v] [] p1) _ => m == "append" && N[i]? == some x && visB sc x && (apos.endLine == p1.line) && nStar v && ckE G N sc e v | _ => false)
  | .seti i a e, s => (match s with | .Assign [.Subscript (.Name x _) b _] v _ => N[i]? == some x && visB sc x && ckE G N sc a b && ckE G N sc e v && notComp v && !isSlice b | _ => false)
  | .expr e, s => (match s with | .Expr v _ => ckE G N sc e v && notComp v | _ => false)
  | .frz _, _ => false
  | .tryx _ _, _ => false
  | .pass, s => (match s with | .Pass _ => true | .Expr (.Constant (.str _) _ _) _ => true | _ => false)
def ckSs (sc : Scope) : List St → List Stmt → Bool
  | [], ss => ss.isEmpty
  | c :: cs, ss => (match c with
    | .frz _ => ckSs sc cs ss
    | c => (match ss with | s :: ss => ckS sc c s && ckSs sc cs ss | [] => false))
end
end
section
variable {G : Dom} {C : Calls} {n : Nat} {N : List Str}
structure CokS (G : Dom) (C : Calls) (n : Nat) (X : Cx) (N : List Str) (sc : Scope) (W : WX) : Prop extends Cok G C n X N sc W where
  passes : PassesOwn (model X.prog X.w) X.A X.env X.xe
  fnT : ∀ x, X.fn x = true
theorem stoF_ok {X : Cx} {sc : Scope} {W : WX} (k : CokS G C n X N sc W) : ∀ x, stoF sc x = true → StoOk X x := by
  intro x h
  unfold stoF at h
  refine ⟨?_, .inl (k.fnT x)⟩
  rw [k.hS]
  split at h
  · rename_i e; exact .inl e
  · rename_i e; exact .inr e
  · cases h
variable {X : Cx} {sc : Scope} {W : WX}
theorem subA {x : Str} {p0 p1 : Pos} {a : Expr} (h : isSlice a = false) {env : PySem.Env} {v : Value} : assign (.Subscript (.Name x p0) a p1) env v = (do
      let ov ← holding [v] (eval (.Name x p0) env)
      let iv ← holding [v, ov] (eval a env)
      standAt p1
      holding [v, ov, iv] (setItem ov iv v)
      release [v, ov, iv] []) := by
  cases a <;> first | rfl | (simp [isSlice] at h)
theorem set_ok (k : CokS G C n X N sc W) {t : Tg} {e : Ex} {s : Stmt} (h : ckSet G.toNames N sc t e s = true) : PS X s (tS G W (evS C (.set t e))) := by
  cases t with
  | v i =>
    simp only [ckSet] at h
    split at h
    · simp only [Bool.and_eq_true, beq_iff_eq] at h
      obtain ⟨⟨⟨h1, h2⟩, h3⟩, h4⟩ := h
      exact st_setv k.toCok h1 (stoF_ok k _ h2) (ckE_ok e X sc W _ k.toCok h3).1 (swsQ_ok (by rw [k.hS]; exact h4))
    · cases h
  | t ts =>
    simp only [ckSet] at h
    split at h
    · simp only [Bool.and_eq_true, beq_iff_eq] at h
      obtain ⟨⟨⟨⟨h1, h2⟩, h3⟩, h4⟩, h5⟩ := h
      exact st_sett k.toCok (stoF_ok k) h1 h2 (ckE_ok e X sc W _ k.toCok h3).1 (by unfold swapsWithSole; exact nsw_of h4) (swapQ_ok (by rw [k.hS]; exact h5))
    · cases h
theorem par_ok (k : CokS G C n X N sc W) {is : List Nat} {es : List Ex} {les vs : List Expr} {kt k2 : Nat} {p p2 pos : Pos} (h1 : nmsB N (stoF sc) is les = true) (h2 : is.length ≤ 1000) (h3 : ckDs G.toNames N sc es vs = true)
    (h4 : (swapQ sc [.Tuple les kt p] (.Tuple vs k2 p2) == some none || swapB sc les vs is kt p k2 p2) = true) : PS X (.Assign [.Tuple les kt p] (.Tuple vs k2 p2) pos) (tS G W (evS C (.setp is es))) := by
  have P := ckVs_ok es X sc W vs k.toCok h3
  simp only [Bool.or_eq_true, beq_iff_eq] at h4
  rcases h4 with h4 | h4
  · exact st_parn k.toCok (stoF_ok k) h1 h2 P (swapQ_ok (by rw [k.hS]; exact h4))
  · unfold swapB at h4
    split at h4
    · simp only [Bool.and_eq_true, beq_iff_eq, Bool.not_eq_true', beq_eq_false_iff_ne] at h4
      obtain ⟨⟨⟨q1, q2⟩, q3⟩, q4⟩ := h4
      simp only [nmsB, Bool.and_eq_true, beq_iff_eq] at h1
      exact st_par2 k.toCok h1.1.1 h1.2.1.1 q4 q2 q3 P (swapQ_ok (by rw [k.hS]; exact q1))
    · simp only [Bool.and_eq_true, beq_iff_eq, Bool.not_eq_true', beq_eq_false_iff_ne] at h4
      obtain ⟨⟨⟨⟨⟨⟨q1, q2⟩, q3⟩, q4⟩, q5⟩, q6⟩, q7⟩ := h4
      simp only [nmsB, Bool.and_eq_true, beq_iff_eq] at h1
      exact st_par3 k.toCok h1.1.1 h1.2.1.1 h1.2.2.1.1 q5 q6 q7 q2 q3 q4 P (swapQ_ok (by rw [k.hS]; exact q1))
    · cases h4
theorem comp_all (k : Cok G C n X N sc W) {q : IK} {es : List Ex} {tg : Tg} {ifs : List Tx} {elt : Ex} {own : List Nat} {elt' tg' iter : Expr} {ifs' : List Expr} {scope : Scope} {pos : Pos}
    (h : ckE G.toNames N sc (.comp q es tg ifs elt own) (.ListComp elt' [⟨tg', iter, ifs', 0⟩] scope pos) = true) :
    PI X tg' iter (tI G W fun r S => (evDs C es r S).bind fun xs S => .ofO (walkD q xs) S) ∧ BlkOk X.N X.env.scope scope (ownL N own) ∧
    (∀ (s : Shared) (H : Hp) (D : Addr) (cl : List (Str × Addr)) (fp : List Addr), PG (X.blk s H scope (compEnvC scope cl D X.env) fp) tg' (gT G ((ownL N own).map (·.2)) tg)) ∧
    (∀ (s : Shared) (H : Hp) (D : Addr) (cl : List (Str × Addr)) (fp : List Addr), PTs (X.blk s H scope (compEnvC scope cl D X.env) fp) ifs' (tT G noX (evAnd C ifs))) ∧
    (∀ (s : Shared) (H : Hp) (D : Addr) (cl : List (Str × Addr)) (fp : List Addr), PE (X.blk s H scope (compEnvC scope cl D X.env) fp) elt' (tE G noX (evE C elt))) ∧ notSet iter = true := by
  unfold ckE at h
  simp only [Bool.and_eq_true] at h
  obtain ⟨⟨⟨⟨⟨⟨⟨⟨h1, hd⟩, h2⟩, h3⟩, h4⟩, h5⟩, h6⟩, h7⟩, h8⟩ := h
  cases hA : iterA sc q tg' iter with
  | none => rw [hA] at h3; cases h3
  | some as =>
    simp only [hA] at h3
    refine ⟨iter_ok k hA h3 (ckDs_ok es X sc W as k h3) (ckPs_ok es X sc W as k h3), by rw [k.hN, k.hS]; exact blkOk_by h1, fun s H D cl fp => ?_, fun s H D cl fp => ?_, fun s H D cl fp => ?_, h2⟩
    · exact g_ok (k.blk hd s H scope D cl fp).nd (k.blk hd s H scope D cl fp).hN (k.blk hd s H scope D cl fp).calm (k.blk hd s H scope D cl fp).hK (fun x hx => stoB_ok hx) _ tg tg' h4 (tgIn_map h5)
    · exact ckIf_ok ifs _ _ _ ifs' (k.blk hd s H scope D cl fp) (by simpa using h6) h7
    · exact (ckE_ok elt _ _ _ elt' (k.blk hd s H scope D cl fp) h8).1
theorem compb_comp {q : IK} {es : List Ex} {tg : Tg} {ifs : List Tx} {elt : Ex} {own : List Nat} {a : Expr} {G : Names} {N : List Str} {sc : Scope} (h : ckE G N sc (.compb q es tg ifs elt own) a = true) : ckE G N sc (.comp q es tg ifs elt own) a = true := by
  unfold ckE at h ⊢
  exact h
theorem lc_ok (k : CokS G C n X N sc W) {t : Tg} {e : Ex} {s : Stmt} (h : ckLc G.toNames N sc t e s = true) : PS X s (tS G W (evS C (.set t e))) := by
  cases t with
  | t ts => simp [ckLc] at h
  | v i =>
    simp only [ckLc] at h
    split at h
    · simp only [Bool.and_eq_true, beq_iff_eq] at h
      obtain ⟨⟨⟨h1, h2⟩, h3⟩, h4⟩ := h
      rename_i x p v pos
      have sw := swsQ_ok (env := X.env) (by rw [k.hS]; exact h4)
      cases e <;> cases v <;> first | (unfold ckE at h3; cases h3; done) | (exact absurd (congrArg (fun (z : Sem Bool) => match z with | .pure b => b | _ => false) sw) (by intro z; exact Bool.noConfusion (show false = true from z))) | skip
      · rename_i q es tg ifs elt own elt' gens scope lpos
        replace h3 := compb_comp h3
        have hg : ∃ tg' iter ifs', gens = [⟨tg', iter, ifs', 0⟩] := by
          unfold ckE at h3
          split at h3
          · rename_i heq; cases heq; exact ⟨_, _, _, rfl⟩
          · cases h3
        obtain ⟨tg', iter, ifs', rfl⟩ := hg
        obtain ⟨Pi, ok, Pg, Pt, Pe, ns⟩ := comp_all k.toCok h3
        refine ⟨fun pins s σ H D I hq => ?_⟩
        refine (ps_setLc k.calm (by rw [k.hN]; exact k.nd) (by rw [k.hN]; exact h1) (by rw [k.hS]; exact h2) sw Pi ok Pg Pt Pe (notSet_ok ns)).run pins s σ H D I ?_
        obtain ⟨r, S, B, re, rs, an⟩ := hq
        refine s_compb (G := G) (C := C) (n := n) k.toCok Pi ok Pg Pt Pe σ H _ ⟨r, S, B, re, rs, ?_⟩
        rw [ownL_map]
        refine (an.of (σ := σ)).mono fun v B1 S1 H1 s1 r1 an1 u ru => ?_
        obtain ⟨r', hr, an2⟩ := an1.ofO
        simp only [setV] at hr
        split at hr
        · cases hr
          exact an2.nx (Stp.refl _ _ _) r1 ((re.stp s1 rs).set ru)
        · cases hr
      · rename_i q es tg ifs elt own elt' gens scope lpos
        have hg : ∃ tg' iter ifs', gens = [⟨tg', iter, ifs', 0⟩] := by
          unfold ckE at h3
          split at h3
          · rename_i heq; cases heq; exact ⟨_, _, _, rfl⟩
          · cases h3
        obtain ⟨tg', iter, ifs', rfl⟩ := hg
        obtain ⟨Pi, ok, Pg, Pt, Pe, ns⟩ := comp_all k.toCok h3
        refine ⟨fun pins s σ H D I hq => ?_⟩
        refine (ps_setLc k.calm (by rw [k.hN]; exact k.nd) (by rw [k.hN]; exact h1) (by rw [k.hS]; exact h2) sw Pi ok Pg Pt Pe (notSet_ok ns)).run pins s σ H D I ?_
        obtain ⟨r, S, B, re, rs, an⟩ := hq
        refine s_comp (G := G) (C := C) (n := n) k.toCok Pi ok Pg Pt Pe σ H _ ⟨r, S, B, re, rs, ?_⟩
        rw [ownL_map]
        refine (an.of (σ := σ)).mono fun v B1 S1 H1 s1 r1 an1 u ru => ?_
        obtain ⟨r', hr, an2⟩ := an1.ofO
        simp only [setV] at hr
        split at hr
        · cases hr
          exact an2.nx (Stp.refl _ _ _) r1 ((re.stp s1 rs).set ru)
        · cases hr
    · cases h
theorem loop_of {m : Env → Sto → RS} {c : Tx} : True := trivial
mutual
theorem ckS_ok : ∀ (c : St) (s : Stmt), ckS G.toNames N sc c s = true → CokS G C n X N sc W → PS X s (tS G W (evS C c))
  | .set t e, s, h, k => by
    unfold ckS at h
    simp only [Bool.or_eq_true] at h
    rcases h with h | h
    · exact set_ok k h
    · exact lc_ok k h
  | .setp is es, s, h, k => by
    unfold ckS at h
    split at h
    · simp only [Bool.and_eq_true, decide_eq_true_eq] at h
      obtain ⟨⟨⟨h1, h2⟩, h3⟩, h4⟩ := h
      exact par_ok k h1 h2 h3 h4
    · cases h
  | .ret e, s, h, k => by
    unfold ckS at h
    split at h
    · exact st_ret (ckE_ok e X sc W _ k.toCok h).1
    · cases h
  | .ifs c a b, s, h, k => by
    unfold ckS at h
    split at h
    · simp only [Bool.and_eq_true] at h
      obtain ⟨⟨h1, h2⟩, h3⟩ := h
      exact st_if (ckT_ok c X sc W _ k.toCok h1) (ckSs_ok a _ h2 k) (ckSs_ok b _ h3 k)
    · cases h
  | .forr q es tg body, s, h, k => by
    unfold ckS at h
    split at h
    · simp only [Bool.and_eq_true] at h
      obtain ⟨⟨⟨⟨h1, h2⟩, h3⟩, h4⟩, h5⟩ := h
      rename_i tg' iter body' _
      cases hA : iterA sc q tg' iter with
      | none => rw [hA] at h2; cases h2
      | some as =>
        simp only [hA] at h2
        exact st_for k.toCok k.passes (iter_ok k.toCok hA h2 (ckDs_ok es X sc W as k.toCok h2) (ckPs_ok es X sc W as k.toCok h2)) (stoF_ok k) h3 h4 (ckSs_ok body _ h5 k) (notSet_ok h1)
    · cases h
  | .whil c body, s, h, k => by
    unfold ckS at h
    split at h
    · simp only [Bool.and_eq_true] at h
      exact st_while k.passes (ckT_ok c X sc W _ k.toCok h.1) (ckSs_ok body _ h.2 k) whileMax
    · cases h
  | .rais c m, s, h, k => by
    unfold ckS at h
    split at h
    · simp only [Bool.and_eq_true, beq_iff_eq] at h
      exact st_raise k.toCok h.1 h.2
    · cases h
  | .append i e, s, h, k => by
    unfold ckS at h
    split at h
    · simp only [Bool.and_eq_true, beq_iff_eq] at h
      obtain ⟨⟨⟨⟨⟨rfl, h1⟩, h2⟩, h3⟩, h4⟩, h5⟩ := h
      exact st_append k.toCok h1 h2 (by simpa using h3) h4 (ckE_ok e X sc W _ k.toCok h5).1
    · cases h
  | .seti i a e, s, h, k => by
    unfold ckS at h
    split at h
    · simp only [Bool.and_eq_true, beq_iff_eq, Bool.not_eq_true'] at h
      obtain ⟨⟨⟨⟨⟨h1, h2⟩, h3⟩, h4⟩, h5⟩, h6⟩ := h
      exact st_seti k.toCok h1 h2 (ckE_ok a X sc W _ k.toCok h3).1 (ckE_ok e X sc W _ k.toCok h4).1 h5 (fun v => subA h6)
    · cases h
  | .expr e, s, h, k => by
    unfold ckS at h
    split at h
    · simp only [Bool.and_eq_true] at h
      exact st_expr (ckE_ok e X sc W _ k.toCok h.1).1 h.2
    · cases h
  | .frz i, s, h, k => by unfold ckS at h; cases h
  | .tryx b e, s, h, k => by unfold ckS at h; cases h
  | .pass, s, h, k => by
    unfold ckS at h
    split at h
    · exact st_pass
    · exact st_doc
    · cases h
theorem ckSs_ok : ∀ (cs : List St) (ss : List Stmt), ckSs G.toNames N sc cs ss = true → CokS G C n X N sc W → PSs X ss (tS G W (evSs C cs))
  | [], ss, h, k => by
    unfold ckSs at h
    have : ss = [] := by simpa using h
    subst this
    exact ss_nil
  | c :: cs, ss, h, k => by
    have P : ∀ s ss, ckS G.toNames N sc c s = true → ckSs G.toNames N sc cs ss = true → PSs X (s :: ss) (tS G W (evSs C (c :: cs))) := fun s ss h1 h2 => ss_cons (ckS_ok c s h1 k) (ckSs_ok cs ss h2 k)
    by_cases hf : ∃ i, c = .frz i
    · obtain ⟨i, rfl⟩ := hf
      have h' : ckSs G.toNames N sc cs ss = true := by unfold ckSs at h; exact h
      exact ss_ghost g_frz (ckSs_ok cs ss h' k)
    · cases ss with
      | nil =>
        exfalso
        cases c <;> unfold ckSs at h <;> first | (cases h; done) | (exact hf ⟨_, rfl⟩)
      | cons s ss =>
        have h' : ckS G.toNames N sc c s = true ∧ ckSs G.toNames N sc cs ss = true := by
          cases c <;> unfold ckSs at h <;> first | (simpa using h) | (exact absurd ⟨_, rfl⟩ hf)
        exact P s ss h'.1 h'.2
end
end
end Ev

set_option Elab.async false
set_option linter.all false
set_option autoImplicit false
set_option maxRecDepth 100000
set_option maxHeartbeats 2000000
/-! While an exception is handled: the end of a list, of zip, of a tuple's taking apart. Own work. -/
namespace EvH
open PySem PySem.Spec PyProof.Rows PySem.Calls HotX
section
variable {prog : Program} {w : World} {A : Around} {E : Value → Shared → Prop} {s : Shared}
/-- StopIteration is made and raised -/
theorem stop_hot {al : Type} {x1 : Addr} {Q : al → Shared → Prop} (hot : HotAt A x1 s.heap)
    (hE : ∀ h' e, (∀ b o, s.heap.get? b = some o → h'.get? b = some o) → (∃ o, h'.get? e = some o ∧ o.cls = .type "StopIteration") → s.heap.objs.size ≤ e → E (.ref e) { s with heap := h' }) :
    wpAny (model prog w) A ((newExc (.type "StopIteration") [] >>= fun e => raiseNew e) : Sem al) Q E s := by
  obtain ⟨hh, ob, ws, g1, g2, g3⟩ := hot
  refine wpAny_bind ?_
  simp only [newExc, newTuple]
  refine wpAny_bind (wpAny_newObj_type ?_ (by size_fits))
  refine wpAny_bind (m := firstArgMember _ _) (wpAny_of_eq (a := Value.none) (by first | rfl | (simp only [firstArgMember]; rfl)) ?_)
  refine wpAny_newObj_type ?_ (by size_fits)
  have k2 : ∀ {t1 t2 : Obj} {b : Addr} {o : Obj}, s.heap.get? b = some o → ((s.heap.push t1).push t2).get? b = some o := fun e => Heap.get?_push_of_some _ (Heap.get?_push_of_some _ e)
  refine raiseNew_hot ⟨hh, ob, ws, k2 g1, g2, g3⟩ (Nat.ne_of_lt (Heap.lt_size (Heap.get?_push_of_some _ g1))) (Heap.get?_push_size _ rfl) rfl (by first | (simp; done) | (simp; omega) | (simp only [Array.size_append]; simp; omega)) ?_
  refine hE _ _ (fun b o e => ?_) ⟨_, Heap.get?_update_self _ (Heap.get?_push_size _ rfl) rfl, rfl⟩ ?_
  · rw [Heap.get?_update_other _ _ (Nat.ne_of_gt (Heap.lt_size (Heap.get?_push_of_some _ e)))]
    exact k2 e
  · exact Nat.le_of_lt (by rw [Heap.size_push]; exact Nat.lt_succ_self _)
theorem list_end {it l x1 : Addr} {i : Nat} {items : Array Value} {Q : Value → Shared → Prop} (hot : HotAt A x1 s.heap) (hit : s.heap.IsListIter it l i) (hl : s.heap.IsList l items) (hx : items[i]? = none) (hne : x1 ≠ it)
    (hE : ∀ h' e, Heap.ExtBut it s.heap h' → (∃ o, h'.get? e = some o ∧ o.cls = .type "StopIteration") → E (.ref e) { s with heap := h' }) :
    wpAny (model prog w) A (Builtin.SmallTypes.nextOf (.ref it)) Q E s := by
  obtain ⟨oi, hi, ci, di⟩ := id hit
  obtain ⟨ol, lo, _, nl, dl⟩ := hl
  unfold Builtin.SmallTypes.nextOf
  refine wpAny_bind (wpAny_callSpecial?_slot (name := Str.ofString "__next__") hit.typeIs slot_listiter_next (wpAny_call_entry slot_listiter_next hit.typeIs entry_listiter_next ?_ (args_listiter_next _)))
  show wpAny _ _ (field (.ref it) 0 >>= _) _ _ s
  refine wpAny_bind (wpAny_field hi di (x := .ref l) rfl ?_)
  show wpAny _ _ (if (Value.ref l == Value.none) = true then _ else _) _ _ s
  rw [if_neg (show ¬ ((Value.ref l == Value.none) = true) from Bool.false_ne_true)]
  show wpAny _ _ (field (.ref it) 1 >>= _) _ _ s
  refine wpAny_bind (wpAny_field hi di (x := .int i 0) rfl ?_)
  show wpAny _ _ (seqItems? (.ref l) >>= _) _ _ s
  refine wpAny_bind (wpAny_seqItems lo dl ?_)
  simp only [Int.toNat_natCast, hx]
  refine wpAny_bind (wpAny_rule (wpAny_bind (wpAny_setField hi di (by simp) ?_)))
  obtain ⟨hh, ob, ws, g1, g2, g3⟩ := hot
  have up : ∀ {b : Addr} {o : Obj}, b ≠ it → s.heap.get? b = some o → (s.heap.update it (Obj.mapFields fun vs => vs.setIfInBounds 0 .none)).get? b = some o := fun {b o} hb e => by
    rw [Heap.get?_update_other _ _ (Ne.symm hb)]
    exact e
  refine stop_hot ⟨hh, ob, ws, up hne g1, g2, g3⟩ fun h' e k st _ => hE h' e (fun b o hb q => k b o (up hb q)) st
/-- zip's end, at its first list's -/
theorem zip_end {z TI TO i1 i2 l1 l2 x1 : Addr} {k1 : Nat} {xs : Array Value} {a b : Value} {Q : Option Value → Shared → Prop} (hot : HotAt A x1 s.heap) (D : ZipApart z TI TO i1 i2 l1 l2)
    (hz : IsZip s.heap z TI TO .none) (hTI : IsPair s.heap TI (.ref i1) (.ref i2)) (hTO : IsPair s.heap TO a b)
    (h1 : s.heap.IsListIter i1 l1 k1) (hl1 : s.heap.IsList l1 xs) (hend : xs[k1]? = none) (nz : x1 ≠ z) (n1 : x1 ≠ i1)
    (hQ : ∀ h', (∀ c o, c ≠ z → c ≠ TO → c ≠ i1 → c ≠ i2 → s.heap.get? c = some o → h'.get? c = some o) → Q none { s with heap := h' }) : wpAny (model prog w) A (pyNext (.ref z)) Q E s := by
  have hT : s.TypeIs (.ref z) "zip" := ⟨_, hz, rfl⟩
  unfold pyNext
  refine wpAny_bind (wpAny_attempt (wpAny_callSpecial?_slot (name := Str.ofString "__next__") hT F.slot_zip_next (wpAny_call_entry F.slot_zip_next hT F.entry_zip_next ?_ (F.args_zip_next_1 _))))
  show wpAny _ _ (field (.ref z) 2 >>= _) _ _ _
  refine wpAny_bind (wpAny_field hz rfl (x := .bool false) rfl ?_)
  show wpAny _ _ (field (.ref z) 3 >>= _) _ _ _
  refine wpAny_bind (wpAny_field hz rfl (x := .ref TI) rfl ?_)
  refine wpAny_bind (wpAny_seqItems hTI rfl ?_)
  show wpAny _ _ (Builtin.SmallTypes.ownedTupleIsFree (.ref z) >>= _) _ _ _
  refine wpAny_bind ?_
  unfold Builtin.SmallTypes.ownedTupleIsFree
  refine wpAny_bind (wpAny_field hz rfl (x := .none) rfl (wpAny_pure ?_))
  simp only [if_true]
  refine wpAny_bind (wpAny_rule ?_)
  refine wpAny_bind (wpAny_field hz rfl (x := .ref TO) rfl ?_)
  refine wpAny_bind (wpAny_setField_rec hz (by simp) fun ha qz sa => ?_)
  replace qz : IsZip ha z TI TO .ellipsis := qz
  refine wpAny_bind ?_
  simp only [List.zipIdx_cons, List.zipIdx_nil, List.forIn_cons, List.forIn_nil]
  refine wpAny_bind (wpAny_bind (wpAny_onRaise ?_))
  show wpAny _ _ (Builtin.SmallTypes.nextOf (.ref i1) >>= _) _ _ _
  obtain ⟨hh, ob, ws, g1, g2, g3⟩ := hot
  refine wpAny_bind (list_end ⟨hh, ob, ws, sa.extBut _ _ nz g1, g2, g3⟩ (h1.extBut sa.extBut D.i1z) (hl1.extBut sa.extBut D.l1z) hend n1 fun hb e sb he => ?_)
  obtain ⟨oe, hoe, hce⟩ := he
  have qz2 : IsZip hb z TI TO .ellipsis := sb _ _ D.i1z.symm qz
  have hez : e ≠ z := fun x => by subst x; rw [qz2] at hoe; cases hoe; simp at hce
  refine wpAny_setField_rec qz2 (by simp) fun hc _ sc => ?_
  refine wpAny_bind (wpAny_isInstance (T := "StopIteration") (b := true) ⟨oe, sc.extBut _ _ hez hoe, hce⟩ isSubtype_stop ?_)
  exact wpAny_pure (hQ _ fun c o c1 _ c3 _ x => sc.extBut _ _ c1 (sb _ _ c3 (sa.extBut _ _ c1 x)))
theorem tup_end {it t x1 : Addr} {i : Nat} {items : Array Value} {Q : Option Value → Shared → Prop} (hot : HotAt A x1 s.heap) (hit : IsTupIter s.heap it t i) (ht : IsTup s.heap t items) (hx : items[i]? = none) (hne : x1 ≠ it)
    (hQ : ∀ h', Heap.ExtBut it s.heap h' → Q none { s with heap := h' }) : wpAny (model prog w) A (pyNext (.ref it)) Q E s := by
  obtain ⟨oi, hi, ci, di⟩ := id hit
  obtain ⟨ol, lo, _, nl, dl⟩ := ht
  unfold pyNext
  refine wpAny_bind (wpAny_attempt (wpAny_callSpecial?_slot (name := Str.ofString "__next__") hit.typeIs slot_tupleiter_next (wpAny_call_entry slot_tupleiter_next hit.typeIs entry_tupleiter_next ?_ (args_tupleiter_next _))))
  show wpAny _ _ (field (.ref it) 0 >>= _) _ _ s
  refine wpAny_bind (wpAny_field hi di (x := .ref t) rfl ?_)
  show wpAny _ _ (if (Value.ref t == Value.none) = true then _ else _) _ _ s
  rw [if_neg (show ¬ ((Value.ref t == Value.none) = true) from Bool.false_ne_true)]
  show wpAny _ _ (field (.ref it) 1 >>= _) _ _ s
  refine wpAny_bind (wpAny_field hi di (x := .int i 0) rfl ?_)
  show wpAny _ _ (seqItems? (.ref t) >>= _) _ _ s
  refine wpAny_bind (wpAny_seqItems lo dl ?_)
  simp only [Int.toNat_natCast, hx]
  refine wpAny_bind (wpAny_rule (wpAny_bind (wpAny_setField hi di (by simp) ?_)))
  obtain ⟨hh, ob, ws, g1, g2, g3⟩ := hot
  have up : ∀ {b : Addr} {o : Obj}, b ≠ it → s.heap.get? b = some o → (s.heap.update it (Obj.mapFields fun vs => vs.setIfInBounds 0 .none)).get? b = some o := fun {b o} hb e => by
    rw [Heap.get?_update_other _ _ (Ne.symm hb)]
    exact e
  refine stop_hot ⟨hh, ob, ws, up hne g1, g2, g3⟩ fun h' e k st _ => ?_
  obtain ⟨oe, q1, q2⟩ := st
  refine wpAny_bind (wpAny_isInstance (T := "StopIteration") (b := true) ⟨oe, q1, q2⟩ isSubtype_stop ?_)
  exact wpAny_pure (hQ _ fun b o hb q => k b o (up hb q))
theorem unpack_hot {t x1 : Addr} {items : Array Value} {Q : List Value → Shared → Prop} (hot : HotAt A x1 s.heap) (ht : IsTup s.heap t items)
    (hQ : ∀ h', Heap.ExtBut s.heap.objs.size s.heap h' → Q items.toList { s with heap := h' }) : wpAny (model prog w) A (unpackItems (.ref t) items.size none) Q E s := by
  have hlt : t ≠ s.heap.objs.size := by obtain ⟨o, ho, _⟩ := ht; exact Nat.ne_of_lt (Heap.lt_size ho)
  obtain ⟨hh, ob, ws, g1, g2, g3⟩ := hot
  have hx1 : x1 ≠ s.heap.objs.size := Nat.ne_of_lt (Heap.lt_size g1)
  unfold unpackItems
  refine wpAny_bind ?_
  unfold notIterableAtAll
  refine wpAny_bind (wpAny_specialOf ht.typeIs slot_tuple_iter.lookup ?_)
  refine wpAny_pure ?_
  simp only [Bool.false_eq_true, if_false]
  refine wpAny_bind (wpAny_holding (iter_tuple ht ?_))
  refine wpAny_bind (wpAny_holding (draw_tuple hlt items.size 0 _ _ ⟨_, Heap.get?_push_size _ rfl, rfl, rfl⟩ (ht.push _) (by omega) fun ha ia sa => ?_))
  have hall : List.take items.size (List.drop 0 items.toList) = items.toList := by
    rw [List.drop_zero]; exact List.take_of_length_le (by simp)
  rw [hall, if_neg (by simp)]
  have ta : IsTup ha t items := (ht.push _).extBut sa.extBut hlt
  refine wpAny_bind (wpAny_holding (tup_end ⟨hh, ob, ws, sa.extBut _ _ hx1 (Heap.get?_push_of_some _ g1), g2, g3⟩ ia ta (by simp) hx1 fun hb eb => ?_))
  simp only [Option.isSome_none, Bool.false_eq_true, if_false]
  refine wpAny_pure (hQ hb fun b o hb' e => eb b o hb' (sa.extBut b o hb' (Heap.get?_push_of_some _ e)))
theorem assign_hot {env : PySem.Env} {elts : List Expr} {k : Nat} {pos : Pos} {t x1 : Addr} {items : Array Value} {Q : Unit → Shared → Prop} (hot : HotAt A x1 s.heap) (ht : IsTup s.heap t items)
    (hn : (assignEach elts env).length = items.size) (hstar : (assignEach elts env).findIdx? (·.1) = none)
    (h : ∀ h', Heap.ExtBut s.heap.objs.size s.heap h' → wpAny (model prog w) A (assignInOrder ((assignEach elts env).map (·.2)) items.toList) Q E { s with heap := h' }) :
    wpAny (model prog w) A (assign (.Tuple elts k pos) env (.ref t)) Q E s := by
  rw [assign_Tuple]
  refine wpAny_bind (wpAny_standAt ?_)
  unfold unpack
  rw [hn, hstar]
  exact wpAny_bind (wpAny_holding (unpack_hot hot ht h))
end
end EvH

set_option Elab.async false
set_option linter.all false
set_option autoImplicit false
set_option maxRecDepth 100000
set_option maxHeartbeats 4000000
/-! While an exception is handled: tuples taken apart, a comprehension over zip of two lists. Own work. -/
namespace EvH
open PySem PySem.Spec PyProof.Rows L2 L2H HotX
theorem pg_tupH {X : Cx} {pos : Pos} {es : List Expr} {k n : Nat} {t : TGs} (hc : HotC X) (h : PGs X es t) (hn : (assignEach es X.env).length = n) (hst : (assignEach es X.env).findIdx? (·.1) = none) : PG X (.Tuple es k pos) (gTup X.K n t) := by
  refine ⟨fun pins s σ H v u Q I r hw => ?_⟩
  obtain ⟨a, xs, rfl, hq, hl, hw⟩ := hw
  cases r
  obtain ⟨its, rv, ht, hz⟩ := I.tuple hq
  obtain ⟨x1, hot⟩ := hc.at I
  refine assign_hot hot ht (by simp [hn, ← hl, rv.length]) hst fun h' hx => ?_
  have I1 : L2.Inv X pins σ H { s with heap := h' } := I.kept (t' := s.toks) fun b o e => hx b o (Nat.ne_of_lt (Heap.lt_size e)) e
  exact h.run pins _ σ H xs _ Q I1 (by simpa using rv) hw
/-- two lists side by side, the first the shorter or as long -/
def ItzH (K : PySem.W.Frag) (a b : Addr) : It :=
  ⟨(Itz K a b).go, (Itz K a b).yld, fun i H => ∃ xs ys : List V, SqL K H a xs ∧ SqL K H b ys ∧ xs.length ≤ i⟩
theorem turn_zipH {P : Program} {w : World} {K : PySem.W.Frag} {elts : List Expr} {kk : Nat} {tpos : Pos} {a b z TI TO i1 i2 : Addr} (D : ZipApart z TI TO i1 i2 a b) :
    TurnH P w K (.Tuple elts kk tpos) (ItzH K a b) [z, TI, TO, i1, i2] z (fun i h => IsZip h z TI TO .none ∧ IsPair h TI (.ref i1) (.ref i2) ∧ (∃ x y, IsPair h TO x y) ∧ h.IsListIter i1 a i ∧ h.IsListIter i2 b i) where
  mem := by simp
  obj := (turn_zip (P := P) (w := w) (K := K) (elts := elts) (kk := kk) (tpos := tpos) D).obj
  keep := (turn_zip (P := P) (w := w) (K := K) (elts := elts) (kk := kk) (tpos := tpos) D).keep
  item := by
    intro X hP hw hK hc i pins s σ H E I hf st hg
    subst hP hw hK
    obtain ⟨hz, hTI, ⟨x0, y0, hTO⟩, h1, h2⟩ := st
    obtain ⟨xs, ys, x, y, hqx, hqy, hx, hy⟩ := hg
    obtain ⟨its, rv, p, _⟩ := I.list hqx
    obtain ⟨its2, rv2, p2, _⟩ := I.list hqy
    obtain ⟨u, hu, ru⟩ := rv.get hx
    obtain ⟨u2, hu2, ru2⟩ := rv2.get hy
    have hzl : z < s.heap.objs.size := Heap.lt_size hz
    refine wpAny_pyNext_zip_item D hz hTI hTO h1 h2 p.isList p2.isList (x := u) (y := u2) (by simpa using hu) (by simpa using hu2) fun ha za TOa h1a h2a hTa _ ka => ?_
    refine ⟨_, rfl, wpAny_letOwnedTupleGo_zip (s := { s with heap := ha }) za fun hb zb sb => ?_⟩
    have hT2 : hb.get? s.heap.objs.size = some { cls := .type "tuple", data := .seq #[u, u2] } := (sb.2 _ (Nat.ne_of_gt hzl)).trans hTa
    have new : ObjOk X.prog X.w (upd H s.heap.objs.size (.tup [x, y])) hb s.heap.objs.size (.tup [x, y]) :=
      ⟨by show 2 ≤ sizeLine; decide, [u, u2], .cons ru (.cons ru2 .nil), ⟨_, hT2, rfl, _, rfl⟩⟩
    have I1 : L2.Inv X pins σ (upd H s.heap.objs.size (.tup [x, y])) { s with heap := hb } :=
      I.turnedNew (t' := s.toks) (ch := [z, TI, TO, i1, i2]) (fun c o nb q => (sb.2 c (fun e => nb (by simp [e]))).trans (ka c o (fun e => nb (by simp [e])) (fun e => nb (by simp [e])) (fun e => nb (by simp [e])) (fun e => nb (by simp [e])) q)) hf (Nat.le_refl _) new
    refine ⟨.ref s.heap.objs.size, _, I1, rfl, ⟨_, x, y, rfl, I.hok.fresh (Nat.le_refl _), rfl, fun l hl => by rw [I.list_inj hl hqx]; exact hx, fun l hl => by rw [I.list_inj hl hqy]; exact hy⟩, ⟨zb, ?_, ⟨u, u2, ?_⟩, ?_, ?_⟩, fun c hcm => ?_⟩
    · exact (sb.2 _ D.TIz).trans (ka _ _ D.TIz D.TITO D.TIi1 D.TIi2 hTI)
    · exact (sb.2 _ D.TOz).trans TOa
    · exact h1a.at fun o q => (sb.2 _ D.i1z).trans q
    · exact h2a.at fun o q => (sb.2 _ D.i2z).trans q
    · have hlt : c < s.heap.objs.size := by
        have e' : c = z ∨ c = TI ∨ c = TO ∨ c = i1 ∨ c = i2 := by simpa using hcm
        rcases e' with q | q | q | q | q
        · rw [q]; exact hzl
        · rw [q]; exact Heap.lt_size hTI
        · rw [q]; exact Heap.lt_size hTO
        · rw [q]; obtain ⟨_, e1, _⟩ := h1; exact Heap.lt_size e1
        · rw [q]; obtain ⟨_, e2, _⟩ := h2; exact Heap.lt_size e2
      rw [upd_ne (Nat.ne_of_lt hlt)]
      exact (hf c hcm).1
  done := by
    intro X hP hw hK hc i pins s σ H E I hf st hg
    subst hP hw hK
    obtain ⟨hz, hTI, ⟨x0, y0, hTO⟩, h1, h2⟩ := st
    obtain ⟨xs, ys, hqx, hqy, hend⟩ := hg
    obtain ⟨its, rv, p, _⟩ := I.list hqx
    have l1 := rv.length
    obtain ⟨q, ⟨hh, vs, e1, c1⟩, hq⟩ := hc
    have nq : ∀ c ∈ [z, TI, TO, i1, i2], q.1 ≠ c := fun c hcm => (hf c hcm).2.2.2.2.2 q (List.mem_append_left _ hq)
    exact zip_end ⟨hh, q.2, vs, (I.pin q (List.mem_append_left _ hq)).1, e1, c1⟩ D hz hTI hTO h1 p.isList (by simp; omega) (nq z (by simp)) (nq i1 (by simp)) fun h' hk => ⟨rfl, I.turnedL (t' := s.toks) (ch := [z, TI, TO, i1, i2]) (fun c o nb e =>
      hk c o (fun y => nb (by simp [y])) (fun y => nb (by simp [y])) (fun y => nb (by simp [y])) (fun y => nb (by simp [y])) e) hf⟩
  self := fun A i s Q E st h => wpAny_pyIter_zip st.1 h
def iZipH (K : PySem.W.Frag) (ta : TA) : TI := fun σ H R => ta σ H fun vs H1 => ∃ a b xs ys, vs = [.ref a, .ref b] ∧ SqL K H1 a xs ∧ SqL K H1 b ys ∧ R (ItzH K a b) H1
theorem pi_zipH {X : Cx} {e e2 : Expr} {ta : TA} {p pos tpos : Pos} {elts : List Expr} {kk : Nat} (hg : Gl X "zip") (hm : X.mg "zip" = none) (ha : PA X [e, e2] ta)
    (hs : starEach [e, e2] X.env = (false, eval e X.env) :: starEach [e2] X.env) (hpl : (backTo pos (starEach [e2] X.env)).any (·.1) = false) :
    PIH X (.Tuple elts kk tpos) (.Call (.Name "zip" p) [e, e2] [] pos) (iZipH X.K ta) := by
  refine ⟨fun pins s σ H R I h => ?_⟩
  refine Call_ (ld_blt I hg hm PyProof.Rows.boot_zip (PyProof.Rows.callWith_type1 (thn (ha.run pos pins s σ H _ I h) fun us s1 ⟨vs, H1, I1, r1, q1⟩ => ?_) hs hpl))
  obtain ⟨a, b, xs, ys, rfl, hqx, hqy, q⟩ := q1
  cases r1 with
  | cons r rr =>
    cases rr with
    | cons r' rr =>
      cases rr
      cases r
      cases r'
      obtain ⟨its, rv, p1, _⟩ := I1.list hqx
      obtain ⟨its2, rv2, p2, _⟩ := I1.list hqy
      refine call_zip_2 p1.isList p2.isList fun h' hz hTI hTO h1 h2 hsz hk => wpAny_pyIter_zip hz ?_
      have I2 : L2.Inv X pins σ H1 { s1 with heap := h' } := I1.kept (t' := s1.toks) hk
      refine ⟨s1.heap.objs.size + 4, [s1.heap.objs.size + 4, s1.heap.objs.size + 2, s1.heap.objs.size + 3, s1.heap.objs.size, s1.heap.objs.size + 1], _, _, H1, rfl, I2, turn_zipH (PySem.W.ktu_apart s1.heap.objs.size a b p1.lt p2.lt), ⟨hz, hTI, ⟨_, _, hTO⟩, h1, h2⟩, fun c hcm => ?_, q⟩
      have hle : s1.heap.objs.size ≤ c := by
        have e' : c = s1.heap.objs.size + 4 ∨ c = s1.heap.objs.size + 2 ∨ c = s1.heap.objs.size + 3 ∨ c = s1.heap.objs.size ∨ c = s1.heap.objs.size + 1 := by simpa using hcm
        rcases e' with z | z | z | z | z <;> rw [z] <;> first | exact Nat.le_add_right _ _ | exact Nat.le_refl _
      exact I1.fpOk hle (I1.hok.fresh hle)
end EvH

set_option Elab.async false
set_option linter.all false
set_option autoImplicit false
set_option maxRecDepth 100000
set_option maxHeartbeats 8000000
/-! While an exception is handled: a list comprehension. Own work. -/
namespace EvH
open PySem PySem.Spec PyProof.Rows L2 L2H HotX
/-- the block, the handled exception pinned -/
abbrev blkH (X : Cx) (p : Addr × Obj) (s : Shared) (H : Hp) (scope : Scope) (cenv : PySem.Env) (fp : List Addr) : Cx := { X.blk s H scope cenv fp with pn := [p] }
theorem okH {X : Cx} {p : Addr × Obj} {s : Shared} {H : Hp} {scope : Scope} {cenv : PySem.Env} {fp : List Addr} (ok : (X.blk s H scope cenv fp).Ok) : (blkH X p s H scope cenv fp).Ok :=
  ⟨ok.mod, ok.kind, ok.glob, ok.blt, ok.above, ok.inj, ok.has, ok.cab, ok.hd, ok.frames, ok.stk, ok.exf, ok.bs, ok.bsz, ok.noex, ok.exfs, ok.funs, ok.frf⟩
theorem lcH {X : Cx} {p : Addr × Obj} {elt tg iter : Expr} {ifs : List Expr} {scope : Scope} {own : List (Str × Nat)} {pos : Pos} {wi : TI} {g : TG} {tt : TT} {te : TE} (hp : Hot1 X.A p) (hm : p ∈ X.pn) (hN : X.N.Nodup) (hi : PIH X tg iter wi) (ok : BlkOk X.N X.env.scope scope own)
    (hg : ∀ (s : Shared) (H : Hp) (C : Addr) (cl : List (Str × Addr)) (fp : List Addr), PG (blkH X p s H scope (compEnvC scope cl C X.env) fp) tg g)
    (ht : ∀ (s : Shared) (H : Hp) (C : Addr) (cl : List (Str × Addr)) (fp : List Addr), PTs (blkH X p s H scope (compEnvC scope cl C X.env) fp) ifs tt)
    (he : ∀ (s : Shared) (H : Hp) (C : Addr) (cl : List (Str × Addr)) (fp : List Addr), PE (blkH X p s H scope (compEnvC scope cl C X.env) fp) elt te) (hs : ∀ x, foldedSetIterable iter X.env x = pure x) :
    PE X (.ListComp elt [⟨tg, iter, ifs, 0⟩] scope pos) (tLc wi g tt te (own.map (·.2))) := by
  refine ⟨fun pins s σ H Q I h => ?_⟩
  rw [eval_ListComp]
  have cells : ∀ y ∈ scope.names, y.2 = .free → ∃ c, X.env.cells.lookup y.1 = some c := fun y hy e => (ok.free y hy e).elim (fun k => I.ok.has _ (.inl k)) (fun k => I.ok.has _ (.inr k))
  refine wpAny_comprehension_free (use := none) rfl hs (closure_ok cells) ok.kind (fun y hy e => by rw [ok.uniq y hy, e]) (thn (hi.run pins s σ H _ I h) fun xv sa hx => thn hx fun itv sb hb => ?_)
  obtain ⟨it, fp, tn, J, Hb, rfl, Ib, T, stb, fb, q⟩ := hb
  refine wpAny_newObj_type (newEnv_comp ?_) (by show 0 ≤ sizeLine; decide)
  generalize hL : sb.heap.objs.size = L0
  have nL : Hb L0 = none := Ib.hok.fresh (Nat.le_of_eq hL)
  obtain ⟨W, ⟨m0, w0⟩, turn⟩ := q L0 nL
  generalize es3 : ({ sb with heap := sb.heap.push { cls := .type "list", data := .seq ([] : List Value).toArray } } : Shared) = s3
  have I3 : L2.Inv X pins σ (upd Hb L0 (.lst [])) s3 := by
    rw [← es3]
    refine Ib.laid (t' := sb.toks) (fun b o e => Heap.get?_push_of_some _ e) (Nat.le_of_eq hL) ⟨Nat.zero_le _, [], 0, .nil, ?_⟩
    rw [← hL]
    exact Heap.get?_push_size _ rfl
  have eh : s3.heap = sb.heap.push { cls := .type "list", data := .seq ([] : List Value).toArray } := by rw [← es3]
  have fpl : ∀ b ∈ fp, b < sb.heap.objs.size := fun b hb => by
    obtain ⟨o, e, _⟩ := T.obj _ _ stb b hb
    exact Heap.lt_size e
  have f3 : ∀ b ∈ fp, FpOk X pins (upd Hb L0 (.lst [])) b ∧ b < s3.heap.objs.size := fun b hb => by
    refine ⟨⟨?_, (fb b hb).2⟩, by rw [eh, Heap.size_push]; exact Nat.lt_succ_of_lt (fpl b hb)⟩
    rw [upd_ne (by rw [← hL]; exact Nat.ne_of_lt (fpl b hb))]
    exact (fb b hb).1
  have st3 : tn 0 s3.heap := T.keep _ _ _ stb fun b _ o e => by rw [eh]; exact Heap.get?_push_of_some _ e
  have B4 := block_start I3 ok hN f3
  generalize hcl : cellsFrom (s3.heap.objs.size + 1) scope.names (cloFrom X.env.cells scope.names []) = cl at B4 ⊢
  have pg := hg s3 (upd Hb L0 (.lst [])) s3.heap.objs.size cl fp
  have pt := ht s3 (upd Hb L0 (.lst [])) s3.heap.objs.size cl fp
  have pe := he s3 (upd Hb L0 (.lst [])) s3.heap.objs.size cl fp
  show codeAny _ _ (.compStart (.ListComp elt [⟨tg, iter, ifs, 0⟩] scope pos) 0 (.ref it) (.ref L0) (compEnvC scope cl s3.heap.objs.size X.env)) (compPost (model X.prog X.w) X.A X.xe none (EP X pins σ Q) (.ref L0) s3.heap.objs.size) { s3 with heap := pushCells (s3.heap.push { cls := .type "dict", data := .dict #[] }) scope.names }
  have nfp : ∀ b ∈ fp, (upd Hb L0 (.lst [])) b = none := fun b hb => (f3 b hb).1.1
  generalize hce : compEnvC scope cl s3.heap.objs.size X.env = ce at B4 pg pt pe ⊢
  have cL : ce.locals = s3.heap.objs.size := by subst hce; rfl
  generalize eH3 : upd Hb L0 (.lst []) = H3 at I3 B4 pg pt pe w0 nfp f3
  generalize es4 : ({ s3 with heap := pushCells (s3.heap.push { cls := .type "dict", data := .dict #[] }) scope.names } : Shared) = s4 at B4 ⊢
  have keep4 : ∀ b o, s3.heap.get? b = some o → s4.heap.get? b = some o := fun b o e => by rw [← es4]; exact pushCells_keeps _ _ _ _ (Heap.get?_push_of_some _ e)
  have P3 := I3.pin p (List.mem_append_left _ hm)
  have I4 : L2.Inv (blkH X p s3 H3 scope ce fp) [] (wipe σ (own.map (·.2))) H3 s4 := by
    refine ⟨okH B4.ok, B4.os, B4.bare, B4.base, B4.loc, B4.cell, B4.free, B4.freeC, fun r hr => ?_, B4.hok, B4.len⟩
    have er : r = p := by simpa using (show r ∈ [p] ++ ([] : List (Addr × Obj)) from hr)
    subst er
    refine ⟨keep4 _ _ P3.1, P3.2.1, ?_, fun hmf => (List.mem_cons.mp (I3.stkSub r.1 hmf)).elim P3.2.2.1 P3.2.2.2.1, P3.2.2.2.2⟩
    show r.1 ≠ ce.locals
    rw [cL]
    exact Nat.ne_of_lt (Heap.lt_size P3.1)
  have st4 : tn 0 s4.heap := T.keep _ _ _ st3 fun b _ o e => keep4 b o e
  have hotB : HotC (blkH X p s3 H3 scope ce fp) := ⟨p, hp, List.mem_singleton.mpr rfl⟩
  have pfp : ∀ b ∈ fp, p.1 ≠ b := fun b hb => (f3 b hb).1.2.2.2.2.2 p (List.mem_append_left _ hm)
  have stat : ∀ {σ' : L2.St} {H' : Hp} {s' : Shared}, L2.Inv (blkH X p s3 H3 scope ce fp) [] σ' H' s' → (∀ b ∈ fp, H' b = none) → ∀ b ∈ fp, FpOk (blkH X p s3 H3 scope ce fp) [] H' b := fun {σ' H' s'} I' hn b hb =>
    ⟨hn b hb, (I'.ok.exf b hb).1, I'.ok.exfs b hb, .inl hb, fun x c e => (I'.ok.exf b hb).2 x c e, fun r hr => by
      have er : r = p := by simpa using (show r ∈ [p] ++ ([] : List (Addr × Obj)) from hr)
      rw [er]
      exact pfp b hb⟩
  have loop : codeAny (model X.prog X.w) X.A (.compLoop (.ListComp elt [⟨tg, iter, ifs, 0⟩] scope pos) 0 (.ref it) (.ref L0) ce) (compPost (model X.prog X.w) X.A X.xe none (EP X pins σ Q) (.ref L0) s3.heap.objs.size) s4 := by
    refine compLoop_any (fun n s' => ∃ i H', L2.Inv (blkH X p s3 H3 scope ce fp) [] (wipe σ (own.map (·.2))) H' s' ∧ tn i s'.heap ∧ (∀ b ∈ fp, H' b = none) ∧ W i n H') ?_ m0 ⟨0, H3, I4, st4, nfp, w0⟩
    rintro n s5 ⟨i, H5, I5, st5, n5, w5⟩
    rcases turn i n H5 w5 with ⟨stop, fin5⟩ | ⟨go, Nx, hNx, step⟩
    · refine thnF (T.done (blkH X p s3 H3 scope ce fp) rfl rfl rfl hotB i [] s5 _ H5 (fun _ _ => False) I5 (stat I5 n5) st5 stop) fun r s6 ⟨hr, I6⟩ => ?_
      subst hr
      have I7 : L2.Inv X pins σ H5 s6 := I3.call' (ch := fp) I6.os I6.base I6.hok I6.bare fun b hb => ⟨(f3 b hb).1.2.2.2.1, (f3 b hb).1.2.1, (f3 b hb).1.2.2.2.2.1, (f3 b hb).1.2.2.2.2.2⟩
      have nC : H5 s3.heap.objs.size = none := by rw [← cL]; exact I6.free
      obtain ⟨m, hns, _⟩ := I6.loc
      have hns : s6.heap.Ns ce.locals m := hns
      rw [cL] at hns
      obtain ⟨g0, g1, g2, g3, g4, g5⟩ := I3.fpOk (Nat.le_refl _) nC
      refine ⟨m, hns, fun h2 sb2 => ?_⟩
      exact ⟨.ref L0, H5, I7.turned (t' := s6.toks) (fun b o hb e => (sb2.2 b hb).trans e) g0 g1 g3 g4 g5, rfl, fin5⟩
    · refine thnF (T.item (blkH X p s3 H3 scope ce fp) rfl rfl rfl hotB i [] s5 _ H5 (fun _ _ => False) I5 (stat I5 n5) st5 go) fun r s6 ⟨u, hr, h6⟩ => ?_
      subst hr
      refine thnF h6 fun _ s7 ⟨x, H7, I7, r7, y7, st7, n7⟩ => ?_
      have J7 := I7.pinned (stat I7 n7) (T.obj _ _ st7)
      refine thnF (pg.run _ s7 _ H7 x u _ J7 r7 (step x H7 y7)) fun _ s8 ⟨σ8, H8, I8, hw8, q8⟩ => ?_
      refine thnF (pt.run _ s8 σ8 H8 _ I8 q8) fun b s9 ⟨H9, I9, q9⟩ => ?_
      have close : ∀ {s' : Shared} {H' : Hp}, L2.Inv (blkH X p s3 H3 scope ce fp) ([] ++ pinsAt fp s7.heap) σ8 H' s' → Nx H' → ∃ m, m < n ∧ ∃ i H', L2.Inv (blkH X p s3 H3 scope ce fp) [] (wipe σ (own.map (·.2))) H' s' ∧ tn i s'.heap ∧ (∀ b ∈ fp, H' b = none) ∧ W i m H' := fun {s' H'} I' nx => by
        obtain ⟨m', hlt, w'⟩ := hNx H' nx
        have pin' : ∀ b ∈ fp, ∀ o, s7.heap.get? b = some o → s'.heap.get? b = some o ∧ H' b = none := fun b hb o e => by
          have z := I'.pin (b, o) (List.mem_append_right _ (List.mem_append_right _ (mem_pinsAt hb e)))
          exact ⟨z.1, z.2.1⟩
        have hl : (wipe σ (own.map (·.2))).length = σ8.length := by rw [← hw8, wipe_length]
        refine ⟨m', hlt, i + 1, H', (I'.unpinned (pins := [])).weak hl (fun j v e => ?_), T.keep _ _ _ st7 fun b hb o e => (pin' b hb o e).1, fun b hb => ?_, w'⟩
        · rw [← hw8] at e
          exact (wipe_some e).1
        · obtain ⟨o, e, _⟩ := T.obj _ _ st7 b hb
          exact (pin' b hb o e).2
      cases b with
      | false =>
        simp only [Bool.false_eq_true, if_false] at q9 ⊢
        exact close I9 q9
      | true =>
        simp only [if_true] at q9 ⊢
        refine thnF (pe.run _ s9 σ8 H9 _ I9 q9) fun z s10 ⟨yv, H10, I10, r10, acc, hD10, hz10, nx⟩ => ?_
        exact app_ok (X := blkH X p s3 H3 scope ce fp) I10 hD10 hz10 r10 fun s11 I11 => close I11 nx
  exact codeAny_compStart_list loop (T.self X.A 0 _ _ _ st4 loop)
end EvH

set_option Elab.async false
set_option linter.all false
set_option autoImplicit false
set_option maxRecDepth 100000
set_option maxHeartbeats 8000000
/-! While an exception is handled: a def that names its class. Own work. -/
namespace EvH
open PySem PySem.Spec PyProof.Rows L2 L2H HotX
/-- isinstance(e, c), e the handled exception, in a context that pins it -/
theorem call_isP {X : Cx} {a D : Addr} {oe : Obj} (C : ExcC X.K D) (hz : Zc (.ref D) none oe) (hf : ∃ vs, oe.data = .fields vs) (hm : (a, oe) ∈ X.pn) : CallR X (.builtin "isinstance") (rIsE X.K D a) := by
  intro pins s σ H xs us Q I r h
  obtain ⟨c, cv, b, rfl, hcv, e, q⟩ := h
  cases r with
  | cons rx rr =>
    cases rr with
    | cons rt rr =>
      cases rr
      cases rx
      cases hcv _ rt
      obtain ⟨hget, _⟩ := I.pin (a, oe) (List.mem_append_left _ hm)
      obtain ⟨vs, hv⟩ := hf
      have J : PySem.W.InstAt s.heap a oe D none := by
        obtain ⟨oc, od, oda, osl⟩ := oe
        obtain ⟨h1, h2⟩ := hz
        dsimp only at h1 h2 hv
        subst h1 h2 hv
        exact ⟨hget, rfl, rfl, trivial⟩
      exact PySem.W.kia_one (PySem.W.handS_kitx_exc C.hg C.hk C.hs C.hd C.ha C.hn C.ht C.hm) I.kIn J e (fun z => nomatch z) fun tk => ⟨.bl b, H, I.kept (t' := tk) fun _ _ z => z, rfl, q⟩
/-- a def's run within an except suite, its promise told of the very exception -/
theorem run_hot {CX : CXT} {P : Program} {w : World} {K : PySem.W.Frag} {mg : Str → Option Value} {base : Heap} {k : Nat} {f : Addr} {name qual : Str} {params : Arguments} {body : List Stmt} {scope : Scope} {dV kV doc pm cdv ct oc : Value} {an od : Option Addr}
    {osl : Array (Option Value)} {N ps : List Str} (lk : K.lookup f = some ⟨oc, od, .func (PySem.W.fnOf name qual params body scope dV kV doc pm an cdv ct), osl⟩) (hcd : PySem.W.codeIn K cdv qual = true) (S : FnScope N ps scope)
    {A : Around} {outer : List PySem.Env} {s : Shared} {H : Hp} {args : Args} {us : List Value} {vs : List V} {Q : VK} {E : XK} {p : Addr × Obj} (hr : RoomH (k + 1) A) (hot : Hot1 A p) (hpin : PinOk outer H s p) (e0 : Env0 P w K mg base A outer s H)
    (hb : BindsTo s (PySem.W.fnOf name qual params body scope dV kV doc pm an cdv ct) args (ps.zip us)) (r : Vals vs us) (hl : vs.length = ps.length)
    (hbody : RoomH k (A.deeper (envOfC qual scope s.heap.objs.size f cdv)) → ∃ t, PSs (cxH CX P w K mg base N qual scope f cdv A outer s H E p) body t ∧ t { nx := fun _ H' => Q .non H', rt := Q } (L2.start N vs) H) :
    codeAny (model P w) A (.call (.ref f) args) (CR CX outer P w H s Q E) s := by
  have KX : K.In s.heap := e0.mod.kin.keeps fun b o e => (e0.bs b o e).1
  have lim : s.heap.NoLimit := e0.mod.nolimit.keeps fun b o e => (e0.bs b o e).1
  have hkind : ∀ y ∈ ps.zip us, scope.names.lookup y.1 = some .local ∨ (scope.names.lookup y.1 = some .cell ∧ ((cellsFrom (s.heap.objs.size + 1) scope.names []).lookup y.1).isSome = true) := fun ⟨n, v⟩ hy => (S.par n (List.of_mem_zip hy).1).elim .inl fun q => .inr ⟨q, PySem.W.cellsFrom_some _ _ _ (.inl q)⟩
  refine codeAny_call_function hr.depth (KX _ _ lk) rfl S.co S.gen rfl (PySem.W.codeRec_of KX hcd) (hb _ _ _ _ ?_)
  refine wpAny_newFunctionEnv_cells S.kind hkind fun env he s1 x => ?_
  subst he
  refine ⟨lim.keeps x.toInCall.keep, codeAny_func ?_⟩
  obtain ⟨t, ht, hq⟩ := hbody (hr.deeper _)
  have I := inv_startH (CX := CX) (E := E) S hpin e0 hl r x
  refine wpAny_mono (ht.run [] s1 (L2.start N vs) H _ I hq) (fun fl s' hs => ?_) fun e s' hs => hs
  cases fl with
  | brk => obtain ⟨_, _, _, q⟩ := hs; exact False.elim q
  | cont => obtain ⟨_, _, _, q⟩ := hs; exact False.elim q
  | ret u => obtain ⟨v, σ', H', J, rv, q⟩ := hs; exact ⟨v, H', J.os, J.bare, J.base, J.hok, rv, q⟩
  | next => obtain ⟨σ', H', J, q⟩ := hs; exact ⟨V.non, H', J.os, J.bare, J.base, J.hok, rfl, q⟩
/-! ### the body -/
/-- isinstance(e, x), .. for these names -/
def isiB (sc : Scope) (e : Str) : List Expr → List Str → Bool
  | [], [] => true
  | .Call (.Name f _) [.Name e' _, .Name x _] [] _ :: es, y :: xs => f == "isinstance" && e' == e && x == y && Ev.glB sc x && isiB sc e es xs
  | _, _ => false
/-- a, b, c, .. the labels of those that hold -/
def pickL : List Str → List Bool → List Str
  | x :: xs, b :: bs => if b then x :: pickL xs bs else pickL xs bs
  | _, _ => []
structure HotX1 (X : Cx) (D a : Addr) (oe : Obj) (kit : Str → Bool) (xs : List Str) : Prop where
  C : ExcC X.K D
  hz : Zc (.ref D) none oe
  hf : ∃ vs, oe.data = .fields vs
  hm : (a, oe) ∈ X.pn
  hot : Hot1 X.A (a, oe)
  kit : ∀ x ∈ xs, ∃ Dx, X.mg x = some (.ref Dx) ∧ PySem.W.kitOne X.K (.ref D) (.ref Dx) = some (kit x)
  free : X.mg "isinstance" = none ∧ X.mg "zip" = none
theorem HotX1.sub {X : Cx} {D a : Addr} {oe : Obj} {kit : Str → Bool} {xs ys : List Str} (h : HotX1 X D a oe kit xs) (hs : ∀ y ∈ ys, y ∈ xs) : HotX1 X D a oe kit ys :=
  ⟨h.C, h.hz, h.hf, h.hm, h.hot, fun x hx => h.kit x (hs x hx), h.free⟩
section
variable {X : Cx} {D a : Addr} {oe : Obj} {kit : Str → Bool} {e : Str} {i : Nat}
/-- the exception in slot i; the answers -/
def tBs (a : Addr) (i : Nat) (bs : List Bool) : TA := fun σ H Q => σ[i]? = some (some (.ref a)) ∧ Q (bs.map V.bl) H
theorem pa_isi (hN : X.N[i]? = some e) (hv : Ev.visB X.env.scope e = true) (hi : Ev.glB X.env.scope "isinstance" = true) (xs : List Str) : ∀ es : List Expr, isiB X.env.scope e es xs = true → HotX1 X D a oe kit xs → PA X es (tBs a i (xs.map kit)) := by
  have vs := Ev.visB_ok hv
  induction xs with
  | nil =>
    intro es h hx
    cases es with
    | cons c es => cases c <;> simp [isiB] at h
    | nil =>
      refine ⟨fun pos pins s σ H Q I q => ?_⟩
      exact pa_nil.run pos pins s σ H Q I q.2
  | cons y xs ih =>
    intro es h hx
    unfold isiB at h
    split at h
    · rename_i h1
      cases h1
    · rename_i f _ e' _ x _ _ es' y' xs' h1
      cases h1
      simp only [Bool.and_eq_true, beq_iff_eq] at h
      obtain ⟨⟨⟨⟨rfl, rfl⟩, rfl⟩, h4⟩, h5⟩ := h
      have gx := Ev.glB_ok h4
      obtain ⟨Dx, hm, hk⟩ := hx.kit x (List.mem_cons_self ..)
      have P1 : ∀ q, PE X (.Name x q) (tC (.ref Dx)) := fun q => pe_glob (v := .ref Dx) gx.1 hm rfl gx.2
      have P2 : ∀ p1 p2 p3 p4, PE X (.Call (.Name "isinstance" p1) [.Name e' p2, .Name x p3] [] p4) (tCB (rIsE X.K D a) (tCons (tVar i) (tCons (tC (.ref Dx)) tNil))) := fun p1 p2 p3 p4 => pe_callB (call_isP hx.C hx.hz hx.hf hx.hm) (Ev.glB_ok hi).1 hx.free.1 boot_isinstance (pa_cons (pe_var hN vs.1 vs.2.1 vs.2.2) (pa_cons (P1 _) pa_nil)) (by decide +kernel) (Ev.glB_ok hi).2
      have P3 := ih es' h5 (hx.sub fun y hy => List.mem_cons_of_mem _ hy)
      refine ⟨fun pos pins s σ H Q I q => ?_⟩
      obtain ⟨q1, q2⟩ := q
      exact (pa_cons (P2 _ _ _ _) P3).run pos pins s σ H Q I ⟨.ref a, q1, .ref Dx, .ref Dx, kit x, rfl, fun u r => r, hk, q1, q2⟩
    · cases h
/-! ### the whole body -/
/-- the groups' stores: s = [..]; s = s + [..]; .. -/
def grpB (sc : Scope) (e sN : Str) : List Stmt → List (List Str) → Bool
  | [], [] => true
  | .Assign [.Name x _] (.BinOp (.Name y _) .Add (.List es _) _) _ :: ss, g :: gs => x == sN && y == sN && isiB sc e es g && grpB sc e sN ss gs
  | _, _ => false
end
end EvH

set_option Elab.async false
set_option linter.all false
set_option autoImplicit false
set_option maxRecDepth 100000
set_option maxHeartbeats 8000000
/-! While an exception is handled: the whole body of the def that names its class. Own work. -/
namespace EvH
open PySem PySem.Spec PyProof.Rows L2 L2H HotX
section
variable {X : Cx} {D a : Addr} {oe : Obj} {kit : Str → Bool} {lab : Str} {acc : List Bool}
def StN (a : Addr) (acc : List Bool) (σ : L2.St) (H : Hp) : Prop := σ.length = 5 ∧ σ[0]? = some (some (.ref a)) ∧ acc.length ≤ 100 ∧ ∃ l, σ[1]? = some (some (.ref l)) ∧ H l = some (.lst (acc.map V.bl))
def tN (a : Addr) (lab : Str) (acc : List Bool) : TS := fun E σ H => StN a acc σ H ∧ ∀ H', (∀ b o, H b = some o → H' b = some o) → E.rt (.str lab) H'
def tN0 (a : Addr) (lab : Str) : TS := fun E σ H => σ.length = 5 ∧ σ[0]? = some (some (.ref a)) ∧ ∀ H', (∀ b o, H b = some o → H' b = some o) → E.rt (.str lab) H'
theorem small100 {k : Nat} (h : k ≤ 200) : k ≤ sizeLine := by rw [sizeLine_eq]; omega
theorem small100' {k : Nat} (h : k ≤ 16777216) : k ≤ sizeLine := by rw [sizeLine_eq]; exact h
theorem nm_first {es : List Expr} {g : List Str} {s : Str} {p1 p2 p3 : Pos} {ss : List Stmt} (hN : X.N.Nodup) (h1 : X.N[1]? = some s) (hs : Ev.StoOk X s) (hg : PA X es (tBs a 0 (g.map kit))) (hl : g.length ≤ 100) (hr : PSs X ss (tN a lab (g.map kit))) :
    PSs X (.Assign [.Name s p1] (.List es p2) p3 :: ss) (tN0 a lab) := by
  refine ⟨fun pins st σ H E I h => ?_⟩
  obtain ⟨q1, q2, q3⟩ := h
  refine (pss_cons (ps_set hN h1 hs.1 (pe_lst hg) rfl hs.2) hr).run pins st σ H E I ⟨q2, small100 (by simp; omega), fun p hp => ⟨⟨by simpa using q1, by rw [List.getElem?_set_ne (by decide)]; exact q2, by simpa using hl, p, by rw [List.getElem?_set_self (by omega)], upd_same⟩, fun H' g' => ?_⟩⟩
  exact q3 H' fun b o e => g' b o (by rw [upd_ne (ne_of_none e hp)]; exact e)
theorem nm_step {es : List Expr} {g : List Str} {s : Str} {p1 p2 p3 p4 p5 : Pos} {ss : List Stmt} (hN : X.N.Nodup) (h1 : X.N[1]? = some s) (hs : Ev.StoOk X s) (hv : Ev.visB X.env.scope s = true) (hg : PA X es (tBs a 0 (g.map kit))) (hl : acc.length + g.length ≤ 100) (hr : PSs X ss (tN a lab (acc ++ g.map kit))) :
    PSs X (.Assign [.Name s p1] (.BinOp (.Name s p2) .Add (.List es p3) p4) p5 :: ss) (tN a lab acc) := by
  have vs := Ev.visB_ok hv
  refine ⟨fun pins st σ H E I h => ?_⟩
  obtain ⟨⟨q1, q2, q4, l, q5, q6⟩, q3⟩ := h
  refine (pss_cons (ps_set hN h1 hs.1 (pe_op op_cat (pe_var h1 vs.1 vs.2.1 vs.2.2) (pe_lst hg)) rfl hs.2) hr).run pins st σ H E I ⟨.ref l, q5, q2, small100 (by simp; omega), fun p hp => ?_⟩
  refine ⟨l, p, acc.map V.bl, (g.map kit).map V.bl, rfl, rfl, by rw [upd_ne (ne_of_none q6 hp)]; exact q6, upd_same, small100 (by simp; omega), fun r hr' => ⟨⟨by simpa using q1, by rw [List.getElem?_set_ne (by decide)]; exact q2, by simpa using hl, r, by rw [List.getElem?_set_self (by omega)], by rw [upd_same, List.map_append]⟩, fun H' g' => ?_⟩⟩
  refine q3 H' fun b o e => g' b o ?_
  have e1 : upd H p (.lst ((g.map kit).map V.bl)) b = some o := by rw [upd_ne (ne_of_none e hp)]; exact e
  rw [upd_ne (ne_of_none e1 hr')]
  exact e1
theorem pickL_snoc : ∀ (xs : List Str) (bs : List Bool) (i : Nat) (x : Str) (b : Bool), xs[i]? = some x → bs[i]? = some b → pickL (xs.take (i + 1)) (bs.take (i + 1)) = pickL (xs.take i) (bs.take i) ++ (if b then [x] else [])
  | [], bs, i, x, b, h, _ => by simp at h
  | y :: xs, [], i, x, b, _, h => by simp at h
  | y :: xs, c :: bs, 0, x, b, h1, h2 => by
    simp at h1 h2
    subst h1 h2
    cases c <;> simp [pickL]
  | y :: xs, c :: bs, i + 1, x, b, h1, h2 => by
    have ih := pickL_snoc xs bs i x b (by simpa using h1) (by simpa using h2)
    simp only [List.take_succ_cons, pickL]
    rw [ih]
    cases c <;> cases b <;> simp
theorem pickL_len : ∀ (xs : List Str) (bs : List Bool), (pickL xs bs).length ≤ xs.length
  | [], bs => by simp [pickL]
  | x :: xs, [] => by simp [pickL]
  | x :: xs, b :: bs => by
    have ih := pickL_len xs bs
    cases b <;> simp [pickL] <;> omega
theorem nm_comp {labs : List Str} {t sp a1 b1 l s : Str} {k : Nat} {scope : Scope} {p1 p2 p3 p4 p5 p6 p7 p8 p9 p10 p11 p12 p13 : Pos} {j : Nat} {acc : List Bool} (hot : Hot1 X.A (a, oe)) (hm : (a, oe) ∈ X.pn) (hN : X.N.Nodup) (hz : Ev.glB X.env.scope "zip" = true) (hmz : X.mg "zip" = none)
    (h1 : X.N[1]? = some s) (hs : Ev.visB X.env.scope s = true) (h2 : X.N[2]? = some l) (hl : Ev.visB X.env.scope l = true) (h3 : X.N[3]? = some a1) (h4 : X.N[4]? = some b1) (ok : BlkOk X.N X.env.scope scope [(a1, 3), (b1, 4)])
    (hl3 : Ev.stoB scope a1 = true) (hl4 : Ev.stoB scope b1 = true) (hv3 : Ev.visB (relS scope X.env.scope) a1 = true) (hv4 : Ev.visB (relS scope X.env.scope) b1 = true) (hline : (p1.endLine == p2.line) = true)
    (elabs : Txt.split t sp = labs) (hsp : (sp.length == 0) = false) (htl : t.length + 2 ≤ 1000) (hlen : labs.length = acc.length) :
    PE X (.ListComp (.Name a1 p3) [⟨.Tuple [.Name a1 p4, .Name b1 p5] k p6, .Call (.Name "zip" p7) [.Call (.Attribute (.Name l p8) "split" p1) [.Constant (.str sp) j p9] [] p2, .Name s p10] [] p13, [.Name b1 p12], 0⟩] scope p11)
      (fun σ H Q => StN a acc σ H ∧ σ[2]? = some (some (.str t)) ∧ ∀ r H', (∀ b o, H b = some o → H' b = some o) → H' r = some (.lst ((pickL labs acc).map V.str)) → Q (.ref r) H') := by
  have vs := Ev.visB_ok hs
  have vl := Ev.visB_ok hl
  have v3 := Ev.visB_ok hv3
  have v4 := Ev.visB_ok hv4
  have Psp : PE X (.Call (.Attribute (.Name l p8) "split" p1) [.Constant (.str sp) j p9] [] p2) _ := pe_split (pe_var h2 vl.1 vl.2.1 vl.2.2) pe_str rfl rfl hline
  have Pz := pi_zipH (tpos := p6) (kk := k) (elts := [.Name a1 p4, .Name b1 p5]) (p := p7) (pos := p13) (Ev.glB_ok hz).1 hmz (pa_cons Psp (pa_cons (pe_var (pos := p10) h1 vs.1 vs.2.1 vs.2.2) pa_nil)) rfl rfl
  refine Ev.pe_weak (lcH (g := gTup X.K 2 (gCons (gName 3) (gCons (gName 4) gNil))) (tt := fun σ H Q => tVar 4 σ H fun x H' => ∃ k, TruV X.K x H' k ∧ Q k H') (te := tVar 3) hot hm hN Pz ok (fun s0 H0 C cl fp => ?_) (fun s0 H0 C cl fp => ?_) (fun s0 H0 C cl fp => ?_) (Ev.notSet_ok rfl)) fun σ H Q h => ?_
  · have o3 := Ev.stoB_ok (X := X) (s := s0) (H := H0) (D := C) (cl := cl) (fp := fp) hl3
    have o4 := Ev.stoB_ok (X := X) (s := s0) (H := H0) (D := C) (cl := cl) (fp := fp) hl4
    exact pg_tupH (X := blkH X (a, oe) s0 H0 scope (compEnvC scope cl C X.env) fp) ⟨(a, oe), hot, List.mem_singleton.mpr rfl⟩ (pgs_cons (pg_name hN h3 o3.1 o3.2) (pgs_cons (pg_name hN h4 o4.1 o4.2) pgs_nil rfl) rfl) rfl rfl
  · exact pts_one (pt_truth (pe_var h4 v4.1 v4.2.1 v4.2.2) (Ev.isTrue_plainT rfl))
  · exact pe_var h3 v3.1 v3.2.1 v3.2.2
  · obtain ⟨⟨q1, q2, q3, la, q4, q5⟩, q6, q7⟩ := h
    refine ⟨.str t, q6, ⟨t, rfl⟩, t, sp, rfl, rfl, hsp, Nat.le_trans htl (small100' (by decide)), fun lb hlb => ⟨.ref la, q4, lb, la, (Txt.split t sp).map V.str, acc.map V.bl, rfl, .of upd_same, .of (by rw [upd_ne (ne_of_none q5 hlb)]; exact q5), fun L hL => ?_⟩⟩
    rw [elabs] at hL ⊢
    have eB : upd H lb (.lst (labs.map V.str)) la = some (.lst (acc.map V.bl)) := by rw [upd_ne (ne_of_none q5 hlb)]; exact q5
    have eA : upd H lb (.lst (labs.map V.str)) lb = some (.lst (labs.map V.str)) := upd_same
    generalize eH1 : upd H lb (.lst (labs.map V.str)) = H1 at hL eA eB ⊢
    have g0 : ∀ b o, H b = some o → H1 b = some o := fun b o e => by rw [← eH1, upd_ne (ne_of_none e hlb)]; exact e
    refine ⟨fun i m H' => m = labs.length - i ∧ i ≤ labs.length ∧ (∀ b o, H1 b = some o → H' b = some o) ∧ H' L = some (.lst ((pickL (labs.take i) (acc.take i)).map V.str)), ⟨labs.length, rfl, Nat.zero_le _, fun b o e => by rw [upd_ne (ne_of_none e hL)]; exact e, by rw [upd_same]; simp [pickL]⟩, ?_⟩
    rintro i m H' ⟨rfl, hi, gr, hL'⟩
    by_cases hlt : i < labs.length
    · have x1 : labs[i]? = some labs[i] := by simp [hlt]
      have x2 : acc[i]? = some (acc[i]'(by omega)) := by simp [show i < acc.length by omega]
      refine .inr ⟨⟨labs.map V.str, acc.map V.bl, .str labs[i], .bl (acc[i]'(by omega)), .of (gr _ _ eA), .of (gr _ _ eB), by simp [hlt], by simp [show i < acc.length by omega]⟩,
        fun H2 => (∀ b o, H1 b = some o → H2 b = some o) ∧ H2 L = some (.lst ((pickL (labs.take (i + 1)) (acc.take (i + 1))).map V.str)), fun H2 z => ⟨labs.length - (i + 1), by omega, rfl, hlt, z.1, z.2⟩, fun v H2 hy => ?_⟩
      obtain ⟨T, x, y, rfl, hT, rfl, y1, y2⟩ := hy
      have ex : x = .str labs[i] := by have := y1 _ (.of (gr _ _ eA)); simpa [hlt] using this.symm
      have ey : y = .bl (acc[i]'(by omega)) := by have := y2 _ (.of (gr _ _ eB)); simpa [show i < acc.length by omega] using this.symm
      subst ex ey
      have lw : (wipe σ [3, 4]).length = 5 := by rw [wipe_length]; exact q1
      refine ⟨T, [.str labs[i], .bl (acc[i]'(by omega))], rfl, .of upd_same, rfl, .str labs[i], [.bl (acc[i]'(by omega))], rfl, .bl (acc[i]'(by omega)), [], rfl, rfl, ?_, .bl (acc[i]'(by omega)), by rw [List.getElem?_set_self (by simp; omega)], acc[i]'(by omega), rfl, ?_⟩
      · rw [Ev.wipe_set (by simp), Ev.wipe_set (by simp), Ev.wipe_wipe]
      · have eL : upd H' T (.tup [.str labs[i], .bl (acc[i]'(by omega))]) L = some (.lst ((pickL (labs.take i) (acc.take i)).map V.str)) := by rw [upd_ne (ne_of_none hL' hT)]; exact hL'
        have gr2 : ∀ b o, H1 b = some o → upd H' T (.tup [.str labs[i], .bl (acc[i]'(by omega))]) b = some o := fun b o e => by rw [upd_ne (ne_of_none (gr b o e) hT)]; exact gr b o e
        have ps := pickL_snoc labs acc i labs[i] (acc[i]'(by omega)) x1 x2
        cases hb : (acc[i]'(by omega)) with
        | false =>
          rw [hb] at eL gr2 ps
          simp only [Bool.false_eq_true, if_false, List.append_nil] at ps ⊢
          exact ⟨gr2, by rw [ps]; exact eL⟩
        | true =>
          rw [hb] at eL gr2 ps
          simp only [if_true] at ps ⊢
          refine ⟨.str labs[i], by rw [List.getElem?_set_ne (by decide), List.getElem?_set_self (by rw [wipe_length]; omega)], _, eL, ?_, fun b o e => ?_, by rw [upd_same, ps, List.map_append]; rfl⟩
          · have := pickL_len (labs.take i) (acc.take i)
            rw [List.length_map]
            have l2 : (labs.take i).length ≤ labs.length := by rw [List.length_take]; omega
            exact Nat.lt_of_le_of_lt (Nat.le_trans this (Nat.le_trans l2 (by omega : labs.length ≤ 100))) (by rw [sizeLine_eq]; decide)
          · have hne : b ≠ L := fun z => by rw [z, hL] at e; cases e
            rw [upd_ne hne]
            exact gr2 b o e
    · have e : i = labs.length := by omega
      subst e
      refine .inl ⟨⟨labs.map V.str, acc.map V.bl, .of (gr _ _ eA), .of (gr _ _ eB), by simp⟩, q7 L H' (fun b o e => gr _ _ (g0 b o e)) ?_⟩
      rw [hL']
      rw [List.take_length, hlen, List.take_length]
end
end EvH

set_option Elab.async false
set_option linter.all false
set_option autoImplicit false
set_option maxRecDepth 100000
set_option maxHeartbeats 8000000
/-! The def that names an error's class: looked at, and what it answers. Own work. -/
namespace EvH
open PySem PySem.Spec PyProof.Rows L2 L2H HotX
section
variable {X : Cx} {D a : Addr} {oe : Obj} {kit : Str → Bool} {acc : List Bool}
/-- the comprehension's look -/
def cmpB (N : List Str) (sc : Scope) (t sp l s : Str) (c : Expr) : Bool := match c with
  | .ListComp (.Name a1 _) [⟨.Tuple [.Name a2 _, .Name b2 _] _ _, .Call (.Name z _) [.Call (.Attribute (.Name l' _) m apos) [.Constant (.str sp') _ _] [] cpos, .Name s' _] [] _, [.Name b3 _], 0⟩] scope _ =>
    a1 == a2 && b2 == b3 && z == "zip" && l' == l && m == "split" && sp' == sp && s' == s && (apos.endLine == cpos.line) && decide (N[3]? = some a1) && decide (N[4]? = some b2) && blkC N sc scope [(a1, 3), (b2, 4)] && Ev.stoB scope a1 && Ev.stoB scope b2 &&
      Ev.visB (relS scope sc) a1 && Ev.visB (relS scope sc) b2
  | _ => false
/-- the parts of the body -/
structure NmP where
  e : Str
  s : Str
  l : Str
  gs : List (List Str)
  t : Str
  sp : Str
/-- the last two statements -/
def endB (N : List Str) (sc : Scope) (q : NmP) : List Stmt → Bool
  | [.Assign [.Name l1 _] (.Constant (.str t1) _ _) _, .Return (some (.Call (.Attribute (.Constant (.str sp1) _ _) m apos) [c] [] pos)) _] =>
    l1 == q.l && t1 == q.t && sp1 == q.sp && m == "join" && (apos.endLine == pos.line) && Ev.nStar c && cmpB N sc q.t q.sp q.l q.s c
  | _ => false
def stepsB (N : List Str) (sc : Scope) (q : NmP) : List (List Str) → List Stmt → Bool
  | [], ss => endB N sc q ss
  | g :: gs, ss => (match ss with
    | .Assign [.Name x _] (.BinOp (.Name y _) .Add (.List es _) _) _ :: ss => x == q.s && y == q.s && isiB sc q.e es g && stepsB N sc q gs ss
    | _ => false)
def nmB (N : List Str) (sc : Scope) (q : NmP) (body : List Stmt) : Bool :=
  decide N.Nodup && decide (N[0]? = some q.e) && decide (N[1]? = some q.s) && decide (N[2]? = some q.l) && decide (N.length = 5) && Ev.visB sc q.e && Ev.visB sc q.s && Ev.visB sc q.l && decide (sc.names.lookup q.s = some .local) && decide (sc.names.lookup q.l = some .local) &&
    Ev.glB sc "isinstance" && Ev.glB sc "zip" && decide (q.gs.flatten.length ≤ 100) && decide ((Txt.split q.t q.sp).length = q.gs.flatten.length) && !(q.sp.length == 0) && decide (q.t.length + 2 ≤ 1000) &&
    decide (((Txt.split q.t q.sp).map (·.length)).sum + (Txt.split q.t q.sp).length * q.sp.length ≤ 1000) &&
    (match q.gs with
    | [] => false
    | g :: gs => (match body with
      | .Assign [.Name x _] (.List es _) _ :: ss => x == q.s && isiB sc q.e es g && stepsB N sc q gs ss
      | _ => false))
/-- the label -/
def NmP.lab (q : NmP) (kit : Str → Bool) : Str := Txt.join q.sp (pickL (Txt.split q.t q.sp) (q.gs.flatten.map kit))
theorem pick_sum : ∀ (xs : List Str) (bs : List Bool) (k : Nat), ((pickL xs bs).map (·.length)).sum + (pickL xs bs).length * k ≤ (xs.map (·.length)).sum + xs.length * k
  | [], bs, k => by simp [pickL]
  | x :: xs, [], k => by simp [pickL]
  | x :: xs, b :: bs, k => by
    have ih := pick_sum xs bs k
    cases b
    · simp only [pickL, Bool.false_eq_true, if_false, List.map_cons, List.sum_cons, List.length_cons, Nat.add_mul, Nat.one_mul]
      omega
    · simp only [pickL, if_true, List.map_cons, List.sum_cons, List.length_cons, Nat.add_mul, Nat.one_mul]
      omega
section
variable {q : NmP} {N : List Str} {sc : Scope}
theorem end_ok {ss : List Stmt} (hN : X.N = N) (hsc : X.env.scope = sc) (nd : N.Nodup) (n1 : N[1]? = some q.s) (n2 : N[2]? = some q.l) (vs : Ev.visB sc q.s = true) (vl : Ev.visB sc q.l = true) (ll : sc.names.lookup q.l = some .local) (gz : Ev.glB sc "zip" = true) (mz : X.mg "zip" = none)
    (hot : Hot1 X.A (a, oe)) (hm : (a, oe) ∈ X.pn) (hlen : (Txt.split q.t q.sp).length = acc.length) (hsp : (q.sp.length == 0) = false) (ht : q.t.length + 2 ≤ 1000) (hsum : ((Txt.split q.t q.sp).map (·.length)).sum + (Txt.split q.t q.sp).length * q.sp.length ≤ 1000)
    (h : endB N sc q ss = true) : PSs X ss (tN a (Txt.join q.sp (pickL (Txt.split q.t q.sp) acc)) acc) := by
  unfold endB at h
  split at h
  · simp only [Bool.and_eq_true, beq_iff_eq] at h
    obtain ⟨⟨⟨⟨⟨⟨rfl, rfl⟩, rfl⟩, rfl⟩, h5⟩, h6⟩, h7⟩ := h
    rename_i c _ _ _
    unfold cmpB at h7
    split at h7
    · simp only [Bool.and_eq_true, beq_iff_eq, decide_eq_true_eq] at h7
      obtain ⟨⟨⟨⟨⟨⟨⟨⟨⟨⟨⟨⟨⟨⟨rfl, rfl⟩, rfl⟩, rfl⟩, rfl⟩, rfl⟩, rfl⟩, k8⟩, k9⟩, k10⟩, k11⟩, k12⟩, k13⟩, k14⟩, k15⟩ := h7
      rename_i a1 p3 p4 b2 p5 k p6 p7 p8 ap jj p9 cp p10 p13 p12 scope p11
      have PC := nm_comp (X := X) (a := a) (oe := oe) (labs := Txt.split q.t q.sp) (t := q.t) (sp := q.sp) (a1 := a1) (b1 := b2) (l := q.l) (s := q.s) (k := k) (scope := scope) (p1 := ap) (p2 := cp) (p3 := p3) (p4 := p4) (p5 := p5) (p6 := p6) (p7 := p7) (p8 := p8) (p9 := p9) (p10 := p10) (p11 := p11) (p12 := p12) (p13 := p13) (j := jj) (acc := acc)
        hot hm (by rw [hN]; exact nd) (by rw [hsc]; exact gz) mz (by rw [hN]; exact n1) (by rw [hsc]; exact vs) (by rw [hN]; exact n2) (by rw [hsc]; exact vl) (by rw [hN]; exact k9) (by rw [hN]; exact k10) (by rw [hN, hsc]; exact blkOk_by k11) k12 k13 (by rw [hsc]; exact k14) (by rw [hsc]; exact k15) (by simpa using k8) rfl hsp ht hlen
      refine ⟨fun pins st σ H E I hq => ?_⟩
      obtain ⟨⟨u1, u2, u3, la, u4, u5⟩, fin⟩ := hq
      have lq : X.env.scope.names.lookup q.l = some .local := by rw [hsc]; exact ll
      refine (pss_cons (ps_set (by rw [hN]; exact nd) (by rw [hN]; exact n2) (.inl lq) pe_str rfl (.inr lq)) (pss_one (ps_ret (pe_join pe_str PC rfl rfl (by simpa using h5))))).run pins st σ H E I ?_
      refine ⟨⟨q.sp, rfl⟩, ⟨by simpa using u1, by rw [List.getElem?_set_ne (by decide)]; exact u2, u3, la, by rw [List.getElem?_set_ne (by decide)]; exact u4, u5⟩, by rw [List.getElem?_set_self (by omega)], fun r H' g e => ?_⟩
      have hs2 := pick_sum (Txt.split q.t q.sp) acc q.sp.length
      exact ⟨q.sp, r, pickL (Txt.split q.t q.sp) acc, rfl, rfl, .inl (.of e), by omega, fin H' g⟩
    · cases h7
  · cases h
theorem steps_ok (hN : X.N = N) (hsc : X.env.scope = sc) (nd : N.Nodup) (n0 : N[0]? = some q.e) (n1 : N[1]? = some q.s) (n2 : N[2]? = some q.l) (ve : Ev.visB sc q.e = true) (vs : Ev.visB sc q.s = true) (vl : Ev.visB sc q.l = true) (ls : sc.names.lookup q.s = some .local) (ll : sc.names.lookup q.l = some .local)
    (gi : Ev.glB sc "isinstance" = true) (gz : Ev.glB sc "zip" = true) (hsp : (q.sp.length == 0) = false) (ht : q.t.length + 2 ≤ 1000) (hsum : ((Txt.split q.t q.sp).map (·.length)).sum + (Txt.split q.t q.sp).length * q.sp.length ≤ 1000) :
    ∀ (gs : List (List Str)) (acc : List Bool) (ss : List Stmt), stepsB N sc q gs ss = true → HotX1 X D a oe kit gs.flatten → acc.length + gs.flatten.length = (Txt.split q.t q.sp).length → (Txt.split q.t q.sp).length ≤ 100 →
      PSs X ss (tN a (Txt.join q.sp (pickL (Txt.split q.t q.sp) (acc ++ gs.flatten.map kit))) acc)
  | [], acc, ss, h, hx, hl, h100 => by
    have := end_ok (a := a) (oe := oe) (acc := acc) hN hsc nd n1 n2 vs vl ll gz hx.free.2 hx.hot hx.hm (by simpa using hl.symm) hsp ht hsum (by simpa [stepsB] using h)
    simpa using this
  | g :: gs, acc, ss, h, hx, hl, h100 => by
    unfold stepsB at h
    split at h
    · simp only [Bool.and_eq_true, beq_iff_eq] at h
      obtain ⟨⟨⟨rfl, rfl⟩, h3⟩, h4⟩ := h
      have hl' : acc.length + (g.length + gs.flatten.length) = (Txt.split q.t q.sp).length := by rw [List.flatten_cons, List.length_append] at hl; exact hl
      have P := steps_ok hN hsc nd n0 n1 n2 ve vs vl ls ll gi gz hsp ht hsum gs (acc ++ g.map kit) _ h4 (hx.sub fun y hy => by simp only [List.flatten_cons, List.mem_append]; exact .inr hy) (by rw [List.length_append, List.length_map]; omega) h100
      have lq : X.env.scope.names.lookup q.s = some .local := by rw [hsc]; exact ls
      have e : acc ++ (g :: gs).flatten.map kit = (acc ++ g.map kit) ++ gs.flatten.map kit := by simp
      rw [e]
      exact nm_step (by rw [hN]; exact nd) (by rw [hN]; exact n1) ⟨.inl lq, .inr lq⟩ (by rw [hsc]; exact vs) (pa_isi (D := D) (oe := oe) (by rw [hN]; exact n0) (by rw [hsc]; exact ve) (by rw [hsc]; exact gi) g _ (by rw [hsc]; exact h3) (hx.sub fun y hy => by simp only [List.flatten_cons, List.mem_append]; exact .inl hy)) (by omega) P
    · cases h
theorem nm_ok {body : List Stmt} (hN : X.N = N) (hsc : X.env.scope = sc) (h : nmB N sc q body = true) (hx : HotX1 X D a oe kit q.gs.flatten) : PSs X body (tN0 a (q.lab kit)) := by
  unfold nmB at h
  simp only [Bool.and_eq_true, decide_eq_true_eq, Bool.not_eq_true'] at h
  obtain ⟨⟨⟨⟨⟨⟨⟨⟨⟨⟨⟨⟨⟨⟨⟨⟨⟨nd, n0⟩, n1⟩, n2⟩, n5⟩, ve⟩, vs⟩, vl⟩, ls⟩, ll⟩, gi⟩, gz⟩, h100⟩, hl⟩, hsp⟩, ht⟩, hsum⟩, hb⟩ := h
  unfold NmP.lab
  generalize hgs : q.gs = gs at hb hx h100 hl ⊢
  cases gs with
  | nil => cases hb
  | cons g gs =>
    simp only at hb
    split at hb
    · simp only [Bool.and_eq_true, beq_iff_eq] at hb
      obtain ⟨⟨rfl, h2⟩, h3⟩ := hb
      have hl' : g.length + gs.flatten.length ≤ 100 := by rw [List.flatten_cons, List.length_append] at h100; exact h100
      have P := steps_ok (D := D) (a := a) (oe := oe) (kit := kit) hN hsc nd n0 n1 n2 ve vs vl ls ll gi gz hsp ht hsum gs (g.map kit) _ h3 (hx.sub fun y hy => by simp only [List.flatten_cons, List.mem_append]; exact .inr hy) (by rw [hl]; simp) (by rw [hl]; exact h100)
      have lq : X.env.scope.names.lookup q.s = some .local := by rw [hsc]; exact ls
      have e : (g :: gs).flatten.map kit = g.map kit ++ gs.flatten.map kit := by simp
      rw [e]
      exact nm_first (by rw [hN]; exact nd) (by rw [hN]; exact n1) ⟨.inl lq, .inr lq⟩ (pa_isi (D := D) (oe := oe) (by rw [hN]; exact n0) (by rw [hsc]; exact ve) (by rw [hsc]; exact gi) g _ (by rw [hsc]; exact h2) (hx.sub fun y hy => by simp only [List.flatten_cons, List.mem_append]; exact .inl hy)) (by omega) P
    · cases hb
end
end
end EvH

set_option Elab.async false
set_option linter.all false
set_option autoImplicit false
set_option maxRecDepth 100000
set_option maxHeartbeats 8000000
/-! try: what was got is called; except: the error is named. Own work. -/
namespace EvH
open PySem PySem.Spec PyProof.Rows L2 L2H HotX
/-- the def that names an error -/
structure NamedD where
  x : Str
  st : Stmt
  N : List Str
  q : NmP
  cg : Str
  kit : Nat → Str → Bool
structure NamedOk (G : Ev.Dom) (nd : NamedD) : Prop where
  fn : ∃ fa fd qual dvs kws, G.mg nd.x = some (.ref fa) ∧ PySem.W.keepIn G.K (.ref fa) = true ∧ Binds G.K fd [nd.q.e] [] ∧ FunD G.K nd.x qual (defArgs nd.st) (defBody nd.st) (defScope nd.st) dvs kws fa fd
  sc : C8.scC nd.N [nd.q.e] (defScope nd.st) = true
  nm : nmB nd.N (defScope nd.st) nd.q (defBody nd.st) = true
  exc : ∀ c x D, G.cname c = some x → G.mg x = some (.ref D) → ExcC G.K D ∧ PySem.W.kitOne G.K (.ref D) (.type "ValueError") = some true ∧ ∀ y ∈ nd.q.gs.flatten, ∃ Dy, G.mg y = some (.ref Dy) ∧ PySem.W.kitOne G.K (.ref D) (.ref Dy) = some (nd.kit c y)
  cg : ∃ CG, G.mg nd.cg = some (.ref CG) ∧ ∀ c x D, G.cname c = some x → G.mg x = some (.ref D) → PySem.W.exmOne G.K (.ref D) (.ref CG) = some true
  free : G.mg "isinstance" = none ∧ G.mg "zip" = none ∧ G.mg "ValueError" = none
section
variable {G : Ev.Dom} {nd : NamedD}
theorem named_run (ok : NamedOk G nd) {CX : CXT} {A : Around} {outer : List PySem.Env} {s : Shared} {H : Hp} {Q : VK} {E : XK} {p : Addr × Obj} {k c : Nat} {x : Str} {D : Addr} {fa : Addr} {fd : FuncData} {qual : Str} {dvs : List V} {kws : List (Str × V)} {args : Args}
    (F : FunD G.K nd.x qual (defArgs nd.st) (defBody nd.st) (defScope nd.st) dvs kws fa fd) (hb : BindsTo s fd args ([nd.q.e].zip [.ref p.1])) (hr : RoomH (k + 1) A) (hot : Hot1 A p) (hpin : PinOk outer H s p) (e0 : Env0 G.prog G.w G.K G.mg G.base A outer s H)
    (hc : G.cname c = some x) (hm : G.mg x = some (.ref D)) (hz : Zc (.ref D) none p.2) (hf : ∃ vs, p.2.data = .fields vs) (hQ : ∀ H', (∀ b o, H b = some o → H' b = some o) → Q (.str (nd.q.lab (nd.kit c))) H') :
    codeAny (model G.prog G.w) A (.call (.ref fa) args) (CR CX outer G.prog G.w H s Q E) s := by
  obtain ⟨oc, od, dV, kV, doc, pm, an, cdv, ct, osl, rfl, lk, hcd, _, _⟩ := F.ex
  have S := C8.fnScope_by ok.sc
  refine run_hot (N := nd.N) (ps := [nd.q.e]) (us := [.ref p.1]) (vs := [.ref p.1]) lk hcd S hr hot hpin e0 hb (.cons rfl .nil) rfl fun hr' => ?_
  obtain ⟨h1, _, h3⟩ := ok.exc c x D hc hm
  have nm := ok.nm
  have n5 : nd.N.length = 5 := by
    unfold nmB at nm
    simp only [Bool.and_eq_true, decide_eq_true_eq] at nm
    exact nm.1.1.1.1.1.1.1.1.1.1.1.1.1.2
  refine ⟨tN0 p.1 (nd.q.lab (nd.kit c)), nm_ok (D := D) (oe := p.2) (N := nd.N) (sc := defScope nd.st) rfl rfl nm ⟨h1, hz, hf, List.mem_singleton.mpr rfl, ⟨hot.1, hot.2⟩, h3, ok.free.1, ok.free.2.1⟩, ?_, rfl, hQ⟩
  unfold L2.start
  simp [n5]
theorem pe_named (ok : NamedOk G nd) {Z : Cx} {k i : Nat} {a : Addr} {oe : Obj} {e : Str} {p p2 p3 : Pos} (hP : Z.prog = G.prog) (hw : Z.w = G.w) (hK : Z.K = G.K) (hmg : Z.mg = G.mg) (hbs : Z.base = G.base) (hm : (a, oe) ∈ Z.pn) (hot : Hot1 Z.A (a, oe)) (hf : ∃ vs, oe.data = .fields vs) (hr : RoomH (k + 1) Z.A)
    (gl : Ev.glB Z.env.scope nd.x = true) (hN : Z.N[i]? = some e) (hv : Ev.visB Z.env.scope e = true) :
    PE Z (.Call (.Name nd.x p) [.Name e p2] [] p3) (fun σ H Q => σ[i]? = some (some (.ref a)) ∧ (∃ c x D, G.cname c = some x ∧ G.mg x = some (.ref D) ∧ Zc (.ref D) none oe ∧ ∀ H', (∀ b o, H b = some o → H' b = some o) → Q (.str (nd.q.lab (nd.kit c))) H')) := by
  refine ⟨fun pins s σ H Q I h => ?_⟩
  obtain ⟨h1, c, x, D, hc, hx, hz, hQ⟩ := h
  obtain ⟨fa, fd, qual, dvs, kws, g1, g2, g3, F⟩ := ok.fn
  have vv := Ev.visB_ok hv
  refine wpAny_Call_Name_kw (ld_glob I (Ev.glB_ok gl).1 (by rw [hmg]; exact g1) ?_ (Ev.glB_ok gl).2)
  have ha : PA Z [.Name e p2] (tCons (tVar i) tNil) := pa_cons (pe_var hN vv.1 vv.2.1 vv.2.2) pa_nil
  refine PySem.W.callWith_K (h₀ := Z.base) I.ok.mod.kin (by rw [hK]; exact g2) (thn (ha.run p3 pins s σ H (fun vs H1 => vs = [.ref a] ∧ H1 = H) I ⟨.ref a, h1, rfl, rfl⟩) fun us s1 ⟨vs, H1, I1, r1, e1, e2⟩ => ⟨I1.kIn, ?_⟩) rfl rfl
  subst e1 e2
  obtain rfl : us = [.ref a] := by
    cases r1 with
    | cons ra rb => cases rb; cases ra; rfl
  have e0 : Env0 G.prog G.w G.K G.mg G.base Z.A Z.stack s1 H1 := by
    have := I1.env0
    rw [hP, hw, hK, hmg, hbs] at this
    exact this
  have P1 := I1.pin (a, oe) (List.mem_append_left _ hm)
  have hpin : PinOk Z.stack H1 s1 (a, oe) := ⟨P1.1, P1.2.1, fun hmf => (List.mem_cons.mp (I1.stkSub a hmf)).elim P1.2.2.1 P1.2.2.2.1, P1.2.2.2.2⟩
  have kin : G.K.In s1.heap := by have := I1.kIn; rw [hK] at this; exact this
  have hb := g3 s1 [.ref a] kin rfl
  have R := named_run ok (CX := L2N.CX G.prog G.w) (E := fun _ _ _ => False) (Q := Q) (p := (a, oe)) F (by simpa using hb) hr hot hpin e0 hc hx hz hf hQ
  rw [← hP, ← hw] at R
  refine wpAny_call (codeAny_mono R fun res s' hq => ?_)
  cases res with
  | error u =>
    obtain ⟨_, _, _, _, _, _, _, _, _, _, _, _, z⟩ := (show L2N.CX Z.prog Z.w Z.stack H1 s1 _ u s' from hq)
    exact z.elim
  | ok fl =>
    cases fl with
    | ret u => exact I1.after hq
    | next => exact False.elim hq
    | brk => exact False.elim hq
    | cont => exact False.elim hq
/-- isinstance(e, ValueError) -/
theorem pe_isVE {Z : Cx} {a D : Addr} {oe : Obj} {e : Str} {i : Nat} {p p2 p3 p4 : Pos} (C : ExcC Z.K D) (hz : Zc (.ref D) none oe) (hf : ∃ vs, oe.data = .fields vs) (hm : (a, oe) ∈ Z.pn) (hN : Z.N[i]? = some e) (hv : Ev.visB Z.env.scope e = true) (gi : Ev.glB Z.env.scope "isinstance" = true) (gv : Ev.glB Z.env.scope "ValueError" = true)
    (m1 : Z.mg "isinstance" = none) (m2 : Z.mg "ValueError" = none) (hk : PySem.W.kitOne Z.K (.ref D) (.type "ValueError") = some true) :
    PE Z (.Call (.Name "isinstance" p) [.Name e p2, .Name "ValueError" p3] [] p4) (fun σ H Q => σ[i]? = some (some (.ref a)) ∧ Q (.bl true) H) := by
  have vv := Ev.visB_ok hv
  have P1 : PE Z (.Name "ValueError" p3) (tC (.ty "ValueError")) := pe_bltn (Ev.glB_ok gv).1 m2 (by decide +kernel) rfl (by decide +kernel) (Ev.glB_ok gv).2
  refine Ev.pe_weak (pe_callB (call_isP C hz hf hm) (Ev.glB_ok gi).1 m1 boot_isinstance (pa_cons (pe_var hN vv.1 vv.2.1 vv.2.2) (pa_cons P1 pa_nil)) (by decide +kernel) (Ev.glB_ok gi).2) fun σ H Q h => ?_
  exact ⟨.ref a, h.1, .ty "ValueError", .type "ValueError", true, rfl, fun u r => r, hk, h.2⟩
end
end EvH

set_option Elab.async false
set_option linter.all false
set_option autoImplicit false
set_option maxRecDepth 100000
set_option maxHeartbeats 8000000
/-! The defs that call what they got and name the error. Own work. -/
namespace EvH
open PySem PySem.Spec PyProof.Rows L2 L2H HotX
structure ErrD where
  x : Str
  st : Stmt
  c : Str
  e : Str
def errB (nd : NamedD) (sc : Scope) (d : ErrD) (told : Bool) (body : List Stmt) : Bool :=
  C8.scC [d.c, d.e] [d.c] sc && Ev.visB sc d.c && Ev.visB sc d.e && decide (sc.names.lookup d.e = some .local) && Ev.glB sc nd.cg && Ev.glB sc nd.x && (match told with
  | false => Ev.glB sc "isinstance" && Ev.glB sc "ValueError" && (match body with
    | [.Try [.Expr (.Call (.Name c _) [] [] _) _] [.ExceptHandler (some (.Name g _)) (some e) [.Return (some (.IfExp (.Call (.Name i _) [.Name e1 _, .Name ve _] [] _) (.Call (.Name n _) [.Name e2 _] [] _) (.Constant (.str _) _ _) _)) _] _] [] [] _, .Return (some (.Constant (.str r) _ _)) _] =>
      c == d.c && g == nd.cg && e == d.e && i == "isinstance" && e1 == d.e && ve == "ValueError" && n == nd.x && e2 == d.e && r == Str.empty
    | _ => false)
  | true => (match body with
    | [.Try [.Return (some (.Tuple [.Call (.Name c _) [] [] _, .Constant (.str r) _ _] _ _)) _] [.ExceptHandler (some (.Name g _)) (some e) [.Return (some (.Tuple [.Constant .none _ _, .Call (.Name n _) [.Name e2 _] [] _] _ _)) _] _] [] [] _] =>
      c == d.c && g == nd.cg && e == d.e && n == nd.x && e2 == d.e && r == Str.empty
    | _ => false))
section
variable {G : Ev.Dom} {nd : NamedD} {n : Nat} {C : Ev.Calls}
variable {A : Around} {outer : List PySem.Env} {s : Shared} {H : Hp} {f c' : Addr} {clo : List (Str × Addr)} {pm ctv : Value} {σ0 : L2.St} {LD : Ev.LamD} {k : Nat} {r : Ev.Env} {S : Ev.Sto} {B : List Addr}
/-- the lambda is called, in the body of the def that got it -/
theorem pe_got {N : List Str} {qual : Str} {scope : Scope} {fa : Addr} {cdv : Value} {E : XK} {pn : List (Addr × Obj)} {xe : Value → Shared → Prop} {W : WX} {c : Str} {p1 p2 : Pos} (F : Ev.LamFact G n k (C.lam k)) (hk : G.lam k = some LD) (hr : Room n (A.deeper (envOfC qual scope s.heap.objs.size fa cdv)))
    (hf : s.heap.get? f = some (PySem.W.kla_obj "<lambda>" LD.qual LD.params LD.body LD.scope clo pm c' ctv)) (hfn : H f = none) (hfr : f ∉ frs outer) (hcode : H c' = some (LamX.CodeO c' LD.qual)) (CA : Ev.CloAt LD clo s H σ0) (rs : Ev.RepS G B S H) (re : Ev.RepE G B S H σ0 r)
    (tk : L2N.Takes ((cxOf (L2N.CX G.prog G.w) G.prog G.w G.K G.mg G.base N qual scope fa cdv A outer s H E).tr pn xe) W) (h0 : N[0]? = some c) (hv : Ev.visB scope c = true) :
    PE ((cxOf (L2N.CX G.prog G.w) G.prog G.w G.K G.mg G.base N qual scope fa cdv A outer s H E).tr pn xe) (.Call (.Name c p1) [] [] p2)
      (fun σ HZ Q => σ[0]? = some (some (.ref f)) ∧ HZ = H ∧ Ev.Ans G (fun cls d _ H' => W cls d σ H') [] (C.lam k r [] S) B S H fun v B' S' H' => ∀ u, Ev.RepV G B' S' H' v u → Q u H') := by
  refine ⟨fun pins sZ σ HZ Q IZ h => ?_⟩
  obtain ⟨h1, rfl, an⟩ := h
  have vv := Ev.visB_ok hv
  refine wpAny_Call_Name_kw (thn ((pe_var (pos := p1) (i := 0) h0 vv.1 vv.2.1 vv.2.2).run pins sZ σ HZ (fun v H1 => v = .ref f ∧ H1 = HZ) IZ ⟨.ref f, h1, rfl, rfl⟩) fun u s1 ⟨v, H1, I1, r1, e1, e2⟩ => ?_)
  subst e1 e2
  obtain rfl : u = Value.ref f := r1
  have un : Un (frs outer) [] H1 H1 s.heap s1.heap := I1.base
  have of1 := un.keep f _ hf hfn hfr (by simp)
  refine PySem.W.callWith_F0 ⟨_, _, _, _, of1⟩ ?_
  obtain ⟨cd, _, _⟩ := I1.hok c' _ hcode
  have CA1 : Ev.CloAt LD clo s1 H1 σ0 := by
    refine ⟨CA.has, CA.inj, fun y c e => ?_, CA.len⟩
    obtain ⟨g1, v, ⟨ob, g2, g3⟩, g4⟩ := CA.cell y c e
    obtain ⟨sl, g5⟩ := un.any g2 g1 (by simp)
    exact ⟨g1, v, ⟨_, g5, g3⟩, g4⟩
  have R := F LD (A.deeper (envOfC qual scope s.heap.objs.size fa cdv)) (envOfC qual scope s.heap.objs.size fa cdv :: outer) s1 H1 f c' clo pm ctv σ0 r [] [] [] S B Q (fun cls d H' => W cls d σ H') hk hr I1.env0 of1 cd CA1 rs re rfl .nil an
  refine wpAny_call (codeAny_mono R fun res s' hq => ?_)
  cases res with
  | error e => exact L2N.passAt tk σ pins H1 s1 e s' I1 hq
  | ok fl =>
    cases fl with
    | ret u => exact I1.after hq
    | next => exact False.elim hq
    | brk => exact False.elim hq
    | cont => exact False.elim hq
theorem iteT1 {A B : Prop} (h : A) : if true = true then A else B := by
  rw [if_pos rfl]
  exact h
theorem noN {X : Cx} : L2N.Takes X (fun _ _ _ _ => False) := fun _ _ x => by
  obtain ⟨_, _, _, _, _, _, _, _, _, _, _, _, _, _, _, _, z⟩ := x
  exact z.elim
structure ErrOk (G : Ev.Dom) (nd : NamedD) (told : Bool) (d : ErrD) : Prop where
  fn : ∃ fa fd qual dvs kws, G.mg d.x = some (.ref fa) ∧ PySem.W.keepIn G.K (.ref fa) = true ∧ Binds G.K fd [d.c] [] ∧ FunD G.K d.x qual (defArgs d.st) (defBody d.st) (defScope d.st) dvs kws fa fd
  b : errB nd (defScope d.st) d told (defBody d.st) = true
/-- what the suite answers -/
def tsE (G : Ev.Dom) (nd : NamedD) (told : Bool) : Addr → Value → Option Addr → TS := fun a cls d D σ H => σ[1]? = some (some (.ref a)) ∧ ∃ c x C0, G.cname c = some x ∧ G.mg x = some (.ref C0) ∧ cls = .ref C0 ∧ d = none ∧
  ∀ H', (∀ b o, H b = some o → H' b = some o) → (if told then ∀ p, H' p = none → D.rt (.ref p) (upd H' p (.tup [.non, .str (nd.q.lab (nd.kit c))])) else D.rt (.str (nd.q.lab (nd.kit c))) H')
theorem err_fact {d : ErrD} {told : Bool} (nok : NamedOk G nd) (ok : ErrOk G nd told d) (hlab : ∀ c x, G.cname c = some x → C.label c = some (.str (nd.q.lab (nd.kit c)))) (hlams : ∀ k, Ev.LamFact G (n + 1) k (C.lam k)) (hcn : ∀ c x, G.cname c = some x → ∃ C0, G.mg x = some (.ref C0)) :
    Ev.ErrFact G (n + 2) d.x (fun k r S => Ev.errR told C.label (C.lam k r [] S)) := by
  obtain ⟨fa, fd, qual, dvs, kws, g1, g2, g3, F⟩ := ok.fn
  refine ⟨fa, fd, d.c, g1, g2, g3, ?_⟩
  intro LD A outer s H f c' clo pm ctv σ0 k r S B Q args hk hr e0 hf hfn hfr hcode CA rs re hb an
  obtain ⟨oc, od, dV, kV, doc, pmV, an0, cdv, ct, osl, rfl, lk, hcd, _, _⟩ := F.ex
  have b := ok.b
  unfold errB at b
  simp only [Bool.and_eq_true, decide_eq_true_eq] at b
  obtain ⟨⟨⟨⟨⟨⟨b1, b2⟩, b3⟩, b4⟩, b5⟩, b6⟩, b7⟩ := b
  have FS := C8.fnScope_by b1
  replace an : Ev.Ans G (fun _ _ _ _ => False) [] (Ev.errR told C.label (C.lam k r [] S)) B S H fun v B' S' H' => ∀ u, Ev.RepV G B' S' H' v u → Q u H' := an
  refine LamX.run_ofS (N := [d.c, d.e]) (ps := [d.c]) (us := [.ref f]) (vs := [.ref f]) lk hcd FS hr e0 hb (.cons rfl .nil) rfl fun hr' => ?_
  obtain ⟨CG, cg1, cg2⟩ := nok.cg
  let X := cxOf (L2N.CX G.prog G.w) G.prog G.w G.K G.mg G.base [d.c, d.e] qual (defScope d.st) fa cdv A outer s H fun _ _ _ => False
  have hN1 : X.N[1]? = some d.e := rfl
  have names : L2.Names X nd.cg (.ref CG) := ⟨(Ev.glB_ok b5).1, (Ev.glB_ok b5).2, .inl cg1⟩
  have got : ∀ (W : WX) (pn : List (Addr × Obj)) (xe : Value → Shared → Prop) (p1 p2 : Pos), L2N.Takes (X.tr pn xe) W → PE (X.tr pn xe) (.Call (.Name d.c p1) [] [] p2)
      (fun σ HZ Q => σ[0]? = some (some (.ref f)) ∧ HZ = H ∧ Ev.Ans G (fun cls d _ H' => W cls d σ H') [] (C.lam k r [] S) B S H fun v B' S' H' => ∀ u, Ev.RepV G B' S' H' v u → Q u H') := fun W pn xe p1 p2 tk =>
    pe_got (n := n + 1) (hlams k) hk hr' hf hfn hfr hcode CA rs re tk rfl b2
  have suite : ∀ (a : Addr) (oe : Obj) (pn : List (Addr × Obj)), Hot1 (X.suite a ((a, oe) :: pn)).A (a, oe) ∨ True := fun _ _ _ => .inr trivial
  -- the wish of an error
  have wish : ∀ {c : Nat} {x : Str} {C0 : Addr} {σ : L2.St} {H' : Hp} {D : Ends} {B' : List Addr} {S' : Ev.Sto}, σ.length = 2 → G.cname c = some x → G.mg x = some (.ref C0) →
      (∀ H2, (∀ b o, H' b = some o → H2 b = some o) → (if told then ∀ p, H2 p = none → D.rt (.ref p) (upd H2 p (.tup [.non, .str (nd.q.lab (nd.kit c))])) else D.rt (.str (nd.q.lab (nd.kit c))) H2)) →
      wAs G.K (.ref CG) 1 (tsE G nd told) (fun _ _ _ _ => False) D (.ref C0) none σ H' := fun {c x C0 σ H' D B' S'} hl h1 h2 h3 =>
    ⟨true, cg2 c x C0 h1 h2, fun _ a _ => ⟨by rw [List.getElem?_set_self (by omega)], c, x, C0, h1, h2, rfl, rfl, h3⟩, fun z => by cases z⟩
  cases told with
  | false =>
    simp only [Bool.and_eq_true] at b7
    obtain ⟨⟨b8, b9⟩, b7⟩ := b7
    split at b7
    · rename_i heq
      simp only [Bool.and_eq_true, beq_iff_eq] at b7
      obtain ⟨⟨⟨⟨⟨⟨⟨⟨rfl, rfl⟩, rfl⟩, rfl⟩, rfl⟩, rfl⟩, rfl⟩, rfl⟩, rfl⟩ := b7
      rw [heq]
      refine ⟨_, pss_cons (L2N.ps_try_as (X := X) (c := .ref CG) (i := 1) (tb := fun W => tDrop fun σ HZ Q => σ[0]? = some (some (.ref f)) ∧ HZ = H ∧ Ev.Ans G (fun cls d _ H' => W cls d σ H') [] (C.lam k r [] S) B S H fun v B' S' H' => ∀ u, Ev.RepV G B' S' H' v u → Q u H')
        (ts := tsE G nd false) (Wout := fun _ _ _ _ => False) rfl rfl FS.nd hN1 b4 names noN (fun W pn xe tk _ => pss_one (ps_expr (got W pn xe _ _ tk))) (fun a oe cls d' pn hz hvs => ?_)) (pss_one (ps_ret pe_str)), ?_⟩
      · refine pss_one ⟨fun pins st σ H1 E1 I h => ?_⟩
        obtain ⟨h1, c, x, C0, hc, hx, rfl, rfl, h2⟩ := h
        obtain ⟨e1, e2, _⟩ := nok.exc c x C0 hc hx
        obtain ⟨ws, hws⟩ := hvs
        have hot : Hot1 (X.suite a ((a, oe) :: pn)).A (a, oe) := ⟨rfl, ws, hws, hz.2.2 ws hws⟩
        have P1 := fun p p2 p3 p4 => pe_isVE (Z := X.suite a ((a, oe) :: pn)) (i := 1) (p := p) (p2 := p2) (p3 := p3) (p4 := p4) e1 hz.zc ⟨ws, hws⟩ (List.mem_cons_self ..) hN1 b3 b8 b9 nok.free.1 nok.free.2.2 e2
        have P2 := fun p p2 p3 => pe_named (Z := X.suite a ((a, oe) :: pn)) (k := n) (i := 1) (p := p) (p2 := p2) (p3 := p3) nok rfl rfl rfl rfl rfl (List.mem_cons_self ..) hot ⟨ws, hws⟩ ⟨hr'.dp, hr'.un⟩ b6 hN1 b3
        refine (ps_ret (pe_ifExp (pt_truth (P1 _ _ _ _) (Ev.isTrue_plainT rfl)) (P2 _ _ _) pe_str)).run pins st σ H1 E1 I ?_
        exact ⟨h1, true, rfl, iteT1 ⟨h1, c, x, C0, hc, hx, hz.zc, h2⟩⟩
      · refine ⟨rfl, rfl, ?_⟩
        cases e : C.lam k r [] S with
        | stuck => rw [e] at an; exact an.elim
        | ok v S' =>
          have an2 : Ev.Ans G (fun _ _ _ _ => False) [] (.ok (.d (.str Str.empty)) S') B S H (fun v B' S' H' => ∀ u, Ev.RepV G B' S' H' v u → Q u H') := by
            rw [e] at an
            cases v <;> exact an
          exact fun B' H' s1 r1 u ru => an2.ok s1 r1 (.str Str.empty) rfl
        | exc c S' =>
          rw [e] at an
          intro B' H' s1 r1 x C0 h1 h2
          have an2 : Ev.Ans G (fun _ _ _ _ => False) [] (.ok (.d (.str (nd.q.lab (nd.kit c)))) S') B S H (fun v B' S' H' => ∀ u, Ev.RepV G B' S' H' v u → Q u H') := by
            have q := an
            simp only [Ev.errR, hlab c x h1] at q
            exact q
          exact wish (B' := B') (S' := S') rfl h1 h2 fun H2 g => an2.ok (s1.trans (Ev.Stp.grow g)) (r1.grow g) _ rfl
    · exact absurd b7 Bool.false_ne_true
  | true =>
    dsimp only at b7
    split at b7
    · rename_i heq
      simp only [Bool.and_eq_true, beq_iff_eq] at b7
      obtain ⟨⟨⟨⟨⟨rfl, rfl⟩, rfl⟩, rfl⟩, rfl⟩, rfl⟩ := b7
      rw [heq]
      refine ⟨_, pss_one (L2N.ps_try_as (X := X) (c := .ref CG) (i := 1) (tb := fun W => tRet (tTup (tCons (fun σ HZ Q => σ[0]? = some (some (.ref f)) ∧ HZ = H ∧ Ev.Ans G (fun cls d _ H' => W cls d σ H') [] (C.lam k r [] S) B S H fun v B' S' H' => ∀ u, Ev.RepV G B' S' H' v u → Q u H') (tCons (tC (.str Str.empty)) tNil))))
        (ts := tsE G nd true) (Wout := fun _ _ _ _ => False) rfl rfl FS.nd hN1 b4 names noN (fun W pn xe tk _ => pss_one (ps_ret (pe_tup (pa_cons (got W pn xe _ _ tk) (pa_cons pe_str pa_nil))))) (fun a oe cls d' pn hz hvs => ?_)), ?_⟩
      · refine pss_one ⟨fun pins st σ H1 E1 I h => ?_⟩
        obtain ⟨h1, c, x, C0, hc, hx, rfl, rfl, h2⟩ := h
        obtain ⟨ws, hws⟩ := hvs
        have hot : Hot1 (X.suite a ((a, oe) :: pn)).A (a, oe) := ⟨rfl, ws, hws, hz.2.2 ws hws⟩
        have P2 := fun p p2 p3 => pe_named (Z := X.suite a ((a, oe) :: pn)) (k := n) (i := 1) (p := p) (p2 := p2) (p3 := p3) nok rfl rfl rfl rfl rfl (List.mem_cons_self ..) hot ⟨ws, hws⟩ ⟨hr'.dp, hr'.un⟩ b6 hN1 b3
        refine (ps_ret (pe_tup (pa_cons pe_non (pa_cons (P2 _ _ _) pa_nil)))).run pins st σ H1 E1 I ?_
        exact ⟨h1, c, x, C0, hc, hx, hz.zc, fun H' g => ⟨small100 (by simp), fun p hp => h2 H' g p hp⟩⟩
      · refine ⟨rfl, rfl, ?_⟩
        cases e : C.lam k r [] S with
        | stuck => rw [e] at an; exact an.elim
        | ok v S' =>
          rw [e] at an
          cases v with
          | d x =>
            have an2 : Ev.Ans G (fun _ _ _ _ => False) [] (.ok (.d (.tup [x, .str Str.empty])) S') B S H (fun v B' S' H' => ∀ u, Ev.RepV G B' S' H' v u → Q u H') := an
            intro B' H' s1 r1 u ru
            refine ⟨small100 (by simp), fun p hp => ?_⟩
            have g := Ev.Grow.new (o := .tup [u, .str Str.empty]) hp
            exact an2.ok (s1.trans (Ev.Stp.grow g)) (r1.grow g) _ ⟨p, [u, .str Str.empty], rfl, .of upd_same, u, [.str Str.empty], rfl, Ev.RepD.ext (g.ext _) r1.liveOk _ _ ru, .str Str.empty, [], rfl, rfl, rfl⟩
          | box j => exact an.elim
          | obj j => exact an.elim
          | clo j q => exact an.elim
        | exc c S' =>
          rw [e] at an
          intro B' H' s1 r1 x C0 h1 h2
          have an2 : Ev.Ans G (fun _ _ _ _ => False) [] (.ok (.d (.tup [.non, .str (nd.q.lab (nd.kit c))])) S') B S H (fun v B' S' H' => ∀ u, Ev.RepV G B' S' H' v u → Q u H') := by
            have q := an
            simp only [Ev.errR, hlab c x h1] at q
            exact q
          refine wish (B' := B') (S' := S') rfl h1 h2 fun H2 g => ?_
          intro p hp
          have r2 := r1.grow g
          have g2 := Ev.Grow.new (o := .tup [.non, .str (nd.q.lab (nd.kit c))]) hp
          exact an2.ok ((s1.trans (Ev.Stp.grow g)).trans (Ev.Stp.grow g2)) (r2.grow g2) _ ⟨p, _, rfl, .of upd_same, .non, [.str (nd.q.lab (nd.kit c))], rfl, rfl, .str (nd.q.lab (nd.kit c)), [], rfl, rfl, rfl⟩
    · exact absurd b7 Bool.false_ne_true
end
end EvH

set_option Elab.async false
set_option linter.all false
set_option autoImplicit false
set_option maxRecDepth 100000
set_option maxHeartbeats 4000000
/-! A def keeps what its core code answers; all levels. Own work. -/
namespace Ev
open PySem PySem.Spec PyProof.Rows L2
section
variable {G : Dom} {C : Calls} {n : Nat}
/-- a def is left -/
theorem leave_ok {W : WX} {x : RS} {B : List Addr} {S : Sto} {H : Hp} {Q : VK} {E : XK} (rl : B.length = S.length)
    (an : Ans G (fun c d _ H' => E c d H') [] (leaveS S.length x) B S H fun v B' S' H' => ∀ u, RepV G B' S' H' v u → Q u H') :
    AnsS G (fun c d _ H' => E c d H') x B S H { nx := fun _ H' => Q .non H', rt := Q } := by
  have cutl : ∀ {B' : List Addr} {S' : Sto} {H' : Hp}, Stp B S H B' S' H' → RepS G B' S' H' → Stp B S H (B'.take S.length) (S'.take S.length) H' ∧ RepS G (B'.take S.length) (S'.take S.length) H' := fun st r => by
    rw [← rl]; exact st.cut r
  cases x with
  | nx r' S' =>
    intro B' H' st rs σ' re
    obtain ⟨s1, r1⟩ := cutl st rs
    exact an.ok s1 r1 .non rfl
  | exc c S' =>
    intro B' H' st rs y C σ' h1 h2
    obtain ⟨s1, r1⟩ := cutl st rs
    exact an _ H' s1 r1 y C h1 h2
  | stuck => exact an
  | ret v S' =>
    intro B' H' st rs u ru
    obtain ⟨s1, r1⟩ := cutl st rs
    cases v with
    | d d =>
      have an2 : Ans G (fun c d _ H' => E c d H') [] (R.ok (.d d) (S'.take S.length)) B S H fun v B' S' H' => ∀ u, RepV G B' S' H' v u → Q u H' := an
      exact an2.ok s1 r1 u (RepD.ext (rs.take _).1 rs.liveOk _ _ ru)
    | clo k r => exact an.elim
    | box j =>
      obtain ⟨p, rfl, hp⟩ := ru
      by_cases hj : j < S.length
      · have an2 : Ans G (fun c d _ H' => E c d H') [] (R.ok (.box j) (S'.take S.length)) B S H fun v B' S' H' => ∀ u, RepV G B' S' H' v u → Q u H' := by
          have := an; simp only [leaveS, leaveV, if_pos hj] at this; exact this
        exact an2.ok s1 r1 _ ⟨p, rfl, by rw [List.getElem?_take_of_lt hj]; exact hp⟩
      · have an' := an
        simp only [leaveS, leaveV, if_neg hj] at an'
        cases hc : S'[j]? with
        | none => rw [hc] at an'; exact an'.elim
        | some c =>
          rw [hc] at an'
          obtain ⟨s2, r2⟩ := st.pick rs (by omega) hc hp
          rw [rl] at s2 r2
          refine an'.ok s2 r2 _ ⟨p, rfl, ?_⟩
          have hl : (B'.take S.length).length = S.length := by
            have := (List.getElem?_eq_some_iff.mp hp).1
            rw [List.length_take]; omega
          rw [List.getElem?_append_right (by omega), hl]
          simp
    | obj j =>
      obtain ⟨p, rfl, hp⟩ := ru
      by_cases hj : j < S.length
      · have an2 : Ans G (fun c d _ H' => E c d H') [] (R.ok (.obj j) (S'.take S.length)) B S H fun v B' S' H' => ∀ u, RepV G B' S' H' v u → Q u H' := by
          have := an; simp only [leaveS, leaveV, if_pos hj] at this; exact this
        exact an2.ok s1 r1 _ ⟨p, rfl, by rw [List.getElem?_take_of_lt hj]; exact hp⟩
      · have an' := an
        simp only [leaveS, leaveV, if_neg hj] at an'
        cases hc : S'[j]? with
        | none => rw [hc] at an'; exact an'.elim
        | some c =>
          rw [hc] at an'
          obtain ⟨s2, r2⟩ := st.pick rs (by omega) hc hp
          rw [rl] at s2 r2
          refine an'.ok s2 r2 _ ⟨p, rfl, ?_⟩
          have hl : (B'.take S.length).length = S.length := by
            have := (List.getElem?_eq_some_iff.mp hp).1
            rw [List.length_take]; omega
          rw [List.getElem?_append_right (by omega), hl]
          simp
/-- a def of the text under look -/
structure DefC where
  x : Str
  st : Stmt
  N : List Str
  ps : List Str
  code : FnC
def DefC.ok (d : DefC) (nm : Names) : Bool := C8.scC d.N d.ps (defScope d.st) && ckSs nm d.N (defScope d.st) d.code.body (defBody d.st) && decide (d.code.ps = d.ps.length) && decide (d.code.ns = d.N.length)
/-- what the making of a lambda asks of the def that runs -/
def MkOk (G : Dom) (N : List Str) (fd : FuncData) : Prop := ∀ q, (N, q) ∈ G.mkq → q = (envOfC fd.qualname fd.scope 0 0 fd.code).qual ++ "<lambda>" ∧ ∃ c P, fd.code = .ref c ∧ LamX.TabB G.base G.mg c P ∧ (P, q) ∈ G.T ∧ ∀ p ∈ G.T, p.1 = P → p.2 = q
theorem fn_level {d : DefC} {a : Addr} {fd : FuncData} {dvs : List V} {kws : List (Str × V)} {qual : Str} (F : FunD G.K d.x qual (defArgs d.st) (defBody d.st) (defScope d.st) dvs kws a fd) (ok : d.ok G.toNames = true) (mk : MkOk G d.N fd) (gok : Gok G C n) :
    FnOk G.prog G.w G.K G.mg G.base (L2N.CX G.prog G.w) (n + 1) a fd d.ps (spF G d.ps.length (runFn C d.code)) := by
  unfold DefC.ok at ok
  simp only [Bool.and_eq_true, decide_eq_true_eq] at ok
  obtain ⟨⟨⟨o1, o2⟩, o3⟩, o4⟩ := ok
  have S := C8.fnScope_by o1
  obtain ⟨oc, od, dV, kV, doc, pm, an0, cdv, ct, osl, rfl, lk, hcd, _, _⟩ := F.ex
  refine fn_of lk hcd S (fun vs H Q E h => h.1) fun A outer s H us Q E hr h => ?_
  obtain ⟨hl, S0, B0, vals, rs, rvs, an⟩ := h
  have hv : vals.length = d.code.ps := by rw [o3, ← hl, rvs.len]
  have an' : Ans G (fun c d _ H' => E c d H') [] (leaveS S0.length (evSs C d.code.body (vals.map some ++ List.replicate (d.code.ns - d.code.ps) none) S0)) B0 S0 H fun v B' S' H' => ∀ u, RepV G B' S' H' v u → Q u H' := by
    have q := an
    unfold runFn at q
    rw [if_pos hv] at q
    exact q
  refine ⟨tS G (fun c d _ H' => E c d H') (evSs C d.code.body), ckSs_ok (n := n) (N := d.N) (sc := defScope d.st) _ _ o2 ?_, vals.map some ++ List.replicate (d.code.ns - d.code.ps) none, S0, B0, ?_, rs, leave_ok (W := fun _ _ _ _ => False) rs.len an'⟩
  · exact { gok := gok, hP := rfl, hw := rfl, hK := rfl, hm := rfl, hb := rfl, hN := rfl, nd := S.nd, hS := rfl, calm := rfl, room := hr, takes := L2N.takes_of rfl rfl rfl rfl, mkl := mk, cab := fun _ _ _ _ => rfl, passes := passes_of (K := fun e s'' => L2N.CX G.prog G.w outer H s E e s'') rfl, fnT := fun _ => rfl }
  · refine ⟨?_, fun i v e => ?_⟩
    · unfold L2.start
      have hp : d.ps.length ≤ d.N.length := by have := congrArg List.length S.pre; rw [List.length_take] at this; omega
      simp [hv, o3, o4, rvs.len]
    · by_cases hi : i < vals.length
      · rw [List.getElem?_append_left (by simpa using hi), List.getElem?_map] at e
        have get : ∀ {vs : List Val} {us : List V} {i : Nat} {v : Val}, RepVs G B0 S0 H vs us → vs[i]? = some v → ∃ u, us[i]? = some u ∧ RepV G B0 S0 H v u := by
          intro vs
          induction vs with
          | nil => intro us i v _ e; simp at e
          | cons w ws ih =>
            intro us i v h e
            obtain ⟨u, r, rfl, h1, h2⟩ := h
            cases i with
            | zero => simp at e; subst e; exact ⟨u, rfl, h1⟩
            | succ i => simpa using ih h2 (by simpa using e)
        cases q : vals[i]? with
        | none => rw [q] at e; cases e
        | some w =>
          rw [q] at e
          simp at e
          subst e
          obtain ⟨u, g1, g2⟩ := get rvs q
          refine ⟨u, ?_, g2⟩
          unfold L2.start
          rw [List.getElem?_append_left (by rw [List.length_map, rvs.len]; exact hi), List.getElem?_map, g1]
          rfl
      · rw [List.getElem?_append_right (by simpa using hi), List.getElem?_replicate] at e
        split at e <;> simp at e
/-! ### all levels -/
/-- what is known of a module's def -/
structure DefOk (G : Dom) (d : DefC) : Prop where
  fn : ∃ a fd, G.mg d.x = some (.ref a) ∧ PySem.W.keepIn G.K (.ref a) = true ∧ Binds G.K fd d.ps [] ∧ MkOk G d.N fd ∧ ∃ qual dvs kws, FunD G.K d.x qual (defArgs d.st) (defBody d.st) (defScope d.st) dvs kws a fd
  ok : d.ok G.toNames = true
theorem runFn_len {C : Calls} {c : FnC} {vs : List Val} {S : Sto} (h : runFn C c vs S ≠ .stuck) : vs.length = c.ps := by
  unfold runFn at h
  by_cases e : vs.length = c.ps
  · exact e
  · rw [if_neg e] at h; exact absurd rfl h
theorem sp_stuck {k : Nat} {m : List Val → Sto → R Val} (hm : ∀ vs S, m vs S = .stuck) {us : List V} {H : Hp} {Q : VK} {E : XK} (h : spF G k m us H Q E) : False := by
  obtain ⟨_, S, B, vs, _, _, an⟩ := h
  rw [hm] at an
  exact an
end
end Ev

set_option Elab.async false
set_option linter.all false
set_option autoImplicit false
set_option maxRecDepth 100000
set_option maxHeartbeats 4000000
/-! A lambda's body is run. Own work. -/
namespace Ev
open PySem PySem.Spec PyProof.Rows L2
/-- the parameters' names -/
def LamD.pn (L : LamD) : List Str := L.ps.map fun i => (L.N[i]?).getD Str.empty
/-- captured names, parameters, globals: nothing else -/
def LamD.ok (L : LamD) : Bool :=
  decide (L.scope.kind = .function) && !L.scope.isCoroutine && !L.scope.isGenerator && decide L.N.Nodup && decide L.ps.Nodup && L.ps.all (fun i => decide (i < L.N.length)) &&
    L.scope.names.all (fun y => decide (L.scope.names.lookup y.1 = some y.2) && (match y.2 with | .cell => false | .local => decide (y.1 ∈ L.pn) | _ => true)) && L.pn.all (fun x => decide (L.scope.names.lookup x = some .local)) && decide L.pn.Nodup
/-- its arguments bind by place -/
def LamBinds (L : LamD) : Prop := ∀ (cl : List (Str × Addr)) (pm cv ctv : Value) (us : List Value), us.length = L.ps.length → bindArgs (PySem.W.kla_fn "<lambda>" L.qual L.params L.body L.scope cl pm cv ctv) ⟨us, []⟩ = pure (L.pn.zip us)
abbrev lamE (L : LamD) (clo : List (Str × Addr)) (Lc f c' : Addr) : PySem.Env := PySem.W.envX L.qual L.scope Lc f (.ref c') clo
def lamX (G : Dom) (L : LamD) (clo : List (Str × Addr)) (A : Around) (outer : List PySem.Env) (s : Shared) (H : Hp) (E : XK) (f c' : Addr) : Cx where
  prog := G.prog
  w := G.w
  K := G.K
  mg := G.mg
  base := G.base
  A := A.deeper (lamE L clo s.heap.objs.size f c')
  N := L.N
  s_0 := s
  H_0 := H
  env := lamE L clo s.heap.objs.size f c'
  outer := outer
  stack := lamE L clo s.heap.objs.size f c' :: outer
  ex := []
  fn := fun _ => false
  calm := true
  pn := []
  xe := fun e s' => wpAny (model G.prog G.w) (A.deeper (lamE L clo s.heap.objs.size f c')) (leaving (lamE L clo s.heap.objs.size f c') e) (fun _ s'' => L2N.CX G.prog G.w outer H s E e s'') (fun e' s'' => L2N.CX G.prog G.w outer H s E e' s'') s'
/-- slots set one behind the other -/
def putS (is : List Nat) (us : List V) (σ : L2.St) : L2.St := (is.zip us).foldl (fun σ p => σ.set p.1 (some p.2)) σ
theorem putS_len : ∀ (is : List Nat) (us : List V) (σ : L2.St), (putS is us σ).length = σ.length
  | [], us, σ => by simp [putS]
  | i :: is, [], σ => by simp [putS]
  | i :: is, u :: us, σ => by
    have := putS_len is us (σ.set i (some u))
    simp only [putS, List.zip_cons_cons, List.foldl_cons] at this ⊢
    rw [this]; simp
theorem putS_out : ∀ (is : List Nat) (us : List V) (σ : L2.St) (j : Nat), j ∉ is → (putS is us σ)[j]? = σ[j]?
  | [], us, σ, j, _ => by simp [putS]
  | i :: is, [], σ, j, _ => by simp [putS]
  | i :: is, u :: us, σ, j, h => by
    have hn : j ≠ i ∧ j ∉ is := by simpa using h
    have := putS_out is us (σ.set i (some u)) j hn.2
    simp only [putS, List.zip_cons_cons, List.foldl_cons] at this ⊢
    rw [this, List.getElem?_set_ne (fun e => hn.1 e.symm)]
theorem putS_in : ∀ (is : List Nat) (us : List V) (σ : L2.St) (j : Nat) (v : V), is.Nodup → (∀ i ∈ is, i < σ.length) → us.length = is.length → j ∈ is → (putS is us σ)[j]? = some (some v) → ∃ m : Nat, is[m]? = some j ∧ us[m]? = some v
  | [], us, σ, j, v, _, _, _, h, _ => by cases h
  | i :: is, [], σ, j, v, _, _, hl, _, _ => by simp at hl
  | i :: is, u :: us, σ, j, v, nd, hb, hl, h, e => by
    have nd' := List.nodup_cons.mp nd
    by_cases hj : j = i
    · subst hj
      have := putS_out is us (σ.set j (some u)) j nd'.1
      simp only [putS, List.zip_cons_cons, List.foldl_cons] at this e
      rw [this, List.getElem?_set_self (hb j (by simp))] at e
      cases e
      exact ⟨0, rfl, rfl⟩
    · have hj' : j ∈ is := by
        rcases List.mem_cons.mp h with z | z
        · exact absurd z hj
        · exact z
      have e' : (putS is us (σ.set i (some u)))[j]? = some (some v) := e
      obtain ⟨m, h1, h2⟩ := putS_in is us (σ.set i (some u)) j v nd'.2 (fun k hk => by rw [List.length_set]; exact hb k (by simp [hk])) (by simpa using hl) hj' e'
      exact ⟨m + 1, by simpa using h1, by simpa using h2⟩
theorem lookup_zip_rev {xs : List Str} {us : List Value} {m : Nat} {x : Str} {u : Value} (nd : xs.Nodup) (hl : us.length = xs.length) (h1 : xs[m]? = some x) (h2 : us[m]? = some u) : (xs.zip us).reverse.lookup x = some u := by
  have hm : (x, u) ∈ (xs.zip us).reverse := by
    rw [List.mem_reverse]
    refine List.mem_of_getElem? (i := m) ?_
    rw [List.getElem?_zip_eq_some]
    exact ⟨h1, h2⟩
  have nd2 : ((xs.zip us).reverse.map (·.1)).Nodup := by
    rw [List.map_reverse, List.map_fst_zip (by omega)]
    unfold List.Nodup at nd ⊢
    rw [List.pairwise_reverse]
    exact nd.imp fun h z => h z.symm
  generalize (xs.zip us).reverse = l at hm nd2
  induction l with
  | nil => cases hm
  | cons p l ih =>
    obtain ⟨y, w⟩ := p
    rw [List.map_cons] at nd2
    have nd3 := List.nodup_cons.mp nd2
    rcases List.mem_cons.mp hm with e | e
    · cases e
      simp
    · have : x ≠ y := fun z => nd3.1 (List.mem_map.mpr ⟨(x, u), e, by rw [z]⟩)
      rw [List.lookup_cons]
      have hb : (x == y) = false := by simpa using this
      rw [hb]
      exact ih e nd3.2
theorem getD_pn {L : LamD} (h : L.ps.all (fun i => decide (i < L.N.length)) = true) {m j : Nat} (e : L.ps[m]? = some j) : ∃ x, L.N[j]? = some x ∧ L.pn[m]? = some x := by
  have hj : j < L.N.length := by
    have := List.all_eq_true.mp h j (List.mem_of_getElem? e)
    simpa using this
  refine ⟨L.N[j], by simp [hj], ?_⟩
  unfold LamD.pn
  rw [List.getElem?_map, e]
  simp [hj]
section
variable {G : Dom} {L : LamD} {clo : List (Str × Addr)} {A : Around} {outer : List PySem.Env} {s : Shared} {H : Hp} {E : XK} {f c' : Addr} {σ0 : L2.St}
theorem lam_inv {us : List Value} {vs : List V} {h1 : Heap} {tk : Nat} (ok : L.ok = true) (C : CloAt L clo s H σ0) (e0 : Env0 G.prog G.w G.K G.mg G.base A outer s H) (hd : A.handled = none) (rv : Vals vs us) (hl : vs.length = L.ps.length)
    (hns : h1.Ns s.heap.objs.size fun x => (L.pn.zip us).reverse.lookup x) (kp : ∀ b o, s.heap.get? b = some o → h1.get? b = some o) :
    L2.Inv (lamX G L clo A outer s H E f c') [] (putS L.ps vs σ0) H { s with heap := h1, toks := tk } := by
  unfold LamD.ok at ok
  simp only [Bool.and_eq_true, Bool.not_eq_true', decide_eq_true_eq] at ok
  obtain ⟨⟨⟨⟨⟨⟨⟨⟨k1, k2⟩, k3⟩, k4⟩, k5⟩, k6⟩, k7⟩, k8⟩, ndp⟩ := ok
  have k7' : ∀ y ∈ L.scope.names, L.scope.names.lookup y.1 = some y.2 ∧ (y.2 ≠ .cell) ∧ (y.2 = .local → y.1 ∈ L.pn) := fun y hy => by
    have q := List.all_eq_true.mp k7 y hy
    simp only [Bool.and_eq_true, decide_eq_true_eq] at q
    refine ⟨q.1, fun z => by rw [z] at q; simp at q, fun z => by rw [z] at q; simpa using q.2⟩
  have cellK : ∀ {c : Addr} {v : Option Value}, s.heap.IsCell c v → h1.IsCell c v := fun {c v} ⟨o, ho, hd⟩ => ⟨o, kp _ _ ho, hd⟩
  have noA : ∀ b : Addr, b ∉ (lamX G L clo A outer s H E f c').ex := fun b z => absurd (show b ∈ ([] : List Addr) from z) (by simp)
  refine ⟨⟨e0.mod, k1, rfl, rfl, Nat.le_refl _, C.inj, fun y hy => ?_, fun y c z _ => ?_, fun _ => hd, Around.frames_deeper e0.frames, .inr ⟨rfl, rfl⟩, fun b z => absurd z (noA b), e0.bs, e0.bsz, fun b _ _ => noA b, fun b z => absurd z (noA b), e0.funs, e0.frf⟩,
    rfl, e0.bare, Un.kept kp, ⟨_, hns, fun i y v e1 e2 e3 => ?_⟩, fun y c e => ?_, e0.hok.fresh (Nat.le_refl _), fun y c e => (C.cell y c e).1, fun q hq => absurd (show q ∈ ([] : List (Addr × Obj)) ++ [] from hq) (by simp), e0.hok.kept kp, by rw [putS_len]; exact C.len⟩
  · have hy : L.scope.names.lookup y = some .cell ∨ L.scope.names.lookup y = some .free := hy
    rcases hy with hy | hy
    · exact absurd rfl (k7' _ (PySem.mem_of_lookup hy)).2.1
    · exact C.has y hy
  · have z : false = true := z
    cases z
  · have e3 : L2.Vis L.scope y := e3
    have e1 : L.N[i]? = some y := e1
    by_cases hi : i ∈ L.ps
    · obtain ⟨m, g1, g2⟩ := putS_in L.ps vs σ0 i v k5 (fun j hj => by rw [C.len]; simpa using List.all_eq_true.mp k6 j hj) hl hi e2
      obtain ⟨x, x1, x2⟩ := getD_pn k6 g1
      rw [e1] at x1; cases x1
      obtain ⟨u, u1, u2⟩ := rv.get g2
      have hloc : L.scope.names.lookup y = some .local := by
        have := List.all_eq_true.mp k8 y (List.mem_of_getElem? x2)
        simpa using this
      exact ⟨u, u2, .inl ⟨hloc, lookup_zip_rev ndp (by rw [← rv.length, hl]; unfold LamD.pn; simp) x2 u1⟩⟩
    · rw [putS_out _ _ _ _ hi] at e2
      rcases e3 with e3 | e3 | e3
      · exfalso
        have hm := (k7' _ (PySem.mem_of_lookup e3)).2.2 rfl
        obtain ⟨m, hm'⟩ := List.getElem?_of_mem hm
        have hml : m < L.ps.length := by
          have := (List.getElem?_eq_some_iff.mp hm').1
          unfold LamD.pn at this
          simpa using this
        obtain ⟨x, x1, x2⟩ := getD_pn k6 (m := m) (j := L.ps[m]) (by simp [hml])
        rw [hm'] at x2; cases x2
        have : i = L.ps[m] := (List.getElem?_inj ((List.getElem?_eq_some_iff.mp e1).1) k4).mp (e1.trans x1.symm)
        exact hi (by rw [this]; exact List.getElem_mem hml)
      · exact absurd rfl (k7' _ (PySem.mem_of_lookup e3)).2.1
      · obtain ⟨c, hc⟩ := C.has y e3
        obtain ⟨_, w, hw, hv⟩ := C.cell y c hc
        obtain ⟨u, rfl, ru⟩ := hv i v e1 e2 e3
        exact ⟨u, ru, .inr ⟨.inr e3, c, hc, cellK hw⟩⟩
  · obtain ⟨_, w, hw, _⟩ := C.cell y c e
    exact ⟨w, cellK hw⟩
/-- THE CALL of a lambda's function object -/
theorem lam_run {n : Nat} {us : List Value} {vs : List V} {pm ctv : Value} {Q : VK} {t : TE} (ok : L.ok = true) (hb : LamBinds L) (hr : Room (n + 1) A) (e0 : Env0 G.prog G.w G.K G.mg G.base A outer s H)
    (hf : s.heap.get? f = some (PySem.W.kla_obj "<lambda>" L.qual L.params L.body L.scope clo pm c' ctv)) (hc : ∃ (oc : Obj) (vs : Array Value) (t : Tok), s.heap.get? c' = some oc ∧ oc.data = .fields vs ∧ vs[1]? = some (.str L.qual t))
    (C : CloAt L clo s H σ0) (rv : Vals vs us) (hl : vs.length = L.ps.length)
    (hbody : Room n (A.deeper (lamE L clo s.heap.objs.size f c')) → PE (lamX G L clo A outer s H E f c') L.body t) (ht : t (putS L.ps vs σ0) H Q) :
    codeAny (model G.prog G.w) A (.call (.ref f) ⟨us, []⟩) (CR (L2N.CX G.prog G.w) outer G.prog G.w H s Q E) s := by
  have ok' := ok
  unfold LamD.ok at ok'
  simp only [Bool.and_eq_true, Bool.not_eq_true', decide_eq_true_eq] at ok'
  obtain ⟨⟨⟨⟨⟨⟨⟨⟨k1, k2⟩, k3⟩, k4⟩, k5⟩, k6⟩, k7⟩, k8⟩, ndp⟩ := ok'
  obtain ⟨oc, ws, tq, hoc, hdc, hvc⟩ := hc
  have hul : us.length = L.ps.length := by rw [← rv.length, hl]
  have lim : s.heap.NoLimit := e0.mod.nolimit.keeps fun b o e => (e0.bs b o e).1
  refine PySem.W.kla_callFunE hr.depth hf rfl k2 k3 rfl ⟨c', oc, ws, tq, rfl, hoc, hdc, hvc⟩ ?_
  rw [hb _ _ _ _ us hul]
  refine wpAny_pure (wpAny_newFunctionEnv (fun y hy => ?_) (fun y hy => ?_) (fun h1 hns hsb => ⟨lim.fresh _ hsb, ?_⟩) k1)
  · have q := List.all_eq_true.mp k7 y hy
    simp only [Bool.and_eq_true, decide_eq_true_eq] at q
    intro z
    rw [z] at q
    simp at q
  · have := List.all_eq_true.mp k8 y.1 (List.of_mem_zip hy).1
    simpa using this
  · show codeAny _ _ (.expr L.body (lamE L clo s.heap.objs.size f c')) _ _
    have kp : ∀ b o, s.heap.get? b = some o → h1.get? b = some o := fun b o e => hsb.extBut b o (Nat.ne_of_lt (Heap.lt_size e)) (Heap.get?_push_of_some _ e)
    have J := lam_inv (G := G) (A := A) (outer := outer) (E := E) (f := f) (c' := c') (tk := s.toks + (L.pn.zip us).length) ok C e0 hr.hd rv hl hns kp
    refine PySem.W.kla_codeExpr (wpAny_mono ((hbody (hr.deeper _)).run [] _ _ H Q J ht) (fun v s' hq => ?_) fun e s' hq => hq)
    obtain ⟨w', H', J', rv', q⟩ := hq
    exact ⟨w', H', J'.os, J'.bare, J'.base, J'.hok, rv', q⟩
end
end Ev

set_option Elab.async false
set_option linter.all false
set_option autoImplicit false
set_option maxRecDepth 100000
set_option maxHeartbeats 4000000
/-! What a lambda promises, by its core code. Own work. -/
namespace Ev
open PySem PySem.Spec PyProof.Rows L2
section
variable {G : Dom} {C : Calls} {n : Nat}
theorem setArgs_len : ∀ {is : List Nat} {vs : List Val} {r r' : Env}, setArgs is vs r = some r' → vs.length = is.length
  | [], vs, r, r', h => by
    cases vs with
    | nil => rfl
    | cons v vs => simp [setArgs] at h
  | i :: is, vs, r, r', h => by
    cases vs with
    | nil => simp [setArgs] at h
    | cons v vs =>
      simp only [setArgs] at h
      split at h
      · simp [setArgs_len h]
      · cases h
theorem setArgs_rep {B : List Addr} {S : Sto} {H : Hp} {r' : Env} : ∀ {is : List Nat} {vs : List Val} {us : List V} {r : Env} {σ : L2.St}, RepE G B S H σ r → setArgs is vs r = some r' → RepVs G B S H vs us → RepE G B S H (putS is us σ) r'
  | [], vs, us, r, σ, re, h, ru => by
    cases vs with
    | nil => simp only [setArgs] at h; cases h; simpa [putS] using re
    | cons v vs => simp [setArgs] at h
  | i :: is, vs, us, r, σ, re, h, ru => by
    cases vs with
    | nil => simp [setArgs] at h
    | cons v vs =>
      simp only [setArgs] at h
      split at h
      · obtain ⟨u, us', rfl, r1, r2⟩ := ru
        exact setArgs_rep (σ := σ.set i (some u)) (re.set r1) h r2
      · cases h
/-- a lambda is left -/
theorem leaveR_ok {σ : L2.St} {x : R Val} {B : List Addr} {S : Sto} {H : Hp} {Q : VK} {E : XK} (rl : B.length = S.length)
    (an : Ans G (fun c d _ H' => E c d H') [] (leaveR S.length x) B S H fun v B' S' H' => ∀ u, RepV G B' S' H' v u → Q u H') :
    Ans G (fun c d _ H' => E c d H') σ x B S H fun v B' S' H' => ∀ u, RepV G B' S' H' v u → Q u H' := by
  have e : leaveR S.length x = leaveS S.length (.of x fun v S => .ret v S) := by cases x <;> rfl
  rw [e] at an
  refine ((leave_ok (W := fun _ _ _ _ => False) rl an).of (σ := σ)).mono fun v B' S' H' s r q u ru => ?_
  exact q B' H' (Stp.refl _ _ _) r u ru
structure LamOk (G : Dom) (LD : LamD) (c : LamC) : Prop where
  ok : LD.ok = true
  binds : LamBinds LD
  ps : c.ps = LD.ps
  ck : ckE G.toNames LD.N LD.scope c.body LD.body = true
  nmk : ∀ q, (LD.N, q) ∉ G.mkq
theorem lam_level {k : Nat} {LD0 : LamD} {c : LamC} (hk : G.lam k = some LD0) (D : LamOk G LD0 c) (gok : Gok G C n) : LamFact G (n + 1) k (runLam C c) := by
  intro LD A outer s H f c' clo pm ctv σ0 r vs us uvals S B Q E h1 hr e0 hf hcode CA rs re rvs rvals an
  rw [hk] at h1
  cases h1
  unfold runLam at an
  cases hs : setArgs c.ps vs r with
  | none => rw [hs] at an; exact an.elim
  | some r2 =>
    rw [hs] at an
    have hl : us.length = LD0.ps.length := by rw [rvs.len, setArgs_len hs, D.ps]
    have re1 := setArgs_rep re hs rvs
    rw [D.ps] at re1
    have an1 := leaveR_ok (σ := putS LD0.ps us σ0) rs.len an
    refine lam_run (n := n) (G := G) (t := tE G (fun cls d _ H' => E cls d H') (evE C c.body)) D.ok D.binds hr e0 hf hcode CA rvals hl (fun hr' => (ckE_ok (n := n) c.body _ LD0.scope _ LD0.body ?_ D.ck).1) ⟨r2, S, B, re1, rs, an1⟩
    have ok' := D.ok
    unfold LamD.ok at ok'
    simp only [Bool.and_eq_true, Bool.not_eq_true', decide_eq_true_eq] at ok'
    exact { gok := gok, hP := rfl, hw := rfl, hK := rfl, hm := rfl, hb := rfl, hN := rfl, nd := ok'.1.1.1.1.1.2, hS := rfl, calm := rfl, room := hr', takes := L2N.takes_of rfl rfl rfl rfl, mkl := fun q hq => absurd hq (D.nmk q), cab := fun q hq => absurd hq (D.nmk q) }
end
end Ev

set_option Elab.async false
set_option linter.all false
set_option autoImplicit false
set_option maxRecDepth 100000
set_option maxHeartbeats 4000000
/-! All levels. Own work. -/
namespace Ev
open PySem PySem.Spec PyProof.Rows L2
section
variable {G : Dom} {C : Calls} {n : Nat}
theorem err_stuck {m : Nat → Env → Sto → R Val} {nd : EvH.NamedD} {d : EvH.ErrD} {told : Bool} (ok : EvH.ErrOk G nd told d) (hm : ∀ k r S, m k r S = .stuck) : ErrFact G n d.x m := by
  obtain ⟨fa, fd, qual, dvs, kws, g1, g2, g3, _⟩ := ok.fn
  refine ⟨fa, fd, d.c, g1, g2, g3, ?_⟩
  intro LD A outer s H f c' clo pm ctv σ0 k r S B Q args hk hr e0 hf hfn hfr hcode CA rs re hb an
  rw [hm] at an
  exact an.elim
theorem gok_all {nd : EvH.NamedD} {ed : Bool → Option EvH.ErrD} {P : Prog} {defs : Nat → Option DefC} (hfn : ∀ f x, G.fname f = some x → ∃ d, defs f = some d ∧ d.x = x) (hP : ∀ f, P.fn f = (defs f).map (·.code)) (hL : ∀ k c, P.lam k = some c → ∃ LD, G.lam k = some LD ∧ LamOk G LD c) (hd : ∀ f d, defs f = some d → DefOk G d)
    (hg : ∀ g x d, G.gname g = some x → P.glob g = some d → ∃ u v, G.mg x = some u ∧ RelV v u ∧ ∀ L H, RepD G L H d v) (hb : ∀ x ∈ blts, G.mg x = none)
    (he : ∀ c x, G.cname c = some x → ∃ Cd, G.mg x = some (.ref Cd) ∧ PySem.W.excIn G.K Cd He.veBase "ValueError.__new__" = true ∧ PySem.W.keepIn G.K (.ref Cd) = true ∧
      PySem.W.subIn G.K (.ref Cd) (.type "BaseException") = some true ∧ PySem.W.typeIn G.K (.ref Cd) = some (.type "type"))
    (hne : ∀ told x, G.ename told = some x → ∃ d, ed told = some d ∧ d.x = x ∧ EvH.NamedOk G nd ∧ EvH.ErrOk G nd told d ∧ ∀ c x, G.cname c = some x → P.label c = some (.str (nd.q.lab (nd.kit c)))) : ∀ n, Gok G (calls P n) n
  | 0 => by
    refine ⟨fun f x e => ?_, fun k => ?_, fun told x e => by obtain ⟨d, _, rfl, _, h, _⟩ := hne told x e; exact err_stuck h fun _ _ _ => rfl, fun g x d e1 e2 => hg g x d e1 (by simpa [calls] using e2), hb, he⟩
    rotate_left
    · intro LD A outer s H f c' clo pm ctv σ0 r vs us uvals S B Q E h1 hr e0 hf hcode CA rs re rvs rvals an
      exact an.elim
    obtain ⟨d, e1, e2⟩ := hfn f x e
    have D := hd f d e1
    obtain ⟨a, fd, h1, h2, h3, _⟩ := D.fn
    refine ⟨a, fd, d.ps, by rw [← e2]; exact h1, h2, h3, ⟨fun vs H Q E h => h.1, fun A outer s H args us vs Q E hr e0 b r hsp => (sp_stuck (fun _ _ => rfl) hsp).elim⟩, fun vs S h => absurd rfl h⟩
  | n + 1 => by
    have ih := gok_all hfn hP hL hd hg hb he hne n
    refine ⟨fun f x e => ?_, fun k => ?_, fun told x e => ?_, fun g x d e1 e2 => hg g x d e1 (by simpa [calls] using e2), hb, he⟩
    rotate_left 2
    · obtain ⟨d, _, rfl, h1, h2, h3⟩ := hne told x e
      cases n with
      | zero => exact err_stuck h2 fun _ _ _ => rfl
      | succ m => exact EvH.err_fact h1 h2 (fun c x h => h3 c x h) ih.lams fun c x h => by obtain ⟨C0, q, _⟩ := he c x h; exact ⟨C0, q⟩
    rotate_left
    · cases hk : P.lam k with
      | none =>
        have ef : (calls P (n + 1)).lam k = fun _ _ _ => .stuck := by
          funext r vs S
          show (match P.lam k with | some c => runLam (calls P n) c r vs S | none => .stuck) = _
          rw [hk]
        rw [ef]
        intro LD A outer s H f c' clo pm ctv σ0 r vs us uvals S B Q E h1 hr e0 hf hcode CA rs re rvs rvals an
        exact an.elim
      | some c =>
        obtain ⟨LD, g1, g2⟩ := hL k c hk
        have ef : (calls P (n + 1)).lam k = runLam (calls P n) c := by
          funext r vs S
          show (match P.lam k with | some c => runLam (calls P n) c r vs S | none => .stuck) = _
          rw [hk]
        rw [ef]
        exact lam_level g1 g2 ih
    obtain ⟨d, e1, e2⟩ := hfn f x e
    have D := hd f d e1
    obtain ⟨a, fd, h1, h2, h3, mk, qual, dvs, kws, F⟩ := D.fn
    have ef : (calls P (n + 1)).fn f = runFn (calls P n) d.code := by
      funext vs S
      show (match P.fn f with | some c => runFn (calls P n) c vs S | none => .stuck) = _
      rw [hP, e1]
      rfl
    have hps : d.code.ps = d.ps.length := by
      have o := D.ok
      unfold DefC.ok at o
      simp only [Bool.and_eq_true, decide_eq_true_eq] at o
      exact o.1.2
    refine ⟨a, fd, d.ps, by rw [← e2]; exact h1, h2, h3, ?_, fun vs S h => ?_⟩
    · rw [ef]; exact fn_level F D.ok mk ih
    · rw [ef] at h; rw [← hps]; exact runFn_len h
end
end Ev

set_option Elab.async false
set_option linter.all false
set_option autoImplicit false
set_option maxRecDepth 100000
set_option maxHeartbeats 4000000
/-! A law's end over the core evaluator: from the head's facts and looks by the kernel. Own work. -/
namespace EvT
open PySem PySem.Spec PyProof.Rows L2 Ev
structure LawD where
  defs : List (Option DefC)
  cls : List Str
  lams : List (LamD × LamC)
  globs : List (Option (Str × D))
  mks : List (List Str × Str × Str)
  nd : EvH.NamedD
  told : Option EvH.ErrD
  err : Option EvH.ErrD
def LawD.erd (L : LawD) (t : Bool) : Option EvH.ErrD := match t with | true => L.told | false => L.err
def LawD.names (L : LawD) : Names where
  fname := fun f => ((L.defs[f]?).join).map (·.x)
  cname := fun c => L.cls[c]?
  gname := fun g => ((L.globs[g]?).join).map (·.1)
  flds := fun _ => []
  lam := fun k => (L.lams[k]?).map (·.1)
  mkq := L.mks.map fun m => (m.1, m.2.1)
  ename := fun t => (L.erd t).map (·.x)
def LawD.prog (L : LawD) : Prog where
  fn := fun f => ((L.defs[f]?).join).map (·.code)
  lam := fun k => (L.lams[k]?).map (·.2)
  glob := fun g => ((L.globs[g]?).join).map (·.2)
  label := fun c => (L.cls[c]?).map fun _ => .str (L.nd.q.lab (L.nd.kit c))
def dd (x : Str) (st : Stmt) : He.DefD := ⟨(x, none), x, x, defArgs st, defBody st, defScope st, [], []⟩
def LawD.ds (L : LawD) : List DefC := L.defs.filterMap id
def LawD.es (L : LawD) : List EvH.ErrD := L.told.toList ++ L.err.toList
def LawD.fn (L : LawD) : List He.DefD := (L.ds.map fun d => dd d.x d.st) ++ (dd L.nd.x L.nd.st :: L.es.map fun d => dd d.x d.st)
def globF : Str × D → Option He.Fa
  | (x, .int i) => some (.int x i)
  | (x, .str s) => some (.str x s)
  | _ => none
def frees : List Str := ["len", "abs", "sum", "max", "min", "sorted", "tuple", "list", "int", "str", "all", "any", "bool", "isinstance", "range", "zip", "enumerate", "ValueError"]
def LawD.fa (L : LawD) : List He.Fa :=
  L.fn.map (fun d => .glo d.name) ++ (L.cls.map .glo ++ (L.cls.map .exc ++ (L.cls.map (fun x => .exm x L.nd.cg true) ++ (.glo L.nd.cg :: (L.nd.q.gs.flatten.map .glo ++ (frees.map .free ++ (L.globs.filterMap id).filterMap globF))))))
def excB (K : PySem.W.Frag) (D : Addr) : Bool :=
  decide (PySem.W.findIn K (.ref D) "__getattribute__" = some (some (.builtin "BaseException.__getattribute__"))) && decide (PySem.W.findIn K (.ref D) "__getattr__" = some none) &&
  decide (PySem.W.subIn K (.ref D) (.type "BaseException") = some true) && PySem.W.hasDictIn K D && decide (PySem.W.findIn K (.ref D) "__class__" = some (some (.builtin "object.__class__"))) &&
  decide (PySem.W.specialIn K (.builtin "object.__class__") "__get__" = some (some (.builtin "getset_descriptor.__get__"))) && decide (PySem.W.takesIn K (.builtin "object.__class__") = some true) && decide (PySem.W.mroIn K D (.type "object") = some true)
theorem excB_ok {K : PySem.W.Frag} {D : Addr} (h : excB K D = true) : ExcC K D := by
  unfold excB at h
  simp only [Bool.and_eq_true, decide_eq_true_eq] at h
  obtain ⟨⟨⟨⟨⟨⟨⟨h1, h2⟩, h3⟩, h4⟩, h5⟩, h6⟩, h7⟩, h8⟩ := h
  exact ⟨h1, h2, h3, h4, h5, h6, h7, h8⟩
def LawD.tf (L : LawD) : List (Str × Option Str) := L.mks.map fun m => (m.2.2, none)
def LawD.tad (L : LawD) (K : PySem.W.Frag) (m : List Str × Str × Str) : Addr := (He.cT K (m.2.2, none)).2
def LawD.ex (L : LawD) (K : PySem.W.Frag) : Bool :=
  ((List.range L.cls.length).all fun c => match L.cls[c]? with
    | some x => excB K (He.ga K x) && decide (PySem.W.kitOne K (.ref (He.ga K x)) (.type "ValueError") = some true) && L.nd.q.gs.flatten.all fun y => decide (PySem.W.kitOne K (.ref (He.ga K x)) (.ref (He.ga K y)) = some (L.nd.kit c y))
    | none => true) && decide ((L.mks.map (L.tad K)).Nodup)
def qOf (x : Str) (sc : Scope) : Str := (envOfC x sc 0 0 .none).qual ++ "<lambda>"
/-- what the kernel looks at, the text alone -/
def LawD.ok (L : LawD) : Bool :=
  L.ds.all (fun d => d.ok L.names) && C8.scC L.nd.N [L.nd.q.e] (defScope L.nd.st) && EvH.nmB L.nd.N (defScope L.nd.st) L.nd.q (defBody L.nd.st) &&
  L.told.all (fun d => EvH.errB L.nd (defScope d.st) d true (defBody d.st)) && L.err.all (fun d => EvH.errB L.nd (defScope d.st) d false (defBody d.st)) &&
  L.lams.all (fun p => p.1.ok && decide (p.2.ps = p.1.ps) && ckE L.names p.1.N p.1.scope p.2.body p.1.body && L.mks.all fun m => !decide (m.1 = p.1.N)) &&
  L.mks.all (fun m => L.ds.all fun d => !decide (m.1 = d.N) || (decide (m.2.2 = d.x) && decide (m.2.1 = qOf d.x (defScope d.st)))) &&
  (L.globs.filterMap id).all fun g => (globF g).isSome
/-- the arguments bind by place -/
def BindD (x : Str) (st : Stmt) (ps : List Str) : Prop := ∀ (kV doc pm : Value) (an : Option Addr) (cdv ct : Value) (us : List Value), us.length = ps.length → bindArgs (PySem.W.fnOf x x (defArgs st) (defBody st) (defScope st) .none kV doc pm an cdv ct) ⟨us, []⟩ = pure (ps.zip us)
def BindDs : List DefC → Prop
  | [] => True
  | d :: r => BindD d.x d.st d.ps ∧ BindDs r
def BindEs : List EvH.ErrD → Prop
  | [] => True
  | d :: r => BindD d.x d.st [d.c] ∧ BindEs r
def BindLs : List (LamD × LamC) → Prop
  | [] => True
  | d :: r => LamBinds d.1 ∧ BindLs r
structure LawD.Bind (L : LawD) : Prop where
  ds : BindDs L.ds
  nd : BindD L.nd.x L.nd.st [L.nd.q.e]
  es : BindEs L.es
  ls : BindLs L.lams
theorem BindDs.at_ : ∀ {l : List DefC}, BindDs l → ∀ d ∈ l, BindD d.x d.st d.ps
  | [], _, _, h => by cases h
  | e :: r, b, d, h => by
    rcases List.mem_cons.mp h with rfl | h
    · exact b.1
    · exact BindDs.at_ b.2 d h
theorem BindEs.at_ : ∀ {l : List EvH.ErrD}, BindEs l → ∀ d ∈ l, BindD d.x d.st [d.c]
  | [], _, _, h => by cases h
  | e :: r, b, d, h => by
    rcases List.mem_cons.mp h with rfl | h
    · exact b.1
    · exact BindEs.at_ b.2 d h
theorem BindLs.at_ : ∀ {l : List (LamD × LamC)}, BindLs l → ∀ d ∈ l, LamBinds d.1
  | [], _, _, h => by cases h
  | e :: r, b, d, h => by
    rcases List.mem_cons.mp h with rfl | h
    · exact b.1
    · exact BindLs.at_ b.2 d h
theorem nodup_inj {a b : Type} {f : a → b} : ∀ {l : List a}, (l.map f).Nodup → ∀ x ∈ l, ∀ y ∈ l, f x = f y → x = y
  | [], _, x, h, _, _, _ => by cases h
  | z :: r, n, x, hx, y, hy, e => by
    rw [List.map_cons, List.nodup_cons] at n
    rcases List.mem_cons.mp hx with hx2 | hx2
    · rcases List.mem_cons.mp hy with hy2 | hy2
      · rw [hx2, hy2]
      · exact absurd (List.mem_map.mpr ⟨y, hy2, by rw [← e, hx2]⟩) n.1
    · rcases List.mem_cons.mp hy with hy2 | hy2
      · exact absurd (List.mem_map.mpr ⟨x, hx2, by rw [e, hy2]⟩) n.1
      · exact nodup_inj n.2 x hx2 y hy2 e
def LawD.T (L : LawD) (K : PySem.W.Frag) : List (Addr × Str) := L.mks.map fun m => (L.tad K m, m.2.1)
def LawD.dom (L : LawD) (prog : Program) (w : World) (K : PySem.W.Frag) (mg : Str → Option Value) (base : Heap) : Dom := { L.names with prog := prog, w := w, K := K, mg := mg, base := base, T := L.T K }
section
variable {L : LawD} {prog : Program} {w : World} {K : PySem.W.Frag} {mg : Str → Option Value} {base h : Heap}
theorem join_some {a : Type} {l : List (Option a)} {i : Nat} {x : a} (e : (l[i]?).join = some x) : x ∈ l.filterMap id := by
  have : l[i]? = some (some x) := by
    cases q : l[i]? with
    | none => rw [q] at e; cases e
    | some o => rw [q] at e; cases o with
      | none => cases e
      | some y => cases e; rfl
  exact List.mem_filterMap.mpr ⟨some x, List.mem_of_getElem? this, rfl⟩
theorem fact (c : He.SaysX L.fa L.fn [] L.tf L.ex w h K) {f : He.Fa} (hf : f ∈ L.fa) : f.ok K = true := He.SaysD.facts c.t.d hf
theorem gl (X : K.In h) (G : h.Ns mainGlobals mg) (c : He.SaysX L.fa L.fn [] L.tf L.ex w h K) {x : Str} (hf : He.Fa.glo x ∈ L.fa) : mg x = some (.ref (He.ga K x)) := He.glo_ok X G (fact c hf)
theorem mem_fn {d : He.DefD} (hd : d ∈ L.fn) : He.Fa.glo d.name ∈ L.fa := List.mem_append_left _ (List.mem_map.mpr ⟨d, hd, rfl⟩)
theorem fn_ds {d : DefC} (hd : d ∈ L.ds) : dd d.x d.st ∈ L.fn := List.mem_append_left _ (List.mem_map.mpr ⟨d, hd, rfl⟩)
theorem fn_nd : dd L.nd.x L.nd.st ∈ L.fn := List.mem_append_right _ (List.mem_cons_self ..)
theorem fn_es {d : EvH.ErrD} (hd : d ∈ L.es) : dd d.x d.st ∈ L.fn := List.mem_append_right _ (List.mem_cons_of_mem _ (List.mem_map.mpr ⟨d, hd, rfl⟩))
/-- a def's function object -/
theorem funD (c : He.SaysX L.fa L.fn [] L.tf L.ex w h K) {x : Str} {st : Stmt} (hd : dd x st ∈ L.fn) : ∃ fd, FunD K x x (defArgs st) (defBody st) (defScope st) [] [] (He.ga K x) fd := He.SaysD.defs c.t.d hd
theorem mk_ok (X : K.In h) (c : He.SaysX L.fa L.fn [] L.tf L.ex w h K) (ok : L.ok = true) (TB : ∀ p ∈ L.tf.map (He.cT K), LamX.TabB base mg p.1 p.2) {d : DefC} (hd : d ∈ L.ds) {fd : FuncData} (F : FunD K d.x d.x (defArgs d.st) (defBody d.st) (defScope d.st) [] [] (He.ga K d.x) fd) :
    MkOk (L.dom prog w K mg base) d.N fd := by
  intro q hq
  obtain ⟨m, hm, e⟩ := List.mem_map.mp hq
  have em1 : m.1 = d.N := congrArg Prod.fst e
  have em2 : m.2.1 = q := congrArg Prod.snd e
  subst em2
  have ok' := ok
  unfold LawD.ok at ok'
  simp only [Bool.and_eq_true] at ok'
  obtain ⟨⟨⟨⟨⟨⟨⟨o1, o2⟩, o3⟩, o4⟩, o5⟩, o6⟩, o7⟩, o8⟩ := ok'
  have z := List.all_eq_true.mp (List.all_eq_true.mp o7 m hm) d hd
  rw [decide_eq_true em1] at z
  simp only [Bool.not_true, Bool.false_or, Bool.and_eq_true, decide_eq_true_eq] at z
  obtain ⟨z1, z2⟩ := z
  obtain ⟨oc, od, dV, kV, doc, pm, an0, cdv, ct, osl, rfl, lk, hcd, _, _⟩ := F.ex
  obtain ⟨cc, rfl⟩ := He.codeIn_ref hcd
  have ec : He.codeOf K (m.2.2, none) = cc := by
    rw [z1]
    exact He.codeOf_eq (p := (d.x, none)) lk rfl
  refine ⟨z2, cc, L.tad K m, rfl, ?_, List.mem_map.mpr ⟨m, hm, rfl⟩, fun p hp e => ?_⟩
  · have t := TB (He.cT K (m.2.2, none)) (List.mem_map.mpr ⟨_, List.mem_map.mpr ⟨m, hm, rfl⟩, rfl⟩)
    have e1 : (He.cT K (m.2.2, none)).1 = cc := ec
    rw [e1] at t
    exact t
  · obtain ⟨m2, hm2, rfl⟩ := List.mem_map.mp hp
    have nd := c.more
    unfold LawD.ex at nd
    simp only [Bool.and_eq_true, decide_eq_true_eq] at nd
    rw [nodup_inj nd.2 m2 hm2 m hm e]
theorem gok (X : K.In h) (G : h.Ns mainGlobals mg) (c : He.SaysX L.fa L.fn [] L.tf L.ex w h K) (ok : L.ok = true) (bd : L.Bind) (TB : ∀ p ∈ L.tf.map (He.cT K), LamX.TabB base mg p.1 p.2) : ∀ n, Gok (L.dom prog w K mg base) (calls L.prog n) n := by
  have ok' := ok
  unfold LawD.ok at ok'
  simp only [Bool.and_eq_true] at ok'
  obtain ⟨⟨⟨⟨⟨⟨⟨o1, o2⟩, o3⟩, o4⟩, o5⟩, o6⟩, o7⟩, o8⟩ := ok'
  have cls1 : ∀ {n : Nat} {x : Str}, L.cls[n]? = some x → x ∈ L.cls := fun e => List.mem_of_getElem? e
  have fglo : ∀ {x : Str}, x ∈ L.cls → He.Fa.glo x ∈ L.fa := fun hx => List.mem_append_right _ (List.mem_append_left _ (List.mem_map.mpr ⟨_, hx, rfl⟩))
  have fexc : ∀ {x : Str}, x ∈ L.cls → He.Fa.exc x ∈ L.fa := fun hx => List.mem_append_right _ (List.mem_append_right _ (List.mem_append_left _ (List.mem_map.mpr ⟨_, hx, rfl⟩)))
  have fexm : ∀ {x : Str}, x ∈ L.cls → He.Fa.exm x L.nd.cg true ∈ L.fa := fun hx => List.mem_append_right _ (List.mem_append_right _ (List.mem_append_right _ (List.mem_append_left _ (List.mem_map.mpr ⟨_, hx, rfl⟩))))
  have fcg : He.Fa.glo L.nd.cg ∈ L.fa := List.mem_append_right _ (List.mem_append_right _ (List.mem_append_right _ (List.mem_append_right _ (List.mem_cons_self ..))))
  have fgs : ∀ {x : Str}, x ∈ L.nd.q.gs.flatten → He.Fa.glo x ∈ L.fa := fun hx => List.mem_append_right _ (List.mem_append_right _ (List.mem_append_right _ (List.mem_append_right _ (List.mem_cons_of_mem _ (List.mem_append_left _ (List.mem_map.mpr ⟨_, hx, rfl⟩))))))
  have ffr : ∀ {x : Str}, x ∈ frees → He.Fa.free x ∈ L.fa := fun hx => List.mem_append_right _ (List.mem_append_right _ (List.mem_append_right _ (List.mem_append_right _ (List.mem_cons_of_mem _ (List.mem_append_right _ (List.mem_append_left _ (List.mem_map.mpr ⟨_, hx, rfl⟩)))))))
  have fgb : ∀ {f : He.Fa}, f ∈ (L.globs.filterMap id).filterMap globF → f ∈ L.fa := fun hx => List.mem_append_right _ (List.mem_append_right _ (List.mem_append_right _ (List.mem_append_right _ (List.mem_cons_of_mem _ (List.mem_append_right _ (List.mem_append_right _ hx))))))
  have free : ∀ {x : Str}, x ∈ frees → mg x = none := fun hx => He.free_ok X G (fact c (ffr hx))
  have exB : ∀ {n : Nat} {x : Str}, L.cls[n]? = some x → excB K (He.ga K x) = true ∧ PySem.W.kitOne K (.ref (He.ga K x)) (.type "ValueError") = some true ∧ ∀ y ∈ L.nd.q.gs.flatten, PySem.W.kitOne K (.ref (He.ga K x)) (.ref (He.ga K y)) = some (L.nd.kit n y) := by
    intro n x e
    have z := c.more
    unfold LawD.ex at z
    simp only [Bool.and_eq_true] at z
    have hn : n < L.cls.length := (List.getElem?_eq_some_iff.mp e).1
    have z1 := List.all_eq_true.mp z.1 n (List.mem_range.mpr hn)
    rw [e] at z1
    simp only [Bool.and_eq_true, decide_eq_true_eq] at z1
    exact ⟨z1.1.1, z1.1.2, fun y hy => by simpa using List.all_eq_true.mp z1.2 y hy⟩
  have nok : EvH.NamedOk (L.dom prog w K mg base) L.nd := by
    obtain ⟨fd, F⟩ := funD c fn_nd
    refine ⟨⟨_, fd, _, _, _, gl X G c (mem_fn fn_nd), F.kp, F.bindsN bd.nd, F⟩, o2, o3, fun n x D e1 e2 => ?_, ⟨_, gl X G c fcg, fun n x D e1 e2 => ?_⟩, free (by decide +kernel), free (by decide +kernel), free (by decide +kernel)⟩
    · have e3 : mg x = some (.ref (He.ga K x)) := gl X G c (fglo (cls1 e1))
      have e4 : mg x = some (.ref D) := e2
      rw [e3] at e4
      cases e4
      obtain ⟨b1, b2, b3⟩ := exB e1
      exact ⟨excB_ok b1, b2, fun y hy => ⟨_, gl X G c (fgs hy), b3 y hy⟩⟩
    · have e3 : mg x = some (.ref (He.ga K x)) := gl X G c (fglo (cls1 e1))
      have e4 : mg x = some (.ref D) := e2
      rw [e3] at e4
      cases e4
      exact He.exm_ok (fact c (fexm (cls1 e1)))
  refine gok_all (nd := L.nd) (ed := L.erd) (defs := fun f => (L.defs[f]?).join) ?_ (fun f => rfl) ?_ ?_ ?_ ?_ ?_ ?_
  · intro f x e
    have e' : ((L.defs[f]?).join).map (·.x) = some x := e
    obtain ⟨d, e1, e2⟩ := Option.map_eq_some_iff.mp e'
    exact ⟨d, e1, e2⟩
  · intro k cc e
    have e' : (L.lams[k]?).map (·.2) = some cc := e
    obtain ⟨p, e1, rfl⟩ := Option.map_eq_some_iff.mp e'
    have hm : p ∈ L.lams := List.mem_of_getElem? e1
    have z := List.all_eq_true.mp o6 p hm
    simp only [Bool.and_eq_true, decide_eq_true_eq] at z
    refine ⟨p.1, ?_, z.1.1.1, bd.ls.at_ p hm, z.1.1.2, z.1.2, fun q hq => ?_⟩
    · show (L.lams[k]?).map (·.1) = _
      rw [e1]
      rfl
    · obtain ⟨m, hm, em⟩ := List.mem_map.mp hq
      have z2 := List.all_eq_true.mp z.2 m hm
      have em1 : m.1 = p.1.N := congrArg Prod.fst em
      rw [decide_eq_true em1] at z2
      cases z2
  · intro f d e
    have hd : d ∈ L.ds := join_some e
    obtain ⟨fd, F⟩ := funD c (fn_ds hd)
    exact ⟨⟨_, fd, gl X G c (mem_fn (fn_ds hd)), F.kp, F.bindsN (bd.ds.at_ d hd), mk_ok X c ok TB hd F, _, _, _, F⟩, List.all_eq_true.mp o1 d hd⟩
  · intro g x d e1 e2
    have e1' : ((L.globs[g]?).join).map (·.1) = some x := e1
    have e2' : ((L.globs[g]?).join).map (·.2) = some d := e2
    cases e : (L.globs[g]?).join with
    | none => rw [e] at e1'; cases e1'
    | some p =>
      rw [e] at e1' e2'
      obtain ⟨px, pd⟩ := p
      have ex1 : px = x := Option.some.inj e1'
      have ex2 : pd = d := Option.some.inj e2'
      subst ex1 ex2
      have hm := join_some e
      have z := List.all_eq_true.mp o8 _ hm
      cases pd with
      | int i =>
        obtain ⟨t, ht⟩ := He.int_ok X G (fact c (fgb (List.mem_filterMap.mpr ⟨_, hm, rfl⟩)))
        exact ⟨_, .int i, ht, ⟨t, rfl⟩, fun _ _ => rfl⟩
      | str i =>
        obtain ⟨t, ht⟩ := He.str_ok X G (fact c (fgb (List.mem_filterMap.mpr ⟨_, hm, rfl⟩)))
        exact ⟨_, .str i, ht, ⟨t, rfl⟩, fun _ _ => rfl⟩
      | _ => simp [globF] at z
  · intro x hx
    refine free ?_
    have : ∀ x ∈ blts, x ∈ frees := by decide +kernel
    exact this x hx
  · intro n x e
    have e' : L.cls[n]? = some x := e
    obtain ⟨h1, h2, h3, h4⟩ := He.exc_ok (fact c (fexc (cls1 e')))
    exact ⟨_, gl X G c (fglo (cls1 e')), h1, h2, h3, h4⟩
  · intro t x e
    have e' : (L.erd t).map (·.x) = some x := e
    obtain ⟨d, e1, e2⟩ := Option.map_eq_some_iff.mp e'
    have hd : d ∈ L.es := by
      cases t with
      | true => exact List.mem_append_left _ (by rw [show L.told = some d from e1]; simp)
      | false => exact List.mem_append_right _ (by rw [show L.err = some d from e1]; simp)
    obtain ⟨fd, F⟩ := funD c (fn_es hd)
    refine ⟨d, e1, e2, nok, ⟨⟨_, fd, _, _, _, gl X G c (mem_fn (fn_es hd)), F.kp, F.bindsN (bd.es.at_ d hd), F⟩, ?_⟩, fun n y hy => ?_⟩
    · cases t with
      | true => rw [show L.told = some d from e1] at o4; exact o4
      | false => rw [show L.err = some d from e1] at o5; exact o5
    · have hy' : L.cls[n]? = some y := hy
      show (L.cls[n]?).map _ = _
      rw [hy']
      rfl
end
theorem repDs_ints {G : Dom} {Lv : Addr → Prop} {H : Hp} : ∀ ns : List Int, RepDs G Lv H (ns.map D.int) (ns.map V.int)
  | [] => rfl
  | n :: r => ⟨.int n, _, rfl, rfl, repDs_ints r⟩
/-- THE END: the law's def answers True -/
theorem law_walk {l : PySem.W.OpenLaw} {n k i : Nat} {q : Program} {loose : List Str} {XP : (Str → Option Value) → Heap → Prop} {d : DefRec} {x : Str} {ld : DefC} (L : LawD)
    (hn : l.most = some n) (hn2 : n ≤ sizeLine) (hdf : d.params.defaults = []) (hr : Room (k + 1) callerA) (hi : L.defs[i]? = some (some ld)) (hx : d.name = ld.x) (hp : ld.ps = [x]) (ok : L.ok = true) (bd : L.Bind)
    (law : ∀ (ns : List Int) (s : D), ns.length ≤ n → (∀ z ∈ ns, Builtin.Int.intBits z ≤ 1048576) → s = .scr ns ∨ s = .lst (ns.map .int) → (calls L.prog (k + 1)).fn i [.d s] [] = .ok (.d (.bl true)) []) :
    PySem.W.WalkO q loose XP (He.hookX 4 L.fa L.fn [] L.tf L.ex).says l.row.toRowW d [] (fun f vs => PySem.call f vs) := by
  refine Att.attach_callB hn hdf fun w s₀ s₁ mg mb fa o pm cd doc a vs ns G Y ho hd hcd hmg hobj hints hlen hbits hg => ?_
  obtain ⟨K, KX, c⟩ := Y
  have hm : ld ∈ L.ds := List.mem_filterMap.mpr ⟨some ld, List.mem_of_getElem? hi, rfl⟩
  obtain ⟨fd, F⟩ := funD c (fn_ds hm)
  have efa := hmg
  have efa2 : mg ld.x = some (.ref (He.ga K ld.x)) := gl KX G.T.g c (mem_fn (fn_ds hm))
  rw [hx, efa2] at efa
  cases efa
  have b := F.bindsA (bd.ds.at_ ld hm)
  rw [hp] at b
  have dok : ld.ok L.names = true := by
    have ok' := ok
    unfold LawD.ok at ok'
    simp only [Bool.and_eq_true] at ok'
    exact List.all_eq_true.mp ok'.1.1.1.1.1.1.1 ld hm
  have ef : (calls L.prog (k + 1)).fn i = runFn (calls L.prog k) ld.code := by
    funext us S
    show (match ((L.defs[i]?).join).map (·.code) with | some c => runFn (calls L.prog k) c us S | none => .stuck) = _
    rw [hi]
    rfl
  let sp : Sp := fun us H Q E => ∀ base : Heap, spF (L.dom l.prog w K mg base) 1 (runFn (calls L.prog k) ld.code) us H Q E
  refine LamX.law_callTs (CX := L2N.CX l.prog w) (k := k + 1) (cs := L.tf.map (He.cT K)) (fd := fd) (x := x) (sp := sp) KX G.T.g G.T.b G.T.builtins G.T.nolimit hg ?_ ?_ ?_ G.T.bmain hobj hints (Nat.le_trans hlen hn2) hr ?_ (fun s u => b s [u] rfl) ?_ ?_
  · intro p hp
    obtain ⟨t, ht, rfl⟩ := List.mem_map.mp hp
    exact c.empty t ht
  · intro p hp
    obtain ⟨t, ht, rfl⟩ := List.mem_map.mp hp
    exact c.out t ht
  · intro p hp
    obtain ⟨t, ht, rfl⟩ := List.mem_map.mp hp
    exact PySem.W.codeHd_of_K KX (c.hd t ht)
  · intro base KB GB TB
    have f := fn_level (G := L.dom l.prog w K mg base) (d := ld) F dok (mk_ok KX c ok TB hm F) (gok KX G.T.g c ok bd TB k)
    rw [hp] at f
    exact f.imp fun vs H Q E h => h base
  · intro H hH hS base
    refine ⟨rfl, [], [], ?_⟩
    have tabs : LamX.Tabs (L.dom l.prog w K mg base).T H := by
      intro p hp
      obtain ⟨m, hm, rfl⟩ := List.mem_map.mp hp
      refine ⟨#[], hH (He.cT K (m.2.2, none)) (List.mem_map.mpr ⟨_, List.mem_map.mpr ⟨m, hm, rfl⟩, rfl⟩), True.intro, fun pos cv hc => ?_⟩
      cases hc
    have rs : RepS (L.dom l.prog w K mg base) [] [] H := ⟨rfl, fun i c a h => by simp at h, fun i j c d a h => by simp at h, tabs⟩
    have fin : ∀ s : D, s = .scr ns ∨ s = .lst (ns.map .int) → RepD (L.dom l.prog w K mg base) (Live [] []) H s (.ref a) → ∃ vs, RepS (L.dom l.prog w K mg base) [] [] H ∧ RepVs (L.dom l.prog w K mg base) [] [] H vs [.ref a] ∧
        Ans (L.dom l.prog w K mg base) (fun c d _ H' => False) [] (runFn (calls L.prog k) ld.code vs []) [] [] H fun v B' S' H' => ∀ u, RepV (L.dom l.prog w K mg base) B' S' H' v u → u = .bl true := by
      intro s hs r
      refine ⟨[.d s], rs, ⟨.ref a, [], rfl, repV_d.mpr r, rfl⟩, ?_⟩
      have e := law ns s hlen hbits hs
      rw [ef] at e
      rw [e]
      intro B' H' _ _ u hu
      exact repV_d.mp hu
    rcases hS with (hS | ⟨ob, hS⟩) | hS
    · exact fin (.lst (ns.map .int)) (.inr rfl) ⟨a, _, rfl, hS, fun z => (by obtain ⟨_, _, z, _⟩ := z; simp at z), repDs_ints ns⟩
    · exact fin (.scr ns) (.inl rfl) ⟨a, rfl, .inl ⟨ob, hS⟩⟩
    · exact fin (.scr ns) (.inl rfl) ⟨a, rfl, .inr fun _ => .inr hS⟩
  · intro H e s' h
    obtain ⟨_, _, _, _, _, _, _, _, _, _, _, _, z⟩ := h
    exact z
end EvT

set_option Elab.async false
set_option linter.all false
set_option autoImplicit false
set_option maxRecDepth 100000
set_option maxHeartbeats 4000000
/-! Texts cut at a sign and joined, as lists of signs. Own work. -/
namespace Tx
open PySem PySem.StrLaws Builtin Builtin.Str
def mkS (l : List Nat) : Str := ⟨l.toArray⟩
def unS (x : Str) : List Nat := x.cps.toList
@[simp] theorem mk_un (x : Str) : mkS (unS x) = x := by cases x; simp [mkS, unS]
@[simp] theorem un_mk (l : List Nat) : unS (mkS l) = l := by simp [mkS, unS]
theorem mkS_inj {a b : List Nat} (h : mkS a = mkS b) : a = b := by rw [← un_mk a, h, un_mk]
theorem unS_len (x : Str) : (unS x).length = x.length := by simp [unS, Str.length]
theorem mkS_len (l : List Nat) : (mkS l).length = l.length := by rw [← unS_len, un_mk]
theorem mkS_app (a b : List Nat) : mkS a ++ mkS b = mkS (a ++ b) := by
  show Str.mk (a.toArray ++ b.toArray) = _
  simp [mkS]
theorem unS_app (a b : Str) : unS (a ++ b) = unS a ++ unS b := by rw [← mk_un a, ← mk_un b, mkS_app, un_mk, un_mk, un_mk]
def splitC (c : Nat) : List Nat → List (List Nat)
  | [] => [[]]
  | d :: r => if d = c then [] :: splitC c r else (match splitC c r with | p :: q => (d :: p) :: q | [] => [[d]])
def joinC (c : Nat) : List (List Nat) → List Nat
  | [] => []
  | [x] => x
  | x :: y :: r => x ++ c :: joinC c (y :: r)
def posC (c : Nat) : Nat → List Nat → List Nat
  | _, [] => []
  | i, d :: r => if d = c then i :: posC c (i + 1) r else posC c (i + 1) r
theorem occ_fold (x : Str) (c lim : Nat) (hl : x.length < lim) : ∀ (k i : Nat) (a : Array Nat) (f : Nat), i + k = x.length + 1 → a.size ≤ i → f ≤ i →
    (forIn (List.range' i k) (a, f) (occBody x ⟨#[c]⟩ x.length lim)).run.fst.toList = a.toList ++ posC c i ((unS x).drop i)
  | 0, i, a, f, h, _, _ => by
    rw [List.drop_eq_nil_of_le (by rw [unS_len]; omega)]
    simp [posC]
  | k + 1, i, a, f, h, h1, h2 => by
    rw [List.range'_succ, List.forIn_cons]
    have key := subAt_one x c i
    unfold occBody
    by_cases hc : x.cps.toList[i]? = some c
    · obtain ⟨q1, q2⟩ := key.mpr hc
      rw [if_pos ⟨⟨⟨(show a.size < lim by omega), h2⟩, q1⟩, q2⟩]
      have hi : i < (unS x).length := (List.getElem?_eq_some_iff.mp hc).1
      rw [List.drop_eq_getElem_cons hi]
      have hv : (unS x)[i] = c := by
        have := (List.getElem?_eq_some_iff.mp hc).2
        exact this
      have ih := occ_fold x c lim hl k (i + 1) (a.push i) (i + (⟨#[c]⟩ : Str).length) (by omega) (by simp; omega) (by show i + 1 ≤ i + 1; omega)
      rw [hv]
      simp only [posC, if_pos]
      have e : ∀ z : Array Nat × Nat, (do
          let r ← (pure (ForInStep.yield z) : Id (ForInStep (Array Nat × Nat)))
          match r with
          | ForInStep.done b => pure b
          | ForInStep.yield b => forIn (List.range' (i + 1) k) b (occBody x ⟨#[c]⟩ x.length lim)) = forIn (List.range' (i + 1) k) z (occBody x ⟨#[c]⟩ x.length lim) := fun z => rfl
      show (forIn (List.range' (i + 1) k) (a.push i, i + (⟨#[c]⟩ : Str).length) (occBody x ⟨#[c]⟩ x.length lim)).run.fst.toList = _
      rw [ih]
      simp
    · have hn : ¬(((a.size < lim ∧ f ≤ i) ∧ i + (⟨#[c]⟩ : Str).length ≤ x.length) ∧ subAt x ⟨#[c]⟩ i = true) := fun z => hc (key.mp ⟨z.1.2, z.2⟩)
      rw [if_neg hn]
      have ih := occ_fold x c lim hl k (i + 1) a f (by omega) (by omega) (by omega)
      show (forIn (List.range' (i + 1) k) (a, f) (occBody x ⟨#[c]⟩ x.length lim)).run.fst.toList = _
      rw [ih]
      by_cases hi : i < (unS x).length
      · rw [List.drop_eq_getElem_cons hi]
        have hv : ¬ (unS x)[i] = c := fun z => hc (by rw [show x.cps.toList = unS x from rfl, List.getElem?_eq_getElem hi, z])
        simp only [posC, if_neg hv]
      · rw [List.drop_eq_nil_of_le (by omega), List.drop_eq_nil_of_le (by omega)]
        simp [posC]
theorem occ_pos (x : Str) (c : Nat) : occurrences x ⟨#[c]⟩ 0 x.length (x.length + 1) = posC c 0 (unS x) := by
  rw [occ_eq]
  have := occ_fold x c (x.length + 1) (by omega) (x.length + 1) 0 #[] 0 (by omega) (by simp) (by omega)
  simpa using this
def pre (u : List Nat) : List (List Nat) → List (List Nat)
  | [] => [u]
  | p :: q => (u ++ p) :: q
theorem pre_nil {s : List (List Nat)} (h : s ≠ []) : pre [] s = s := by
  cases s with
  | nil => exact absurd rfl h
  | cons p q => rfl
theorem splitC_ne (c : Nat) : ∀ l, splitC c l ≠ []
  | [] => by simp [splitC]
  | d :: r => by
    unfold splitC
    split
    · simp
    · split <;> simp
theorem strSub_mk (x : Str) (a b : Nat) : strSub x a b = mkS (((unS x).drop a).take (b - a)) := by
  rw [← mk_un (strSub x a b)]
  congr 1
  unfold unS strSub
  simp
theorem parts_eq (x : Str) (c : Nat) : ∀ (r : List Nat) (a i : Nat), a ≤ i → i ≤ x.length → (unS x).drop i = r → partsFrom x 1 a (posC c i r) = (pre (((unS x).drop a).take (i - a)) (splitC c r)).map mkS
  | [], a, i, h1, h2, e => by
    have hi : i = x.length := by
      have := congrArg List.length e
      rw [List.length_drop, unS_len] at this
      simp at this
      omega
    simp only [posC, partsFrom, splitC, pre, List.map_cons, List.map_nil, List.append_nil]
    rw [strSub_mk, ← hi]
  | d :: r, a, i, h1, h2, e => by
    have hi : i < (unS x).length := by
      rw [← Nat.not_le]
      intro z
      rw [List.drop_eq_nil_of_le z] at e
      cases e
    have e2 : (unS x).drop (i + 1) = r := by
      rw [List.drop_eq_getElem_cons hi] at e
      exact (List.cons.inj e).2
    have ed : (unS x)[i] = d := by
      rw [List.drop_eq_getElem_cons hi] at e
      exact (List.cons.inj e).1
    rw [unS_len] at hi
    by_cases hd : d = c
    · simp only [posC, if_pos hd, partsFrom, splitC]
      rw [parts_eq x c r (i + 1) (i + 1) (Nat.le_refl _) (by omega) e2, strSub_mk]
      simp only [Nat.sub_self, List.take_zero]
      rw [pre_nil (splitC_ne c r)]
      simp [pre]
    · simp only [posC, if_neg hd, splitC]
      rw [parts_eq x c r a (i + 1) (by omega) (by omega) e2]
      have et : ((unS x).drop a).take (i + 1 - a) = ((unS x).drop a).take (i - a) ++ [d] := by
        rw [show i + 1 - a = (i - a) + 1 by omega, List.take_succ]
        congr 1
        rw [List.getElem?_drop, show a + (i - a) = i by omega, List.getElem?_eq_getElem (by rw [unS_len]; omega), ed]
        rfl
      rw [et]
      cases q : splitC c r with
      | nil => exact absurd q (splitC_ne c r)
      | cons p s => simp [pre]
theorem splitC_single {c : Nat} : ∀ {l : List Nat}, c ∉ l → splitC c l = [l]
  | [], _ => rfl
  | d :: r, h => by
    have h' : ¬ d = c ∧ c ∉ r := by simpa [eq_comm] using h
    unfold splitC
    rw [if_neg h'.1, splitC_single h'.2]
theorem posC_nil {c : Nat} : ∀ {l : List Nat} {i : Nat}, posC c i l = [] → c ∉ l
  | [], _, _ => by simp
  | d :: r, i, h => by
    unfold posC at h
    by_cases hd : d = c
    · rw [if_pos hd] at h; cases h
    · rw [if_neg hd] at h
      simp [posC_nil h, Ne.symm hd]
theorem split_eq (x : Str) (c : Nat) (hc : c < 256) : Txt.split x (mkS [c]) = (splitC c (unS x)).map mkS := by
  show Txt.split x ⟨#[c]⟩ = _
  have hk : Builtin.Str.strKind ⟨#[c]⟩ = 1 := by unfold Builtin.Str.strKind; simp [hc]
  have hk2 : decide (Builtin.Str.strKind x < Builtin.Str.strKind ⟨#[c]⟩) = false := by
    rw [hk]
    apply decide_eq_false
    unfold Builtin.Str.strKind
    split
    · omega
    · split <;> omega
  unfold Txt.split
  rw [hk2, Bool.or_false, occ_pos]
  by_cases h0 : x.length < (⟨#[c]⟩ : Str).length
  · rw [if_pos (by simpa using h0)]
    have : unS x = [] := by
      apply List.eq_nil_of_length_eq_zero
      rw [unS_len]
      have : (⟨#[c]⟩ : Str).length = 1 := rfl
      omega
    rw [this]
    simp only [splitC, List.map_cons, List.map_nil]
    rw [← mk_un x, this]
  · rw [if_neg (by simpa using h0)]
    split
    · rename_i h
      have h' : posC c 0 (unS x) = [] := by simpa using h
      rw [splitC_single (posC_nil h')]
      simp
    · rw [partsBetween_eq]
      show partsFrom x 1 0 _ = _
      rw [parts_eq x c (unS x) 0 0 (Nat.le_refl _) (Nat.zero_le _) rfl]
      simp only [List.take_zero, Nat.sub_self]
      rw [pre_nil (splitC_ne _ _)]
theorem join_eq (c : Nat) : ∀ xs : List (List Nat), Str.join (mkS [c]) (xs.map mkS) = mkS (joinC c xs)
  | [] => rfl
  | [x] => rfl
  | x :: y :: r => by
    have ih := join_eq c (y :: r)
    show mkS x ++ mkS [c] ++ Str.join (mkS [c]) ((y :: r).map mkS) = _
    rw [ih, mkS_app, mkS_app]
    simp [joinC]
theorem join_split (c : Nat) : ∀ l, joinC c (splitC c l) = l
  | [] => rfl
  | d :: r => by
    have ih := join_split c r
    unfold splitC
    by_cases hd : d = c
    · rw [if_pos hd]
      cases q : splitC c r with
      | nil => exact absurd q (splitC_ne c r)
      | cons p s =>
        rw [q] at ih
        simp [joinC, ih, hd]
    · rw [if_neg hd]
      cases q : splitC c r with
      | nil => exact absurd q (splitC_ne c r)
      | cons p s =>
        rw [q] at ih
        cases s with
        | nil => simp [joinC] at ih ⊢; exact ih
        | cons p2 s =>
          simp only [joinC] at ih ⊢
          rw [← ih]
          simp
theorem splitC_app {c : Nat} : ∀ {u : List Nat} {r : List Nat}, c ∉ u → splitC c (u ++ c :: r) = u :: splitC c r
  | [], r, _ => by simp [splitC]
  | d :: u, r, h => by
    have h' : ¬ d = c ∧ c ∉ u := by simpa [eq_comm] using h
    rw [List.cons_append, splitC, if_neg h'.1, splitC_app h'.2]
theorem split_join {c : Nat} : ∀ {xs : List (List Nat)}, xs ≠ [] → (∀ x ∈ xs, c ∉ x) → splitC c (joinC c xs) = xs
  | [], h, _ => absurd rfl h
  | [x], _, h => splitC_single (h x (by simp))
  | x :: y :: r, _, h => by
    show splitC c (x ++ c :: joinC c (y :: r)) = _
    rw [splitC_app (h x (by simp)), split_join (by simp) fun z hz => h z (by simp [hz])]
theorem split_len (c : Nat) : ∀ l, (splitC c l).length ≤ l.length + 1
  | [] => by simp [splitC]
  | d :: r => by
    have ih := split_len c r
    unfold splitC
    split
    · simp; omega
    · split
      · rename_i p q e; rw [e] at ih; simp at ih ⊢; omega
      · simp
theorem split_mem (c : Nat) : ∀ (l : List Nat) (p : List Nat), p ∈ splitC c l → c ∉ p ∧ ∀ z ∈ p, z ∈ l
  | [], p, h => by simp [splitC] at h; subst h; simp
  | d :: r, p, h => by
    have ih := split_mem c r
    unfold splitC at h
    by_cases hd : d = c
    · rw [if_pos hd] at h
      rcases List.mem_cons.mp h with rfl | h
      · simp
      · exact ⟨(ih p h).1, fun z hz => by simp [(ih p h).2 z hz]⟩
    · rw [if_neg hd] at h
      cases q : splitC c r with
      | nil => exact absurd q (splitC_ne c r)
      | cons p2 s =>
        rw [q] at h ih
        rcases List.mem_cons.mp h with rfl | h
        · have := ih p2 (by simp)
          refine ⟨by simp [this.1, Ne.symm hd], fun z hz => ?_⟩
          rcases List.mem_cons.mp hz with rfl | hz
          · simp
          · simp [this.2 z hz]
        · have := ih p (by simp [h])
          exact ⟨this.1, fun z hz => by simp [this.2 z hz]⟩
theorem join_len (c : Nat) : ∀ xs : List (List Nat), (xs.map List.length).sum + xs.length = (joinC c xs).length + (if xs = [] then 0 else 1)
  | [] => rfl
  | [x] => by simp [joinC]
  | x :: y :: r => by
    have ih := join_len c (y :: r)
    simp only [joinC, List.map_cons, List.sum_cons, List.length_cons, List.length_append] at ih ⊢
    simp at ih ⊢
    omega
theorem join_mem (c : Nat) : ∀ (xs : List (List Nat)) (z : Nat), z ∈ joinC c xs → z = c ∨ ∃ x ∈ xs, z ∈ x
  | [], z, h => by simp [joinC] at h
  | [x], z, h => .inr ⟨x, by simp, h⟩
  | x :: y :: r, z, h => by
    simp only [joinC, List.mem_append, List.mem_cons] at h
    rcases h with h | h | h
    · exact .inr ⟨x, by simp, h⟩
    · exact .inl h
    · rcases join_mem c (y :: r) z h with h | ⟨u, h1, h2⟩
      · exact .inl h
      · exact .inr ⟨u, by simp at h1 ⊢; exact .inr h1, h2⟩
/-! ### numbers of at most two figures -/
def numL (n : Nat) : List Nat := if n < 10 then [48 + n] else [48 + n / 10, 48 + n % 10]
def numS (i : Int) : Str := (toString i : String)
theorem num_all : ∀ n ∈ List.range 100, numS ((n : Nat) : Int) = mkS (numL n) := by decide +kernel
theorem numS_eq {n : Nat} (h : n < 100) : numS ((n : Nat) : Int) = mkS (numL n) := num_all n (List.mem_range.mpr h)
theorem figs_all : (List.range 10).all (fun a => decide (intText? (mkS [48 + a]) = some (a : Int)) && (List.range 10).all fun b => decide (intText? (mkS [48 + a, 48 + b]) = some ((10 * a + b : Nat) : Int))) = true := by decide +kernel
theorem figs1 {a : Nat} (h : a < 10) : intText? (mkS [48 + a]) = some (a : Int) := by
  have := List.all_eq_true.mp figs_all a (List.mem_range.mpr h)
  simp only [Bool.and_eq_true, decide_eq_true_eq] at this
  exact this.1
theorem figs2 {a b : Nat} (h : a < 10) (hb : b < 10) : intText? (mkS [48 + a, 48 + b]) = some ((10 * a + b : Nat) : Int) := by
  have := List.all_eq_true.mp figs_all a (List.mem_range.mpr h)
  simp only [Bool.and_eq_true, decide_eq_true_eq] at this
  have := List.all_eq_true.mp this.2 b (List.mem_range.mpr hb)
  simpa using this
end Tx

set_option Elab.async false
set_option linter.all false
set_option autoImplicit false
set_option maxRecDepth 100000
set_option maxHeartbeats 4000000
/-! The evaluator, read by rewriting. Own work. -/
namespace Ev
open PySem
section
variable {C : Calls} {r : Env} {S : Sto}
theorem R.bind_ok {a b : Type} {x : a} {S : Sto} {f : a → Sto → R b} : R.bind (.ok x S) f = f x S := rfl
theorem R.bind_exc {a b : Type} {c : Nat} {S : Sto} {f : a → Sto → R b} : R.bind (.exc c S) f = .exc c S := rfl
theorem bindP_ok {a : Type} {x : D} {S : Sto} {f : D → Sto → R a} : bindP (.ok (.d x) S) f = f x S := rfl
theorem bindP_exc {a : Type} {c : Nat} {S : Sto} {f : D → Sto → R a} : bindP (.exc c S) f = .exc c S := rfl
theorem bindD_ok {a : Type} {x : D} {S : Sto} {f : D → Sto → R a} : bindD (.ok (.d x) S) f = f x S := rfl
theorem bindD_exc {a : Type} {c : Nat} {S : Sto} {f : D → Sto → R a} : bindD (.exc c S) f = .exc c S := rfl
theorem ofO_some {a : Type} {x : a} {S : Sto} : R.ofO (some x) S = .ok x S := rfl
theorem ofO_none {a : Type} {S : Sto} : (R.ofO (none : Option a) S) = .stuck := rfl
theorem rsof_ok {a : Type} {x : a} {S : Sto} {f : a → Sto → RS} : RS.of (.ok x S) f = f x S := rfl
theorem rsof_exc {a : Type} {c : Nat} {S : Sto} {f : a → Sto → RS} : RS.of (R.exc c S : R a) f = .exc c S := rfl
theorem rsofO_some {a : Type} {x : a} {f : a → RS} : RS.ofO (some x) f = f x := rfl
theorem andThen_nx {r : Env} {S : Sto} {f : Env → Sto → RS} : (RS.nx r S).andThen f = f r S := rfl
theorem andThen_ret {v : Val} {S : Sto} {f : Env → Sto → RS} : (RS.ret v S).andThen f = .ret v S := rfl
theorem andThen_exc {c : Nat} {S : Sto} {f : Env → Sto → RS} : (RS.exc c S).andThen f = .exc c S := rfl
theorem e_var {i : Nat} : evE C (.var i) r S = .ofO (getV r i) S := by simp only [evE] <;> rfl
theorem e_lit {x : D} : evE C (.lit x) r S = .ok (.d x) S := by simp only [evE] <;> rfl
theorem e_fnr {f : Nat} : evE C (.fnr f) r S = .ok (.d (.fn f)) S := by simp only [evE] <;> rfl
theorem e_glob {g : Nat} : evE C (.glob g) r S = .ofO ((C.glob g).map .d) S := by simp only [evE] <;> rfl
theorem e_tup {es : List Ex} : evE C (.tup es) r S = (evDs C es r S).bind fun xs S => .ok (.d (.tup xs)) S := by simp only [evE] <;> rfl
theorem e_lst {es : List Ex} : evE C (.lst es) r S = (evDs C es r S).bind fun xs S => .ok (.d (.lst xs)) S := by simp only [evE] <;> rfl
theorem e_box {es : List Ex} : evE C (.box es) r S = (evDs C es r S).bind fun xs S => .ok (.box S.length) (S ++ [.lst xs]) := by simp only [evE] <;> rfl
theorem e_neg {e : Ex} : evE C (.neg e) r S = bindP (evE C e r S) fun x S => (match x with | .int i => .ok (.d (.int (-i))) S | _ => .stuck) := by simp only [evE] <;> rfl
theorem e_not {e : Ex} : evE C (.not e) r S = bindP (evE C e r S) fun x S => (match x with | .bl b => .ok (.d (.bl (!b))) S | _ => .stuck) := by simp only [evE] <;> rfl
theorem e_bin {op : BOp} {a b : Ex} : evE C (.bin op a b) r S = bindP (evE C a r S) fun x S => bindP (evE C b r S) fun y S => .ofO ((binD op x y).map .d) S := by simp only [evE] <;> rfl
theorem e_cmp {op : COp} {a b : Ex} : evE C (.cmp op a b) r S = (evE C a r S).bind fun v S => bindD (evE C b r S) fun y S => (match rdV S v with | some x => .ofO ((cmpD op x y).map fun b => .d (.bl b)) S | none => .stuck) := by simp only [evE] <;> rfl
theorem e_chain {o1 o2 : COp} {a b c : Ex} : evE C (.chain o1 o2 a b c) r S = bindP (evE C a r S) fun x S => bindP (evE C b r S) fun y S => (match cmpD o1 x y with
    | some true => bindP (evE C c r S) fun z S => .ofO ((cmpD o2 y z).map fun b => .d (.bl b)) S
    | some false => .ok (.d (.bl false)) S
    | none => .stuck) := by simp only [evE] <;> rfl
theorem e_bool {b : Bool} {es : List Ex} : evE C (.bool b es) r S = evBool C b es r S := by simp only [evE] <;> rfl
theorem e_ite {c : Tx} {a b : Ex} : evE C (.ite c a b) r S = (evT C c r S).bind fun t S => if t then evE C a r S else evE C b r S := by simp only [evE] <;> rfl
theorem e_idx {a b : Ex} : evE C (.idx a b) r S = (evE C a r S).bind fun v S => bindP (evE C b r S) fun y S => (match rdV S v with | some x => .ofO ((idxD x y).map .d) S | none => .stuck) := by simp only [evE] <;> rfl
theorem e_cut {a : Ex} {lo hi : List Ex} : evE C (.cut a lo hi) r S = bindP (evE C a r S) fun x S => (evDs C lo r S).bind fun l S => (match optI l with
    | none => .stuck
    | some l => (evDs C hi r S).bind fun h S => (match optI h with
      | none => .stuck
      | some h => .ofO ((cutD x l h).map .d) S)) := by simp only [evE] <;> rfl
theorem e_rev {a : Ex} : evE C (.rev a) r S = bindP (evE C a r S) fun x S => (match x with | .lst xs => .ok (.d (.lst xs.reverse)) S | _ => .stuck) := by simp only [evE] <;> rfl
theorem e_back {h : Nat} {a : Ex} : evE C (.back h a) r S = bindP (evE C a r S) fun x S => (match x with | .lst xs => .ok (.d (.lst (xs.drop (h + 1)).reverse)) S | _ => .stuck) := by simp only [evE] <;> rfl
theorem e_call {f : Nat} {es : List Ex} : evE C (.call f es) r S = (evVs C es r S).bind fun vs S => C.fn f vs S := by simp only [evE] <;> rfl
theorem e_bi {b : Bi} {e : Ex} : evE C (.bi b e) r S = bindP (evE C e r S) fun x S => .ofO ((biD b x).map .d) S := by simp only [evE] <;> rfl
theorem e_len {e : Ex} : evE C (.len e) r S = bindD (evE C e r S) fun x S => .ofO ((biD .len x).map .d) S := by simp only [evE] <;> rfl
theorem e_isi {e : Ex} {c : Cls} : evE C (.isi e c) r S = bindP (evE C e r S) fun x S => if noFn x then .ok (.d (.bl (x.cls c))) S else .stuck := by simp only [evE] <;> rfl
theorem e_fstr {es : List Ex} : evE C (.fstr es) r S = (evCat C es Str.empty r S).bind fun a S => .ok (.d (.str a)) S := by simp only [evE] <;> rfl
theorem e_fmt {e : Ex} : evE C (.fmt e) r S = bindP (evE C e r S) fun x S => .ofO ((fmtD x).map fun a => .d (.str a)) S := by simp only [evE] <;> rfl
theorem e_split {a b : Ex} : evE C (.split a b) r S = bindP (evE C a r S) fun x S => (match x with
    | .str t => bindP (evE C b r S) fun y S => .ofO ((splitD (.str t) y).map .d) S
    | _ => .stuck) := by simp only [evE] <;> rfl
theorem e_join {a b : Ex} : evE C (.join a b) r S = bindP (evE C a r S) fun x S => (match x with
    | .str t => bindP (evE C b r S) fun y S => .ofO ((joinD (.str t) y).map .d) S
    | _ => .stuck) := by simp only [evE] <;> rfl
theorem e_pop0 {i : Nat} : evE C (.pop0 i) r S = (match boxAt r S i with
    | some (n, x :: xs) => .ok (.d x) (S.set n (.lst xs))
    | _ => .stuck) := by simp only [evE] <;> rfl
theorem e_errl {k : Nat} {cap : List Nat} {told : Bool} : evE C (.errl k cap told) r S = (match C.err told k (keepV r cap) S with
    | .ok v S => .ok v S
    | _ => .stuck) := by simp only [evE] <;> rfl
theorem q_val {e : Ex} : evT C (.val e) r S = bindD (evE C e r S) fun x S => .ofO (truD x) S := by simp only [evT] <;> rfl
theorem q_not {t : Tx} : evT C (.not t) r S = (evT C t r S).bind fun b S => .ok (!b) S := by simp only [evT] <;> rfl
theorem q_and {ts : List Tx} : evT C (.bool true ts) r S = evAnd C ts r S := by simp only [evT] <;> rfl
theorem q_or {ts : List Tx} : evT C (.bool false ts) r S = evOr C ts r S := by simp only [evT] <;> rfl
theorem and_nil : evAnd C [] r S = .ok true S := by simp only [evAnd] <;> rfl
theorem and_cons {t : Tx} {ts : List Tx} : evAnd C (t :: ts) r S = (evT C t r S).bind fun b S => if b then evAnd C ts r S else .ok false S := by simp only [evAnd] <;> rfl
theorem or_nil : evOr C [] r S = .ok false S := by simp only [evOr] <;> rfl
theorem or_cons {t : Tx} {ts : List Tx} : evOr C (t :: ts) r S = (evT C t r S).bind fun b S => if b then .ok true S else evOr C ts r S := by simp only [evOr] <;> rfl
theorem ds_nil : evDs C [] r S = .ok [] S := by simp only [evDs] <;> rfl
theorem ds_cons {e : Ex} {es : List Ex} : evDs C (e :: es) r S = bindP (evE C e r S) fun x S => (evDs C es r S).bind fun xs S => .ok (x :: xs) S := by simp only [evDs] <;> rfl
theorem vs_nil : evVs C [] r S = .ok [] S := by simp only [evVs] <;> rfl
theorem vs_cons {e : Ex} {es : List Ex} : evVs C (e :: es) r S = (evE C e r S).bind fun x S => (evVs C es r S).bind fun xs S => .ok (x :: xs) S := by simp only [evVs] <;> rfl
theorem cat_nil {a : Str} : evCat C [] a r S = .ok a S := by simp only [evCat] <;> rfl
theorem cat_cons {e : Ex} {es : List Ex} {a : Str} : evCat C (e :: es) a r S = bindP (evE C e r S) fun x S => (match x with
    | .str y => if (a ++ y).length ≤ sizeMax then evCat C es (a ++ y) r S else .stuck
    | _ => .stuck) := by simp only [evCat] <;> rfl
theorem bool_one {b : Bool} {e : Ex} : evBool C b [e] r S = evE C e r S := by simp only [evBool] <;> rfl
theorem bool_cons {b : Bool} {e f : Ex} {es : List Ex} : evBool C b (e :: f :: es) r S = bindP (evE C e r S) fun x S => (match x with
      | .bl c => if c == b then evBool C b (f :: es) r S else .ok (.d (.bl c)) S
      | _ => .stuck) := by
  rw [evBool] <;> rfl
theorem s_set_ {t : Tg} {e : Ex} : evS C (.set t e) r S = .of (evE C e r S) fun v S => .ofO (setV t v r) fun r => .nx r S := by simp only [evS] <;> rfl
theorem s_setp_ {is : List Nat} {es : List Ex} : evS C (.setp is es) r S = .of (evVs C es r S) fun vs S => .ofO (setPar is vs r) fun r => .nx r S := by simp only [evS] <;> rfl
theorem s_ret_ {e : Ex} : evS C (.ret e) r S = .of (evE C e r S) fun v S => .ret v S := by simp only [evS] <;> rfl
theorem s_ifs_ {c : Tx} {a b : List St} : evS C (.ifs c a b) r S = .of (evT C c r S) fun t S => if t then evSs C a r S else evSs C b r S := by simp only [evS] <;> rfl
theorem s_forr_ {k : IK} {es : List Ex} {tg : Tg} {body : List St} : evS C (.forr k es tg body) r S = .of ((evDs C es r S).bind fun xs S => .ofO (walkD k xs) S) fun its S => loopF (fun x r S => .ofO (setT tg x r) fun r => evSs C body r S) its r S := by simp only [evS] <;> rfl
theorem s_rais_ {c : Nat} {x : Str} : evS C (.rais c x) r S = .exc c S := by simp only [evS] <;> rfl
theorem s_append_ {i : Nat} {e : Ex} : evS C (.append i e) r S = .ofO (boxAt r S i) fun _ => .of (bindP (evE C e r S) fun x S => .ok x S) fun x S => .ofO (boxAt r S i) fun (n, xs) => if xs.length < sizeMax then .nx r (S.set n (.lst (xs ++ [x]))) else .stuck := by simp only [evS] <;> rfl
theorem s_expr_ {e : Ex} : evS C (.expr e) r S = .of (evE C e r S) fun _ S => .nx r S := by simp only [evS] <;> rfl
theorem s_frz_ {i : Nat} : evS C (.frz i) r S = .ofO (boxAt r S i) fun (n, xs) => .nx (r.set i (some (.d (.lst xs)))) (S.set n .dead) := by simp only [evS] <;> rfl
theorem ss_nil_ : evSs C [] r S = .nx r S := by simp only [evSs] <;> rfl
theorem ss_cons_ {s : St} {ss : List St} : evSs C (s :: ss) r S = (evS C s r S).andThen fun r S => evSs C ss r S := by simp only [evSs] <;> rfl
end
/-! ### comprehensions -/
theorem get_at {a : Type} {A B : List a} {x : a} : (A ++ x :: B)[A.length]? = some x := by simp
theorem set_at {a : Type} {A B : List a} {x y : a} : (A ++ x :: B).set A.length y = A ++ y :: B := by simp
theorem compLoop_ok {f : D → Sto → R (Option D)} (h : D → Option D) {S : Sto} : ∀ (xs : List D) (acc : List D), (∀ x ∈ xs, ∀ T, f x T = .ok (h x) T) → acc.length + xs.length ≤ sizeMax →
    compLoop f S.length xs (S ++ [.lst acc]) = .ok (acc ++ xs.filterMap h) (S ++ [.dead])
  | [], acc, _, _ => by
    unfold compLoop
    rw [get_at]
    simp only [List.filterMap_nil, List.append_nil]
    rw [set_at]
  | x :: xs, acc, hf, hl => by
    unfold compLoop
    rw [hf x (by simp)]
    have hl' : acc.length + (xs.length + 1) ≤ sizeMax := hl
    cases e : h x with
    | none =>
      simp only [List.filterMap_cons, e]
      exact compLoop_ok h xs acc (fun y hy => hf y (by simp [hy])) (by omega)
    | some y =>
      simp only [List.filterMap_cons, e]
      rw [get_at]
      simp only
      rw [if_pos (by omega), set_at]
      rw [compLoop_ok h xs (acc ++ [y]) (fun y hy => hf y (by simp [hy])) (by simp; omega)]
      simp
theorem e_comp_ {C : Calls} {k : IK} {es : List Ex} {tg : Tg} {ifs : List Tx} {elt : Ex} {own : List Nat} {r : Env} {S : Sto} {vs its : List D} (h : D → Option D) (h1 : evDs C es r S = .ok vs S) (h2 : walkD k vs = some its) (hl : its.length ≤ sizeMax)
    (hb : ∀ x ∈ its, ∀ T, ∃ r1, setT tg x (wipeV r own) = some r1 ∧ ((evAnd C ifs r1 T).bind fun t S => if t then bindP (evE C elt r1 S) fun y S => .ok (some y) S else .ok none S) = .ok (h x) T) :
    evE C (.comp k es tg ifs elt own) r S = .ok (.d (.lst (its.filterMap h))) S := by
  simp only [evE]
  rw [h1]
  simp only [R.bind_ok]
  rw [h2]
  simp only [ofO_some, R.bind_ok]
  rw [compLoop_ok h its [] (fun x hx T => ?_) (by simpa using hl)]
  · simp only [R.bind_ok, List.nil_append]
    rw [List.take_append_of_le_length (Nat.le_refl _), List.take_length]
  · obtain ⟨r1, e1, e2⟩ := hb x hx T
    rw [e1]
    exact e2
/-- no test: each item is kept -/
theorem e_compm {C : Calls} {k : IK} {es : List Ex} {tg : Tg} {elt : Ex} {own : List Nat} {r : Env} {S : Sto} {vs its : List D} (g : D → D) (h1 : evDs C es r S = .ok vs S) (h2 : walkD k vs = some its) (hl : its.length ≤ sizeMax)
    (hb : ∀ x ∈ its, ∀ T, ∃ r1, setT tg x (wipeV r own) = some r1 ∧ evE C elt r1 T = .ok (.d (g x)) T) :
    evE C (.comp k es tg [] elt own) r S = .ok (.d (.lst (its.map g))) S := by
  rw [e_comp_ (fun x => some (g x)) h1 h2 hl fun x hx T => ?_]
  · congr 3
    induction its with
    | nil => rfl
    | cons a l ih => simp
  · obtain ⟨r1, e1, e2⟩ := hb x hx T
    refine ⟨r1, e1, ?_⟩
    rw [and_nil, R.bind_ok, if_pos rfl, e2]
    rfl
theorem loopF_inv {f : D → Env → Sto → RS} {its : List D} (I : List D → Env → Sto → Prop) (h : ∀ a x b, its = a ++ x :: b → ∀ r S, I a r S → ∃ r' S', f x r S = .nx r' S' ∧ I (a ++ [x]) r' S') :
    ∀ r S, I [] r S → ∃ r' S', loopF f its r S = .nx r' S' ∧ I its r' S' := by
  have key : ∀ (b a : List D), its = a ++ b → ∀ r S, I a r S → ∃ r' S', loopF f b r S = .nx r' S' ∧ I its r' S' := by
    intro b
    induction b with
    | nil => intro a e r S i; exact ⟨r, S, rfl, by rw [e, List.append_nil]; exact i⟩
    | cons x b ih =>
      intro a e r S i
      obtain ⟨r1, S1, e1, i1⟩ := h a x b e r S i
      obtain ⟨r2, S2, e2, i2⟩ := ih (a ++ [x]) (by simp [e]) r1 S1 i1
      exact ⟨r2, S2, by unfold loopF; rw [e1]; exact e2, i2⟩
  intro r S i
  exact key its [] rfl r S i
end Ev

set_option Elab.async false
set_option linter.all false
set_option autoImplicit false
set_option maxRecDepth 100000
set_option maxHeartbeats 4000000
/-! The evaluator's parts at known values. Own work. -/
namespace Ev
open PySem
section
variable {a : Type} {r : Env} {S T : Sto} {v : Val} {o : Option Val} {i j : Int} {k n : Nat} {x y z : D} {xs ys : List D}
theorem getV_0 : getV (some v :: r) 0 = some v := rfl
theorem getV_s : getV (o :: r) (k + 1) = getV r k := by unfold getV; rw [List.getElem?_cons_succ]
theorem truD_bl {b : Bool} : truD (.bl b) = some b := rfl
theorem truD_int : truD (.int i) = some (i != 0) := rfl
theorem truD_lst : truD (.lst xs) = some (!xs.isEmpty) := rfl
theorem rdV_d : rdV S (.d x) = some x := rfl
theorem rdV_box {A B : Sto} : rdV (A ++ .lst xs :: B) (.box A.length) = some (.lst xs) := by show (match (A ++ Cell.lst xs :: B)[A.length]? with | some (.lst xs) => some (D.lst xs) | _ => none) = _; rw [get_at]
theorem optI_0 : optI [] = some none := rfl
theorem optI_1 : optI [.int i] = some (some i) := rfl
theorem slot_d : slotV (.d x) = true := rfl
theorem slot_box : slotV (.box n) = true := rfl
theorem setV_v (h : slotV v = true) : setV (.v k) v r = if k < r.length then some (r.set k (some v)) else none := by
  unfold setV
  simp [h]
theorem setV_d : setV (.v k) (.d x) r = if k < r.length then some (r.set k (some (.d x))) else none := setV_v rfl
theorem setV_box : setV (.v k) (.box n) r = if k < r.length then some (r.set k (some (.box n))) else none := setV_v rfl
theorem setV_t {ts : List Tg} : setV (.t ts) (.d (.tup xs)) r = setTs ts xs r := rfl
theorem setT_v : setT (.v k) x r = if k < r.length then some (r.set k (some (.d x))) else none := by rw [setT]
theorem setT_t {ts : List Tg} : setT (.t ts) (.tup xs) r = setTs ts xs r := by rw [setT]
theorem setTs_0 : setTs [] [] r = some r := by rw [setTs]
theorem setTs_c {t : Tg} {ts : List Tg} : setTs (t :: ts) (x :: xs) r = (setT t x r).bind (setTs ts xs) := by rw [setTs]
theorem setPar_0 : setPar [] [] r = some r := rfl
theorem setPar_c {is : List Nat} {vs : List Val} (h : slotV v = true) : setPar (k :: is) (v :: vs) r = if k < r.length then setPar is vs (r.set k (some v)) else none := by
  conv => lhs; unfold setPar
  simp [h]
theorem setPar_d {is : List Nat} {vs : List Val} : setPar (k :: is) (.d x :: vs) r = if k < r.length then setPar is vs (r.set k (some (.d x))) else none := setPar_c rfl
theorem setPar_box {is : List Nat} {vs : List Val} : setPar (k :: is) (.box n :: vs) r = if k < r.length then setPar is vs (r.set k (some (.box n))) else none := setPar_c rfl
theorem wipe_0 : wipeV r [] = r := rfl
theorem wipe_c {is : List Nat} : wipeV r (k :: is) = (wipeV r is).set k none := rfl
theorem obind_some {b : Type} {w : a} {f : a → Option b} : (some w).bind f = f w := rfl
theorem noFn_non : noFn .non = true := rfl
theorem noFn_bl {b : Bool} : noFn (.bl b) = true := rfl
theorem noFn_int : noFn (.int i) = true := rfl
theorem noFn_str {s : Str} : noFn (.str s) = true := rfl
theorem noFn_lst : noFn (.lst xs) = true := rfl
theorem noFn_tup : noFn (.tup xs) = true := rfl
theorem add_ii : binD .add (.int i) (.int j) = some (.int (i + j)) := rfl
theorem sub_ii : binD .sub (.int i) (.int j) = some (.int (i - j)) := rfl
theorem mod_ii (h : 0 < j) : binD .mod (.int i) (.int j) = some (.int (i % j)) := by simp [binD, h]
theorem fdiv_ii (h : 0 < j) (h2 : j.natAbs.log2 < 9000) : binD .fdiv (.int i) (.int j) = some (.int (i / j)) := by simp [binD, h, h2]
theorem mul_ii (h : mulOk i j = true) : binD .mul (.int i) (.int j) = some (.int (i * j)) := by simp [binD, h]
theorem add_tt (h : xs.length + ys.length ≤ sizeMax) : binD .add (.tup xs) (.tup ys) = some (.tup (xs ++ ys)) := by simp [binD, h]
theorem add_ll (h : xs.length + ys.length ≤ sizeMax) : binD .add (.lst xs) (.lst ys) = some (.lst (xs ++ ys)) := by simp [binD, h]
theorem add_ss {s t : Str} (h : s.length + t.length ≤ sizeMax) : binD .add (.str s) (.str t) = some (.str (s ++ t)) := by simp [binD, h]
theorem lt_ii : cmpD .lt (.int i) (.int j) = some (decide (i < j)) := rfl
theorem le_ii : cmpD .le (.int i) (.int j) = some (decide (i ≤ j)) := rfl
theorem gt_ii : cmpD .gt (.int i) (.int j) = some (decide (j < i)) := rfl
theorem ge_ii : cmpD .ge (.int i) (.int j) = some (decide (j ≤ i)) := rfl
theorem is_n : cmpD .is x .non = some (match x with | .non => true | _ => false) := by unfold cmpD; rfl
theorem isnot_n : cmpD .isnot x .non = some (match x with | .non => false | _ => true) := by unfold cmpD; rfl
theorem eq_ok (h1 : okD 60 x = true) (h2 : okD 60 y = true) : cmpD .eq x y = some (eqD x y) := by unfold cmpD; simp [h1, h2]
theorem ne_ok (h1 : okD 60 x = true) (h2 : okD 60 y = true) : cmpD .ne x y = some (!eqD x y) := by unfold cmpD; simp [h1, h2]
theorem idx_t : idxD (.tup xs) (.int i) = atD xs i := rfl
theorem idx_l : idxD (.lst xs) (.int i) = atD xs i := rfl
theorem at_nat {w : List a} : atD w (k : Int) = w[k]? := by
  unfold atD L2.ixN
  rw [if_pos (by omega)]
  by_cases h : (k : Int) < w.length
  · rw [if_pos h]; simp
  · rw [if_neg h, List.getElem?_eq_none (by omega)]; rfl
theorem at_0 {w : List a} {u : a} : atD (u :: w) 0 = some u := by
  have := at_nat (w := u :: w) (k := 0)
  simpa using this
theorem at_1 {w : List a} {u u1 : a} : atD (u :: u1 :: w) 1 = some u1 := by
  have := at_nat (w := u :: u1 :: w) (k := 1)
  simpa using this
theorem at_2 {w : List a} {u u1 u2 : a} : atD (u :: u1 :: u2 :: w) 2 = some u2 := by
  have := at_nat (w := u :: u1 :: u2 :: w) (k := 2)
  simpa using this
theorem at_3 {w : List a} {u u1 u2 u3 : a} : atD (u :: u1 :: u2 :: u3 :: w) 3 = some u3 := by
  have := at_nat (w := u :: u1 :: u2 :: u3 :: w) (k := 3)
  simpa using this
theorem at_4 {w : List a} {u u1 u2 u3 u4 : a} : atD (u :: u1 :: u2 :: u3 :: u4 :: w) 4 = some u4 := by
  have := at_nat (w := u :: u1 :: u2 :: u3 :: u4 :: w) (k := 4)
  simpa using this
theorem cut_l {l h : Option Int} : cutD (.lst xs) l h = some (.lst (cutL xs l h)) := rfl
theorem cut_t {l h : Option Int} : cutD (.tup xs) l h = some (.tup (cutL xs l h)) := rfl
theorem cut_s {s : Str} {l h : Option Int} (hs : s.length ≤ sizeMax) : cutD (.str s) l h = some (.str ⟨(cutL s.cps.toList l h).toArray⟩) := by simp [cutD, hs]
theorem cutL_from {w : List a} : cutL w (some (k : Int)) none = w.drop k := by
  unfold cutL
  rw [HT.sIx_nat, HT.sIx_none]
  by_cases h : k ≤ w.length
  · rw [Nat.min_eq_left h, List.take_of_length_le (by simp)]
  · rw [List.drop_eq_nil_of_le (by omega), List.drop_eq_nil_of_le (by omega)]; simp
theorem cutL_to {w : List a} : cutL w none (some (k : Int)) = w.take k := by
  unfold cutL
  rw [HT.sIx_nat, HT.sIx_none]
  by_cases h : k ≤ w.length
  · rw [Nat.min_eq_left h]; simp
  · rw [Nat.min_eq_right (by omega)]
    simp [List.take_of_length_le (show w.length ≤ k by omega)]
theorem cutL_1 {w : List a} : cutL w (some 1) none = w.drop 1 := cutL_from (k := 1)
theorem cutL_3 {w : List a} : cutL w (some 3) none = w.drop 3 := cutL_from (k := 3)
theorem cutL_t3 {w : List a} : cutL w none (some 3) = w.take 3 := cutL_to (k := 3)
theorem len_l : biD .len (.lst xs) = some (.int xs.length) := rfl
theorem len_t : biD .len (.tup xs) = some (.int xs.length) := rfl
theorem len_s {s : Str} (hs : s.length ≤ sizeMax) : biD .len (.str s) = some (.int s.length) := by simp [biD, hs]
theorem tup_l : biD .tuple (.lst xs) = some (.tup xs) := rfl
theorem list_t : biD .list (.tup xs) = some (.lst xs) := rfl
theorem int_i : biD .int (.int i) = some (.int i) := rfl
theorem bls_map (l : List Bool) : blsD (l.map D.bl) = some l := by
  induction l with
  | nil => rfl
  | cons b l ih => simp [blsD, ih]
theorem all_bl (l : List Bool) : biD .all (.lst (l.map D.bl)) = some (.bl (l.all id)) := by
  unfold biD
  simp only [bls_map]
  rfl
theorem ints_map (l : List Int) : intsD (l.map D.int) = some l := by
  induction l with
  | nil => rfl
  | cons b l ih => simp [intsD, ih]
theorem strs_map (l : List Str) : strsD (l.map D.str) = some l := by
  induction l with
  | nil => rfl
  | cons b l ih => simp [strsD, ih]
theorem leave_d {x : D} : leaveS S.length (.ret (.d x) (S ++ T)) = .ok (.d x) S := by
  show (R.ok (Val.d x) ((S ++ T).take S.length) : R Val) = _
  simp
theorem leave_d0 {x : D} : leaveS S.length (.ret (.d x) S) = .ok (.d x) S := by
  show (R.ok (Val.d x) (S.take S.length) : R Val) = _
  simp
theorem leave_n0 : leaveS S.length (.nx r S) = .ok (.d .non) S := by
  show (R.ok (Val.d .non) (S.take S.length) : R Val) = _
  simp
theorem leave_x0 {c : Nat} : leaveS S.length (.exc c S) = .exc c S := by
  show (R.exc c (S.take S.length) : R Val) = _
  simp
end
end Ev

set_option Elab.async false
set_option linter.all false
set_option autoImplicit false
set_option maxRecDepth 100000
set_option maxHeartbeats 4000000
/-! Streets, their texts, two readers: plain mathematics. Own work. -/
namespace M15
open PySem Ev Tx
def isW (v : D) (lo hi : Int) : Bool := match v with | .int i => decide (lo ≤ i) && decide (i ≤ hi) | _ => false
def isR (v : D) (lo hi : Int) : Bool := match v with | .tup xs => decide (lo ≤ (xs.length : Int)) && decide ((xs.length : Int) ≤ hi) | _ => false
def intV : D → Int | .int i => i | _ => 0
def hdV : D → D | .tup (x :: _) => x | _ => .non
def isL (e : Int) (v : D) : Bool := match v with
  | .tup [a, b, c, d] => isW a 1 (e - 1) && isW b 4 30 && isW c 4 30 && isW d 0 (intV b + intV c - 1)
  | _ => false
def ascD : List D → Bool
  | [] => true
  | x :: r => (match r with | [] => true | y :: _ => decide (intV (hdV x) < intV (hdV y))) && ascD r
def isS (v : D) : Bool := match v with
  | .tup [ls, e, l, q, s] => isW e 1 20 && isW l 0 20 && isW s 1 3 && isW q 1 (intV s) && (match ls with
    | .tup xs => decide (xs.length ≤ 3) && xs.all (isL (intV e)) && ascD xs
    | _ => false)
  | _ => false
/-- a word of one or two figures, its worth -/
def figB (c : Nat) : Bool := decide (48 ≤ c) && decide (c ≤ 57)
def wordB (w : List Nat) : Bool := decide (1 ≤ w.length) && decide (w.length ≤ 2) && w.all figB
def valW : List Nat → Nat
  | [a] => a - 48
  | [a, b] => 10 * (a - 48) + (b - 48)
  | _ => 0
def numIn (w : List Nat) : Int := if wordB w then (valW w : Int) else -1
def intOf (w : List Nat) : D := if wordB w && decide (numL (valW w) = w) then .int (valW w : Int) else .non
def labE : List Nat := [101, 110, 100]
def labA : List Nat := [108, 97, 115, 116]
def labP : List Nat := [112, 97, 99, 101, 115]
def labL : List Nat := [108, 105, 103, 104, 116]
def labs (n : Nat) : List (List Nat) := labE :: labA :: labP :: List.replicate (n - 3) labL
def nl (i : Int) : List Nat := numL i.toNat
def textI (rows : List (List Int)) : List Nat := joinC 10 (List.zipWith (fun lab row => joinC 32 (lab :: row.map nl)) (labs rows.length) rows)
def words (t : List Nat) : List (List (List Nat)) := (splitC 10 t).map (splitC 32)
def rowsI (t : List Nat) : List (List Int) := (words t).map fun w => (w.drop 1).map numIn
def rowsD (t : List Nat) : List (List D) := (words t).map fun w => (w.drop 1).map intOf
def sD (ls : List (List Int)) (e l q s : Int) : D := .tup [.tup (ls.map fun r => .tup (r.map .int)), .int e, .int l, .int q, .int s]
def readF (t : List Nat) : Option D := match rowsI t with
  | [e] :: [l] :: [q, s] :: ls => if isS (sD ls e l q s) = true ∧ textI ([e] :: [l] :: [q, s] :: ls) = t then some (sD ls e l q s) else none
  | _ => none
def readL (t : List Nat) : Option D := if (words t).length < 3 ∨ (words t).map (fun w => w.headD []) ≠ labs (words t).length then none else match rowsD t with
  | [e] :: [l] :: [q, s] :: ls => if isS (.tup [.tup (ls.map .tup), e, l, q, s]) = true then some (.tup [.tup (ls.map .tup), e, l, q, s]) else none
  | _ => none
/-! ### what a street's numbers are -/
def smD (v : D) : Bool := match v with | .int i => decide (0 ≤ i) && decide (i < 100) | _ => false
theorem isW_sm {v : D} {lo hi : Int} (h : isW v lo hi = true) (h1 : 0 ≤ lo) (h2 : hi < 100) : smD v = true := by
  cases v <;> simp [isW] at h
  simp [smD]
  omega
theorem isW_int {v : D} {lo hi : Int} (h : isW v lo hi = true) : v = .int (intV v) ∧ lo ≤ intV v ∧ intV v ≤ hi := by
  cases v <;> simp [isW] at h
  exact ⟨rfl, h⟩
theorem isL_sm {e : Int} {v : D} (he : e ≤ 20) (h : isL e v = true) : ∃ xs, v = .tup xs ∧ xs.length = 4 ∧ xs.all smD = true := by
  unfold isL at h
  split at h
  · rename_i a b c d
    simp only [Bool.and_eq_true] at h
    obtain ⟨⟨⟨h1, h2⟩, h3⟩, h4⟩ := h
    have q2 := isW_int h2
    have q3 := isW_int h3
    refine ⟨_, rfl, rfl, ?_⟩
    simp only [List.all_cons, List.all_nil, Bool.and_true, Bool.and_eq_true]
    exact ⟨isW_sm h1 (by omega) (by omega), isW_sm h2 (by omega) (by omega), isW_sm h3 (by omega) (by omega), isW_sm h4 (by omega) (by omega)⟩
  · cases h
theorem isS_sm {ls e l q s : D} (h : isS (.tup [ls, e, l, q, s]) = true) : smD e = true ∧ smD l = true ∧ smD q = true ∧ smD s = true ∧ ∃ xs, ls = .tup xs ∧ xs.length ≤ 3 ∧ ∀ v ∈ xs, ∃ ys, v = .tup ys ∧ ys.length = 4 ∧ ys.all smD = true := by
  unfold isS at h
  simp only [Bool.and_eq_true] at h
  obtain ⟨⟨⟨⟨h1, h2⟩, h3⟩, h4⟩, h5⟩ := h
  have q1 := isW_int h1
  have q3 := isW_int h3
  refine ⟨isW_sm h1 (by omega) (by omega), isW_sm h2 (by omega) (by omega), isW_sm h4 (by omega) (by omega), isW_sm h3 (by omega) (by omega), ?_⟩
  split at h5
  · rename_i xs
    simp only [Bool.and_eq_true, decide_eq_true_eq] at h5
    exact ⟨xs, rfl, h5.1.1, fun v hv => isL_sm q1.2.2 (List.all_eq_true.mp h5.1.2 v hv)⟩
  · cases h5
theorem smD_ok {v : D} (h : smD v = true) : ∃ n : Nat, v = .int (n : Int) ∧ n < 100 := by
  cases v <;> simp [smD] at h
  rename_i i
  exact ⟨i.toNat, by congr 1; omega, by omega⟩
/-! ### words -/
theorem numL_all : (List.range 100).all (fun n => wordB (numL n) && decide (valW (numL n) = n) && (numL n).all (fun c => decide (c ≠ 10) && decide (c ≠ 32) && decide (c < 128))) = true := by decide +kernel
theorem numL_ok {n : Nat} (h : n < 100) : wordB (numL n) = true ∧ valW (numL n) = n ∧ ∀ c ∈ numL n, c ≠ 10 ∧ c ≠ 32 ∧ c < 128 := by
  have := List.all_eq_true.mp numL_all n (List.mem_range.mpr h)
  simp only [Bool.and_eq_true, decide_eq_true_eq, List.all_eq_true] at this
  exact ⟨this.1.1, this.1.2, fun c hc => ⟨(this.2 c hc).1.1, (this.2 c hc).1.2, (this.2 c hc).2⟩⟩
theorem intOf_sm {w : List Nat} (h : smD (intOf w) = true) : intOf w = .int (numIn w) ∧ nl (numIn w) = w := by
  unfold intOf at h ⊢
  by_cases c : (wordB w && decide (numL (valW w) = w)) = true
  · rw [if_pos c]
    simp only [Bool.and_eq_true, decide_eq_true_eq] at c
    unfold numIn nl
    rw [if_pos c.1]
    exact ⟨rfl, c.2⟩
  · rw [if_neg c] at h
    cases h
theorem intOf_num {n : Nat} (h : n < 100) : intOf (numL n) = .int (n : Int) ∧ numIn (numL n) = (n : Int) := by
  obtain ⟨h1, h2, _⟩ := numL_ok h
  unfold intOf numIn
  rw [h1, h2]
  simp
theorem map_sm {ws : List (List Nat)} (h : (ws.map intOf).all smD = true) : ws.map intOf = (ws.map numIn).map D.int ∧ (ws.map numIn).map nl = ws := by
  induction ws with
  | nil => exact ⟨rfl, rfl⟩
  | cons w r ih =>
    simp only [List.map_cons, List.all_cons, Bool.and_eq_true] at h
    obtain ⟨h1, h2⟩ := intOf_sm h.1
    obtain ⟨h3, h4⟩ := ih h.2
    simp only [List.map_cons]
    rw [h1, h3, h2, h4]
    exact ⟨rfl, rfl⟩
/-- the reader here answers: the other one too -/
theorem readL_F {t : List Nat} {v : D} (h : readL t = some v) : readF t = some v := by
  unfold readL at h
  split at h
  · cases h
  · rename_i hn
    have hl : 3 ≤ (words t).length := by
      rw [← Nat.not_lt]
      exact fun z => hn (.inl z)
    have hh : (words t).map (fun w => w.headD []) = labs (words t).length := by
      cases Decidable.em ((words t).map (fun w => w.headD []) = labs (words t).length) with
      | inl z => exact z
      | inr z => exact absurd (.inr z) hn
    split at h
    · rename_i e l q s ls hr
      split at h
      · rename_i hs
        cases h
        obtain ⟨s1, s2, s3, s4, xs, hx, hx1, hx2⟩ := isS_sm hs
        cases hx
        -- all rows are numbers
        have all : ∀ r ∈ rowsD t, r.all smD = true := by
          intro r hr2
          rw [hr] at hr2
          simp only [List.mem_cons] at hr2
          rcases hr2 with rfl | rfl | rfl | hr2
          · simp [s1]
          · simp [s2]
          · simp [s3, s4]
          · obtain ⟨ys, e1, _, e3⟩ := hx2 (.tup r) (List.mem_map.mpr ⟨r, hr2, rfl⟩)
            cases e1
            exact e3
        have each : ∀ w ∈ words t, (w.drop 1).map intOf = ((w.drop 1).map numIn).map D.int ∧ ((w.drop 1).map numIn).map nl = w.drop 1 := fun w hw => map_sm (all _ (List.mem_map.mpr ⟨w, hw, rfl⟩))
        have eR : rowsD t = (rowsI t).map fun r => r.map D.int := by
          unfold rowsD rowsI
          rw [List.map_map]
          exact List.map_congr_left fun w hw => (each w hw).1
        have eT : textI (rowsI t) = t := by
          have hz : ∀ (W : List (List (List Nat))) (lb : List (List Nat)), W.map (fun w => w.headD []) = lb → (∀ w ∈ W, w ≠ [] ∧ ((w.drop 1).map numIn).map nl = w.drop 1) →
              List.zipWith (fun lab row => joinC 32 (lab :: row.map nl)) lb (W.map fun w => (w.drop 1).map numIn) = W.map (joinC 32) := by
            intro W
            induction W with
            | nil => intro lb e _; cases e; rfl
            | cons w W ih =>
              intro lb e hw
              cases e
              obtain ⟨n1, n2⟩ := hw w (by simp)
              simp only [List.map_cons, List.zipWith_cons_cons]
              rw [ih _ rfl fun z hz => hw z (by simp [hz]), n2]
              cases w with
              | nil => exact absurd rfl n1
              | cons a b => rfl
          unfold textI
          have hlen : (rowsI t).length = (words t).length := by simp [rowsI]
          rw [hlen, ← hh]
          unfold rowsI
          rw [hz (words t) _ rfl fun w hw => ⟨?_, (each w hw).2⟩]
          · unfold words
            rw [List.map_map]
            have : (joinC 32 ∘ splitC 32) = id := by funext l; exact join_split 32 l
            rw [this, List.map_id, join_split]
          · unfold words at hw
            obtain ⟨l, _, rfl⟩ := List.mem_map.mp hw
            exact splitC_ne 32 l
        have hI : ∃ e' l' q' s' ls', rowsI t = [e'] :: [l'] :: [q', s'] :: ls' ∧ e = .int e' ∧ l = .int l' ∧ q = .int q' ∧ s = .int s' ∧ ls = ls'.map fun r => r.map D.int := by
          rw [eR] at hr
          match hq : rowsI t, hr with
          | [e'] :: [l'] :: [q', s'] :: ls', hr =>
            simp only [List.map_cons, List.map_nil, List.cons.injEq, and_true] at hr
            obtain ⟨rfl, rfl, ⟨rfl, rfl⟩, rfl⟩ := hr
            exact ⟨_, _, _, _, _, rfl, rfl, rfl, rfl, rfl, rfl⟩
        obtain ⟨e', l', q', s', ls', h0, rfl, rfl, rfl, rfl, rfl⟩ := hI
        have ev : D.tup [.tup ((ls'.map fun r => r.map D.int).map .tup), .int e', .int l', .int q', .int s'] = sD ls' e' l' q' s' := by
          unfold sD
          rw [List.map_map]
          rfl
        unfold readF
        rw [h0] at eT ⊢
        simp only
        rw [ev] at hs ⊢
        rw [if_pos ⟨hs, eT⟩]
      · cases h
    · cases h
/-! ### the other way -/
theorem labs_ok : ∀ n, ∀ b ∈ labs n, ∀ c ∈ b, c ≠ 10 ∧ c ≠ 32 ∧ c < 128 := by
  intro n b hb c hc
  simp only [labs, List.mem_cons] at hb
  have : ∀ b ∈ [labE, labA, labP, labL], ∀ c ∈ b, c ≠ 10 ∧ c ≠ 32 ∧ c < 128 := by decide
  rcases hb with rfl | rfl | rfl | hb
  · exact this _ (by simp) c hc
  · exact this _ (by simp) c hc
  · exact this _ (by simp) c hc
  · rw [(List.mem_replicate.mp hb).2] at hc
    exact this _ (by simp) c hc
def smR (rows : List (List Int)) : Prop := ∀ r ∈ rows, ∀ i ∈ r, 0 ≤ i ∧ i < 100
theorem nl_ok {i : Int} (h : 0 ≤ i ∧ i < 100) : intOf (nl i) = .int i ∧ numIn (nl i) = i ∧ ∀ c ∈ nl i, c ≠ 10 ∧ c ≠ 32 ∧ c < 128 := by
  unfold nl
  obtain ⟨h1, h2⟩ := intOf_num (n := i.toNat) (by omega)
  have e : ((i.toNat : Nat) : Int) = i := by omega
  rw [e] at h1 h2
  exact ⟨h1, h2, (numL_ok (by omega)).2.2⟩
theorem line_ok {lab : List Nat} {row : List Int} (hl : ∀ c ∈ lab, c ≠ 10 ∧ c ≠ 32 ∧ c < 128) (hr : ∀ i ∈ row, 0 ≤ i ∧ i < 100) : (∀ c ∈ joinC 32 (lab :: row.map nl), c ≠ 10 ∧ c < 128) ∧ splitC 32 (joinC 32 (lab :: row.map nl)) = lab :: row.map nl := by
  have each : ∀ x ∈ lab :: row.map nl, ∀ c ∈ x, c ≠ 10 ∧ c ≠ 32 ∧ c < 128 := by
    intro x hx c hc
    rcases List.mem_cons.mp hx with rfl | hx
    · exact hl c hc
    · obtain ⟨i, hi, rfl⟩ := List.mem_map.mp hx
      exact (nl_ok (hr i hi)).2.2 c hc
  refine ⟨fun c hc => ?_, split_join (by simp) fun x hx z => (each x hx 32 z).2.1 rfl⟩
  rcases join_mem 32 _ c hc with rfl | ⟨x, h1, h2⟩
  · decide
  · exact ⟨(each x h1 c h2).1, (each x h1 c h2).2.2⟩
theorem words_text {rows : List (List Int)} (hr : smR rows) (h0 : 3 ≤ rows.length) : words (textI rows) = List.zipWith (fun lab row => lab :: row.map nl) (labs rows.length) rows ∧ ∀ c ∈ textI rows, c < 128 := by
  have key : ∀ (lb : List (List Nat)) (rows : List (List Int)), (∀ b ∈ lb, ∀ c ∈ b, c ≠ 10 ∧ c ≠ 32 ∧ c < 128) → smR rows →
      (∀ x ∈ List.zipWith (fun lab row => joinC 32 (lab :: row.map nl)) lb rows, ∀ c ∈ x, c ≠ 10 ∧ c < 128) ∧ (List.zipWith (fun lab row => joinC 32 (lab :: row.map nl)) lb rows).map (splitC 32) = List.zipWith (fun lab row => lab :: row.map nl) lb rows := by
    intro lb
    induction lb with
    | nil => intro rows _ _; simp
    | cons b lb ih =>
      intro rows h1 h2
      cases rows with
      | nil => simp
      | cons r rows =>
        obtain ⟨g1, g2⟩ := ih rows (fun z hz => h1 z (by simp [hz])) (fun z hz => h2 z (by simp [hz]))
        obtain ⟨l1, l2⟩ := line_ok (h1 b (by simp)) (h2 r (by simp))
        simp only [List.zipWith_cons_cons, List.map_cons]
        refine ⟨fun x hx => ?_, by rw [l2, g2]⟩
        rcases List.mem_cons.mp hx with rfl | hx
        · exact l1
        · exact g1 x hx
  obtain ⟨k1, k2⟩ := key (labs rows.length) rows (labs_ok _) hr
  have ne : List.zipWith (fun lab row => joinC 32 (lab :: row.map nl)) (labs rows.length) rows ≠ [] := by
    cases rows with
    | nil => simp at h0
    | cons r rows => simp [labs]
  refine ⟨?_, fun c hc => ?_⟩
  · unfold words textI
    rw [split_join ne fun x hx z => (k1 x hx 10 z).1 rfl, k2]
  · rcases join_mem 10 _ c hc with rfl | ⟨x, h1, h2⟩
    · decide
    · exact (k1 x h1 c h2).2
theorem labs_len {n : Nat} (h : 3 ≤ n) : (labs n).length = n := by simp [labs]; omega
theorem rows_text {rows : List (List Int)} (hr : smR rows) (h0 : 3 ≤ rows.length) : rowsI (textI rows) = rows ∧ rowsD (textI rows) = rows.map (fun r => r.map D.int) ∧ (words (textI rows)).map (fun w => w.headD []) = labs rows.length ∧ (words (textI rows)).length = rows.length := by
  obtain ⟨hw, _⟩ := words_text hr h0
  have key : ∀ (lb : List (List Nat)) (rows : List (List Int)), lb.length = rows.length → smR rows →
      (List.zipWith (fun lab row => lab :: row.map nl) lb rows).map (fun w => (w.drop 1).map numIn) = rows ∧ (List.zipWith (fun lab row => lab :: row.map nl) lb rows).map (fun w => (w.drop 1).map intOf) = rows.map (fun r => r.map D.int) ∧
      (List.zipWith (fun lab row => lab :: row.map nl) lb rows).map (fun w => w.headD []) = lb ∧ (List.zipWith (fun lab row => lab :: row.map nl) lb rows).length = rows.length := by
    intro lb
    induction lb with
    | nil => intro rows e _; cases rows with
      | nil => simp
      | cons r rows => simp at e
    | cons b lb ih =>
      intro rows e h
      cases rows with
      | nil => simp at e
      | cons r rows =>
        obtain ⟨g1, g2, g3, g4⟩ := ih rows (by simpa using e) (fun z hz => h z (by simp [hz]))
        have e1 : (r.map nl).map numIn = r := by
          rw [List.map_map]
          conv => rhs; rw [← List.map_id r]
          exact List.map_congr_left fun i hi => (nl_ok (h r (by simp) i hi)).2.1
        have e2 : (r.map nl).map intOf = r.map D.int := by
          rw [List.map_map]
          exact List.map_congr_left fun i hi => (nl_ok (h r (by simp) i hi)).1
        simp only [List.zipWith_cons_cons, List.map_cons, List.drop_one, List.tail_cons, List.headD_cons, List.length_cons]
        simp only [List.drop_one] at g1 g2
        rw [e1, e2, g1, g2, g3, g4]
        exact ⟨rfl, rfl, rfl, rfl⟩
  unfold rowsI rowsD
  rw [hw]
  exact key _ _ (labs_len h0) hr
theorem sm_of {e l q s : Int} {ls : List (List Int)} (h : isS (sD ls e l q s) = true) : smR ([e] :: [l] :: [q, s] :: ls) := by
  obtain ⟨s1, s2, s3, s4, xs, hx, hx1, hx2⟩ := isS_sm h
  cases hx
  intro r hr i hi
  simp only [List.mem_cons] at hr
  simp only [smD, Bool.and_eq_true, decide_eq_true_eq] at s1 s2 s3 s4
  rcases hr with rfl | rfl | rfl | hr
  · simp at hi; omega
  · simp at hi; omega
  · simp at hi; omega
  · obtain ⟨ys, e1, _, e3⟩ := hx2 (.tup (r.map D.int)) (List.mem_map.mpr ⟨r, hr, rfl⟩)
    cases e1
    have := List.all_eq_true.mp e3 (.int i) (List.mem_map.mpr ⟨i, hi, rfl⟩)
    simpa [smD] using this
theorem read_text {e l q s : Int} {ls : List (List Int)} (h : isS (sD ls e l q s) = true) : readF (textI ([e] :: [l] :: [q, s] :: ls)) = some (sD ls e l q s) ∧ readL (textI ([e] :: [l] :: [q, s] :: ls)) = some (sD ls e l q s) := by
  obtain ⟨r1, r2, r3, r4⟩ := rows_text (sm_of h) (by simp)
  constructor
  · unfold readF
    rw [r1]
    simp only
    rw [if_pos ⟨h, trivial⟩]
  · unfold readL
    rw [r4, r3, if_neg (by simp), r2]
    simp only [List.map_cons, List.map_nil]
    have ev : D.tup [.tup ((ls.map fun r => r.map D.int).map .tup), .int e, .int l, .int q, .int s] = sD ls e l q s := by
      unfold sD
      rw [List.map_map]
      rfl
    rw [ev, if_pos h]
theorem readF_some {t : List Nat} {v : D} (h : readF t = some v) : ∃ e l q s ls, v = sD ls e l q s ∧ isS v = true ∧ t = textI ([e] :: [l] :: [q, s] :: ls) ∧ rowsI t = [e] :: [l] :: [q, s] :: ls := by
  unfold readF at h
  split at h
  · rename_i e l q s ls hr
    split at h
    · rename_i hs
      cases h
      exact ⟨e, l, q, s, ls, rfl, hs.1, hs.2.symm, hr⟩
    · cases h
  · cases h
/-- the two readers agree -/
theorem read_eq (t : List Nat) : readF t = readL t := by
  cases h : readF t with
  | some v =>
    obtain ⟨e, l, q, s, ls, rfl, hs, rfl, _⟩ := readF_some h
    exact (read_text hs).2.symm
  | none =>
    cases g : readL t with
    | none => rfl
    | some v => rw [readL_F g] at h; cases h
/-! ### texts that are refused -/
theorem split_end (c : Nat) : ∀ l, splitC c (l ++ [c]) = splitC c l ++ [[]]
  | [] => by simp [splitC]
  | d :: r => by
    have ih := split_end c r
    rw [List.cons_append]
    unfold splitC
    by_cases hd : d = c
    · rw [if_pos hd, if_pos hd, ih]; rfl
    · rw [if_neg hd, if_neg hd, ih]
      cases q : splitC c r with
      | nil => exact absurd q (splitC_ne c r)
      | cons p s => rfl
theorem read_end (t : List Nat) : readF (t ++ [10]) = none := by
  cases h : readF (t ++ [10]) with
  | none => rfl
  | some v =>
    obtain ⟨e, l, q, s, ls, rfl, hs, _, hr⟩ := readF_some h
    have hm : [] ∈ rowsI (t ++ [10]) := by
      unfold rowsI words
      rw [split_end]
      simp [splitC]
    rw [hr] at hm
    simp only [List.mem_cons] at hm
    rcases hm with z | z | z | z
    · cases z
    · cases z
    · cases z
    · obtain ⟨_, _, _, _, xs, hx, _, hx2⟩ := isS_sm hs
      cases hx
      obtain ⟨ys, e1, e2, _⟩ := hx2 (.tup (([] : List Int).map D.int)) (List.mem_map.mpr ⟨[], z, rfl⟩)
      cases e1
      cases e2
theorem read_head {t : List Nat} {v : D} (h : readF t = some v) : t.head? = some 101 := by
  obtain ⟨e, l, q, s, ls, _, _, rfl, _⟩ := readF_some h
  simp [textI, labs, labE, joinC]
theorem read_front {c : Nat} (hc : c ≠ 101) (t : List Nat) : readF (c :: t) = none := by
  cases h : readF (c :: t) with
  | none => rfl
  | some v =>
    have := read_head h
    simp at this
    exact absurd this hc
/-! ### how long a text is -/
theorem nl_len (i : Int) : (nl i).length ≤ 2 := by unfold nl numL; split <;> simp
theorem row_len : ∀ (row : List Int), (joinC 32 (row.map nl)).length ≤ 3 * row.length
  | [] => by simp [joinC]
  | [i] => by have := nl_len i; simp [joinC]; omega
  | i :: j :: r => by
    have := nl_len i
    have ih := row_len (j :: r)
    simp only [List.map_cons, joinC, List.length_append, List.length_cons] at ih ⊢
    omega
theorem join_cons_len (c : Nat) (x : List Nat) (xs : List (List Nat)) : (joinC c (x :: xs)).length ≤ x.length + 1 + (joinC c xs).length := by
  cases xs with
  | nil => simp [joinC]
  | cons y r => simp [joinC]; omega
theorem text_len {rows : List (List Int)} (h : rows.length ≤ 6) (h4 : ∀ r ∈ rows, r.length ≤ 4) : (textI rows).length ≤ 114 := by
  have key : ∀ (lb : List (List Nat)) (rows : List (List Int)), (∀ b ∈ lb, b.length ≤ 5) → (∀ r ∈ rows, r.length ≤ 4) → (joinC 10 (List.zipWith (fun lab row => joinC 32 (lab :: row.map nl)) lb rows)).length ≤ 19 * rows.length := by
    intro lb
    induction lb with
    | nil => intro rows _ _; simp [joinC]
    | cons b lb ih =>
      intro rows h1 h2
      cases rows with
      | nil => simp [joinC]
      | cons r rows =>
        have g := ih rows (fun z hz => h1 z (by simp [hz])) (fun z hz => h2 z (by simp [hz]))
        have a1 := h1 b (by simp)
        have a2 := h2 r (by simp)
        have a3 := row_len r
        have a4 := join_cons_len 32 b (r.map nl)
        simp only [List.zipWith_cons_cons, List.length_cons]
        have a5 := join_cons_len 10 (joinC 32 (b :: r.map nl)) (List.zipWith (fun lab row => joinC 32 (lab :: row.map nl)) lb rows)
        omega
  have := key (labs rows.length) rows ?_ h4
  · unfold textI; omega
  · intro b hb
    simp only [labs, List.mem_cons] at hb
    rcases hb with rfl | rfl | rfl | hb
    · decide
    · decide
    · decide
    · rw [(List.mem_replicate.mp hb).2]; decide
end M15

set_option Elab.async false
set_option linter.all false
set_option autoImplicit false
set_option maxRecDepth 100000
set_option maxHeartbeats 4000000
/-! Streets, walkers, words: plain mathematics. Own work. -/
namespace M01
open PySem Ev M15
def isF (v : D) : Bool := match v with
  | .tup [a, b] => isW a (-1000000) 1000000 && isW b 1 1000000 && decide (Int.gcd (intV a) (intV b) = 1)
  | _ => false
def frT : D → Int | .tup [a, _] => intV a | _ => 0
def frB : D → Int | .tup [_, b] => intV b | _ => 0
/-- a walker of a street with that last start and these paces -/
def isK (l q s : Int) (v : D) : Bool := match v with
  | .tup [x, y] => isF x && isF y && decide (0 ≤ frT x) && decide (frT x ≤ l * frB x) && decide (q * frB y ≤ frT y) && decide (frT y ≤ s * frB y)
  | _ => false
def isGo (v : D) : Bool := match v with | .str s => s == "go" || s == "wait" | _ => false
def isE (v : D) : Bool := match v with
  | .tup [a, b] => isGo a && isW b (-9) 99
  | _ => false
def isD (n : Nat) (v : D) : Bool := match v with
  | .tup xs => decide (xs.length = n) && xs.all isE
  | _ => false
/-! ### the lights, one behind the other -/
def lawO (e h : Int) (v : D) : Bool := match v with
  | .tup [a, b, c, d] => isW a (h + 1) (e - 1) && isW b 4 30 && isW c 4 30 && isW d 0 (intV b + intV c - 1)
  | _ => false
theorem lawO_le {e h : Int} {v : D} (hh : 0 ≤ h) (x : lawO e h v = true) : isL e v = true := by
  unfold lawO at x
  split at x
  · rename_i a b c d
    simp only [Bool.and_eq_true] at x
    obtain ⟨⟨⟨h1, h2⟩, h3⟩, h4⟩ := x
    have a1 := isW_int h1
    obtain ⟨i, ea⟩ : ∃ i, a = .int i := ⟨_, a1.1⟩
    subst ea
    have a2 : h + 1 ≤ i ∧ i ≤ e - 1 := a1.2
    have e1 : isW (.int i) 1 (e - 1) = true := by
      show (decide (1 ≤ i) && decide (i ≤ e - 1)) = true
      rw [decide_eq_true a2.2, Bool.and_true]
      exact decide_eq_true (by omega)
    show (isW (.int i) 1 (e - 1) && isW b 4 30 && isW c 4 30 && isW d 0 (intV b + intV c - 1)) = true
    rw [e1, h2, h3, h4]
    rfl
  · cases x
def lawL (e : Int) : Int → List D → Bool
  | _, [] => true
  | h, v :: r => lawO e h v && lawL e (intV (hdV v)) r
def headGt (h : Int) : List D → Bool
  | [] => true
  | x :: _ => decide (h < intV (hdV x))
theorem lawL_eq {e : Int} : ∀ (xs : List D) (h : Int), 0 ≤ h → lawL e h xs = (xs.all (isL e) && ascD xs && headGt h xs)
  | [], h, _ => rfl
  | v :: r, h, hh => by
    unfold lawL
    by_cases hv : isL e v = true
    · have hv2 := hv
      unfold isL at hv2
      split at hv2
      · rename_i a b c d
        simp only [Bool.and_eq_true] at hv2
        obtain ⟨⟨⟨h1, h2⟩, h3⟩, h4⟩ := hv2
        have a1 := isW_int h1
        have ih := lawL_eq (e := e) r (intV a) (by omega)
        obtain ⟨i, ea⟩ : ∃ i, a = .int i := ⟨_, a1.1⟩
        subst ea
        have e1 : isW (.int i) (h + 1) (e - 1) = decide (h < intV (.int i)) := by
          show (decide (h + 1 ≤ i) && decide (i ≤ e - 1)) = decide (h < i)
          have a2 : i ≤ e - 1 := a1.2.2
          rw [decide_eq_true a2, Bool.and_true]
          exact decide_eq_decide.mpr (by omega)
        have hd : hdV (D.tup [.int i, b, c, d]) = .int i := rfl
        have ho : lawO e h (D.tup [.int i, b, c, d]) = (isW (.int i) (h + 1) (e - 1) && isW b 4 30 && isW c 4 30 && isW d 0 (intV b + intV c - 1)) := rfl
        rw [hd, ih, ho, e1, h2, h3, h4]
        simp only [List.all_cons, hv, ascD, headGt, hd, Bool.and_true, Bool.true_and]
        cases r with
        | nil => generalize decide (h < intV (D.int i)) = p1; cases p1 <;> rfl
        | cons y r =>
          simp only [headGt]
          generalize decide (h < intV (D.int i)) = p1
          generalize decide (intV (D.int i) < intV (hdV y)) = p2
          generalize ascD (y :: r) = p3
          generalize List.all (y :: r) (isL e) = p4
          cases p1 <;> cases p2 <;> cases p3 <;> cases p4 <;> rfl
      · cases hv2
    · have hv' : isL e v = false := by simpa using hv
      have : lawO e h v = false := by
        cases hx : lawO e h v with
        | false => rfl
        | true => exact absurd (lawO_le hh hx) hv
      rw [this]
      simp [hv']
theorem lawL_0 {e : Int} {xs : List D} : lawL e 0 xs = (xs.all (isL e) && ascD xs) := by
  rw [lawL_eq xs 0 (by omega)]
  cases h : xs.all (isL e) with
  | false => rfl
  | true =>
    cases xs with
    | nil => rfl
    | cons v r =>
      have hv := List.all_eq_true.mp h v (by simp)
      unfold isL at hv
      split at hv
      · rename_i a b c d
        simp only [Bool.and_eq_true] at hv
        have a1 := isW_int hv.1.1.1
        have hz : headGt 0 (D.tup [a, b, c, d] :: r) = true := by
          show decide (0 < intV a) = true
          exact decide_eq_true (by omega)
        rw [hz]
        simp
      · cases hv
/-! ### the greatest common divisor -/
theorem gcd_loop {a : Type} (stop : Nat → a) (run : Nat → Nat → Nat → a) (h0 : ∀ f x, run (f + 1) x 0 = stop x) (h1 : ∀ f x y, y ≠ 0 → run (f + 1) x y = run f y (x % y)) :
    ∀ (k x y f : Nat), y < 2 ^ k → 2 * k + 1 ≤ f → run f x y = stop (Nat.gcd x y)
  | 0, x, y, f, hy, hf => by
    have : y = 0 := by simpa using hy
    subst this
    obtain ⟨f, rfl⟩ : ∃ g, f = g + 1 := ⟨f - 1, by omega⟩
    rw [h0, Nat.gcd_zero_right]
  | k + 1, x, y, f, hy, hf => by
    obtain ⟨f, rfl⟩ : ∃ g, f = g + 1 := ⟨f - 1, by omega⟩
    by_cases z : y = 0
    · subst z
      rw [h0, Nat.gcd_zero_right]
    · have e1 : Nat.gcd x y = Nat.gcd y (x % y) := by rw [Nat.gcd_comm x y, Nat.gcd_rec y x, Nat.gcd_comm]
      rw [h1 f x y z, e1]
      obtain ⟨f, rfl⟩ : ∃ g, f = g + 1 := ⟨f - 1, by omega⟩
      by_cases z2 : x % y = 0
      · rw [z2, h0, Nat.gcd_zero_right]
      · have hr : x % y < y := Nat.mod_lt _ (by omega)
        have e2 : Nat.gcd y (x % y) = Nat.gcd (x % y) (y % (x % y)) := by rw [Nat.gcd_comm y (x % y), Nat.gcd_rec (x % y) y, Nat.gcd_comm]
        rw [h1 f y (x % y) z2, e2]
        refine gcd_loop stop run h0 h1 k _ _ f ?_ (by omega)
        have a1 : y % (x % y) < x % y := Nat.mod_lt _ (by omega)
        have a2 : y % (x % y) + x % y ≤ y := by
          have q1 := Nat.div_add_mod y (x % y)
          have q2 : 1 ≤ y / (x % y) := Nat.div_pos (by omega) (by omega)
          have q3 : x % y ≤ x % y * (y / (x % y)) := Nat.le_mul_of_pos_right _ q2
          omega
        have a3 : 2 ^ (k + 1) = 2 * 2 ^ k := by rw [Nat.pow_succ]; omega
        omega
end M01

set_option Elab.async false
set_option linter.all false
set_option autoImplicit false
set_option maxRecDepth 100000
/-! The core codes of a law's text, printed by a program. Own work. -/
namespace C02
open PySem Ev
def c_divisor_of : FnC := ⟨2, 2, [.setp [0, 1] [(.bi .abs (.var 0)), (.bi .abs (.var 1))], .whil (.val (.cmp .ne (.var 1) (.lit (.int 0)))) [.setp [0, 1] [(.var 1), (.bin .mod (.var 0) (.var 1))]], .ret (.var 0)]⟩
def c_lowest : FnC := ⟨2, 3, [.set (.v 2) (.call 0 [(.var 0), (.var 1)]), .ret (.tup [(.bin .fdiv (.var 0) (.var 2)), (.bin .fdiv (.var 1) (.var 2))])]⟩
def c_is_whole : FnC := ⟨3, 3, [.ret (.bool true [(.isi (.var 0) .int), (.not (.isi (.var 0) .bool)), (.chain .le .le (.var 1) (.var 0) (.var 2))])]⟩
def c_is_row : FnC := ⟨3, 3, [.ret (.bool true [(.isi (.var 0) .tuple), (.chain .le .le (.var 1) (.len (.var 0)) (.var 2))])]⟩
def c_is_light : FnC := ⟨2, 2, [.ifs (.bool false [(.not (.val (.call 3 [(.var 1), (.lit (.int 4)), (.lit (.int 4))]))), (.not (.val (.call 2 [(.idx (.var 1) (.lit (.int 0))), (.lit (.int 1)), (.bin .sub (.var 0) (.lit (.int 1)))])))]) [.ret (.lit (.bl false))] [], .ifs (.bool false [(.not (.val (.call 2 [(.idx (.var 1) (.lit (.int 1))), (.lit (.int 4)), (.lit (.int 30))]))), (.not (.val (.call 2 [(.idx (.var 1) (.lit (.int 2))), (.lit (.int 4)), (.lit (.int 30))])))]) [.ret (.lit (.bl false))] [], .ret (.call 2 [(.idx (.var 1) (.lit (.int 3))), (.lit (.int 0)), (.bin .sub (.bin .add (.idx (.var 1) (.lit (.int 1))) (.idx (.var 1) (.lit (.int 2)))) (.lit (.int 1)))])]⟩
def c_is_street : FnC := ⟨1, 5, [.ifs (.bool false [(.not (.val (.call 3 [(.var 0), (.lit (.int 5)), (.lit (.int 5))]))), (.not (.val (.call 2 [(.idx (.var 0) (.lit (.int 1))), (.lit (.int 1)), (.lit (.int 20))]))), (.not (.val (.call 2 [(.idx (.var 0) (.lit (.int 2))), (.lit (.int 0)), (.lit (.int 20))])))]) [.ret (.lit (.bl false))] [], .ifs (.bool false [(.not (.val (.call 2 [(.idx (.var 0) (.lit (.int 4))), (.lit (.int 1)), (.lit (.int 3))]))), (.not (.val (.call 2 [(.idx (.var 0) (.lit (.int 3))), (.lit (.int 1)), (.idx (.var 0) (.lit (.int 4)))])))]) [.ret (.lit (.bl false))] [], .set (.v 1) (.idx (.var 0) (.lit (.int 0))), .ifs (.bool false [(.not (.val (.call 3 [(.var 1), (.lit (.int 0)), (.lit (.int 3))]))), (.not (.val (.bi .all (.comp .val [(.var 1)] (.v 4) [] (.call 4 [(.idx (.var 0) (.lit (.int 1))), (.var 4)]) [4]))))]) [.ret (.lit (.bl false))] [], .ret (.bi .all (.comp .zip [(.var 1), (.cut (.var 1) [(.lit (.int 1))] [])] (.t [(.v 2), (.v 3)]) [] (.cmp .lt (.idx (.var 2) (.lit (.int 0))) (.idx (.var 3) (.lit (.int 0)))) [2, 3]))]⟩
def c_is_fraction : FnC := ⟨1, 1, [.ifs (.bool false [(.not (.val (.call 3 [(.var 0), (.lit (.int 2)), (.lit (.int 2))]))), (.not (.val (.call 2 [(.idx (.var 0) (.lit (.int 0))), (.neg (.glob 1)), (.glob 1)]))), (.not (.val (.call 2 [(.idx (.var 0) (.lit (.int 1))), (.lit (.int 1)), (.glob 1)])))]) [.ret (.lit (.bl false))] [], .ret (.cmp .eq (.call 0 [(.idx (.var 0) (.lit (.int 0))), (.idx (.var 0) (.lit (.int 1)))]) (.lit (.int 1)))]⟩
def c_is_within : FnC := ⟨2, 11, [.set (.t [(.v 2), (.v 3), (.v 4), (.v 5), (.v 6)]) (.var 0), .set (.t [(.t [(.v 7), (.v 8)]), (.t [(.v 9), (.v 10)])]) (.var 1), .ret (.bool true [(.chain .le .le (.lit (.int 0)) (.var 7) (.bin .mul (.var 4) (.var 8))), (.chain .le .le (.bin .mul (.var 5) (.var 10)) (.var 9) (.bin .mul (.var 6) (.var 10)))])]⟩
def c_fits_walker : FnC := ⟨2, 2, [.ifs (.bool false [(.not (.val (.call 3 [(.var 1), (.lit (.int 2)), (.lit (.int 2))]))), (.not (.val (.call 6 [(.idx (.var 1) (.lit (.int 0)))]))), (.not (.val (.call 6 [(.idx (.var 1) (.lit (.int 1)))])))]) [.ret (.lit (.bl false))] [], .ret (.call 7 [(.var 0), (.var 1)])]⟩
def c_is_event : FnC := ⟨1, 1, [.ifs (.bool false [(.not (.val (.call 3 [(.var 0), (.lit (.int 2)), (.lit (.int 2))]))), (.not (.val (.isi (.idx (.var 0) (.lit (.int 0))) .str))), (.val (.cmp .notin (.idx (.var 0) (.lit (.int 0))) (.tup [(.lit (.str "go")), (.lit (.str "wait"))])))]) [.ret (.lit (.bl false))] [], .ret (.call 2 [(.idx (.var 0) (.lit (.int 1))), (.neg (.lit (.int 9))), (.lit (.int 99))])]⟩
def c_fits_word : FnC := ⟨2, 4, [.set (.v 2) (.len (.idx (.var 0) (.lit (.int 0)))), .ret (.bool true [(.call 3 [(.var 1), (.var 2), (.var 2)]), (.bi .all (.comp .val [(.var 1)] (.v 3) [] (.call 9 [(.var 3)]) [3]))])]⟩
def c_need_street : FnC := ⟨1, 1, [.ifs (.not (.val (.call 5 [(.var 0)]))) [.rais 1 "not a street"] []]⟩
def c_need_walker : FnC := ⟨2, 2, [.ifs (.not (.val (.call 8 [(.var 0), (.var 1)]))) [.rais 2 "not a walker"] []]⟩
def c_further : FnC := ⟨3, 3, [.ret (.call 1 [(.bin .add (.bin .mul (.idx (.var 0) (.lit (.int 0))) (.idx (.var 1) (.lit (.int 1)))) (.bin .mul (.bin .mul (.idx (.var 1) (.lit (.int 0))) (.var 2)) (.idx (.var 0) (.lit (.int 1))))), (.bin .mul (.idx (.var 0) (.lit (.int 1))) (.idx (.var 1) (.lit (.int 1))))])]⟩
def c_event_at : FnC := ⟨2, 10, [.set (.t [(.v 4), (.v 5), (.v 6), (.v 7)]) (.var 0), .set (.t [(.v 8), (.v 9)]) (.var 1), .set (.v 2) (.bin .fdiv (.bin .sub (.var 8) (.bin .mul (.var 7) (.var 9))) (.bin .mul (.bin .add (.var 5) (.var 6)) (.var 9))), .set (.v 3) (.bin .add (.var 7) (.bin .mul (.var 2) (.bin .add (.var 5) (.var 6)))), .ifs (.val (.cmp .lt (.var 8) (.bin .mul (.bin .add (.var 3) (.var 5)) (.var 9)))) [.ret (.tup [(.tup [(.lit (.str "go")), (.var 2)]), (.var 1)])] [], .ret (.tup [(.tup [(.lit (.str "wait")), (.bin .add (.var 2) (.lit (.int 1)))]), (.tup [(.bin .add (.bin .add (.var 3) (.var 5)) (.var 6)), (.lit (.int 1))])])]⟩
def c_run : FnC := ⟨2, 10, [.set (.t [(.v 5), (.v 6)]) (.var 1), .setp [7, 3, 8] [(.tup []), (.var 5), (.lit (.int 0))], .forr .val [(.idx (.var 0) (.lit (.int 0)))] (.v 2) [.set (.t [(.v 9), (.v 3)]) (.call 14 [(.var 2), (.call 13 [(.var 3), (.var 6), (.bin .sub (.idx (.var 2) (.lit (.int 0))) (.var 8))])]), .setp [7, 8] [(.bin .add (.var 7) (.tup [(.var 9)])), (.idx (.var 2) (.lit (.int 0)))]], .set (.v 3) (.call 13 [(.var 3), (.var 6), (.bin .sub (.idx (.var 0) (.lit (.int 1))) (.var 8))]), .set (.v 4) (.call 13 [(.var 5), (.var 6), (.idx (.var 0) (.lit (.int 1)))]), .ret (.tup [(.var 7), (.var 3), (.call 1 [(.bin .sub (.bin .mul (.idx (.var 3) (.lit (.int 0))) (.idx (.var 4) (.lit (.int 1)))) (.bin .mul (.idx (.var 4) (.lit (.int 0))) (.idx (.var 3) (.lit (.int 1))))), (.bin .mul (.idx (.var 3) (.lit (.int 1))) (.idx (.var 4) (.lit (.int 1))))])])]⟩
def c_need_told : FnC := ⟨2, 2, [.expr (.call 11 [(.var 0)]), .expr (.call 12 [(.var 0), (.var 1)])]⟩
def c_word_of : FnC := ⟨2, 2, [.expr (.call 16 [(.var 0), (.var 1)]), .ret (.idx (.call 15 [(.var 0), (.var 1)]) (.lit (.int 0)))]⟩
def c_coming : FnC := ⟨2, 2, [.expr (.call 16 [(.var 0), (.var 1)]), .ret (.idx (.call 15 [(.var 0), (.var 1)]) (.lit (.int 1)))]⟩
def c_waited : FnC := ⟨2, 2, [.expr (.call 16 [(.var 0), (.var 1)]), .ret (.idx (.call 15 [(.var 0), (.var 1)]) (.lit (.int 2)))]⟩
def c_does : FnC := ⟨3, 3, [.expr (.call 16 [(.var 0), (.var 1)]), .ifs (.not (.val (.call 10 [(.var 0), (.var 2)]))) [.rais 3 "not a word"] [], .ret (.cmp .eq (.idx (.call 15 [(.var 0), (.var 1)]) (.lit (.int 0))) (.var 2))]⟩
def c__law_cell : FnC := ⟨2, 2, [.ifs (.val (.cmp .lt (.var 1) (.len (.var 0)))) [.ret (.idx (.var 0) (.var 1))] [], .ifs (.val (.cmp .eq (.len (.var 0)) (.lit (.int 0)))) [.ret (.bin .add (.bin .mul (.lit (.int 7919)) (.var 1)) (.lit (.int 101)))] [], .ret (.bin .add (.bin .mod (.idx (.var 0) (.bin .mod (.var 1) (.len (.var 0)))) (.lit (.int 1000003))) (.bin .mul (.lit (.int 7919)) (.var 1)))]⟩
def c__law_draws : FnC := ⟨4, 10, [.set (.v 4) (.tup [(.lit (.int 2147483647)), (.lit (.int 2147483629)), (.lit (.int 2147483587)), (.lit (.int 2147483579)), (.lit (.int 2147483563)), (.lit (.int 2147483549)), (.lit (.int 2147483543)), (.lit (.int 2147483497))]), .set (.v 5) (.call 21 [(.var 0), (.var 1)]), .set (.v 6) (.lit (.int 0)), .ifs (.val (.cmp .ge (.var 5) (.bin .pow (.lit (.int 10)) (.lit (.int 18))))) [.set (.v 6) (.var 5)] [], .set (.v 7) (.box []), .forr .range1 [(.var 2)] (.v 8) [.set (.v 9) (.bin .mul (.bin .mod (.var 5) (.idx (.var 4) (.bin .mod (.var 8) (.lit (.int 8))))) (.bin .add (.lit (.int 48271)) (.bin .mul (.bin .mul (.lit (.int 2)) (.var 8)) (.var 8)))), .set (.v 9) (.bin .add (.bin .add (.var 9) (.bin .mul (.bin .mul (.lit (.int 7919)) (.bin .add (.var 8) (.lit (.int 1)))) (.bin .add (.var 8) (.lit (.int 1))))) (.bin .mul (.lit (.int 104729)) (.var 1))), .set (.v 9) (.bin .mod (.var 9) (.idx (.var 4) (.bin .mod (.bin .add (.bin .mul (.lit (.int 3)) (.var 8)) (.var 1)) (.lit (.int 8))))), .set (.v 9) (.bin .mod (.bin .mul (.bin .mul (.var 9) (.var 9)) (.var 9)) (.idx (.var 4) (.bin .mod (.bin .add (.var 8) (.lit (.int 5))) (.lit (.int 8))))), .ifs (.val (.cmp .gt (.var 6) (.lit (.int 0)))) [.set (.v 9) (.var 6)] [], .append 7 (.bin .mod (.var 9) (.var 3)), .set (.v 6) (.bin .fdiv (.var 6) (.var 3))], .ret (.var 7)]⟩
def c__law_bag : FnC := ⟨2, 2, [.ret (.call 22 [(.var 0), (.var 1), (.lit (.int 150)), (.lit (.int 27720))])]⟩
def c__law_take : FnC := ⟨2, 3, [.set (.v 2) (.ite (.val (.cmp .ne (.var 0) (.lst []))) (.pop0 0) (.lit (.int 0))), .ret (.bin .mod (.bi .int (.var 2)) (.var 1))]⟩
def c__law_choice : FnC := ⟨2, 2, [.ret (.idx (.var 1) (.call 24 [(.var 0), (.len (.var 1))]))]⟩
def c__law_lowest : FnC := ⟨2, 4, [.setp [2, 3] [(.bi .abs (.var 0)), (.bi .abs (.var 1))], .whil (.val (.cmp .ne (.var 3) (.lit (.int 0)))) [.setp [2, 3] [(.var 3), (.bin .mod (.var 2) (.var 3))]], .ret (.ite (.val (.cmp .gt (.var 1) (.lit (.int 0)))) (.tup [(.bin .fdiv (.var 0) (.var 2)), (.bin .fdiv (.var 1) (.var 2))]) (.tup [(.bin .fdiv (.neg (.var 0)) (.var 2)), (.bin .fdiv (.neg (.var 1)) (.var 2))]))]⟩
def c__law_less : FnC := ⟨2, 2, [.ret (.cmp .lt (.bin .mul (.idx (.var 0) (.lit (.int 0))) (.idx (.var 1) (.lit (.int 1)))) (.bin .mul (.idx (.var 1) (.lit (.int 0))) (.idx (.var 0) (.lit (.int 1)))))]⟩
def c__law_together : FnC := ⟨2, 2, [.ret (.call 26 [(.bin .add (.bin .mul (.idx (.var 0) (.lit (.int 0))) (.idx (.var 1) (.lit (.int 1)))) (.bin .mul (.idx (.var 1) (.lit (.int 0))) (.idx (.var 0) (.lit (.int 1))))), (.bin .mul (.idx (.var 0) (.lit (.int 1))) (.idx (.var 1) (.lit (.int 1))))])]⟩
def c__law_street : FnC := ⟨2, 11, [.setp [6, 7, 8] [(.bin .add (.lit (.int 3)) (.call 24 [(.var 0), (.lit (.int 12))])), (.box []), (.box [])], .forr .range1 [(.call 24 [(.var 0), (.bin .add (.var 1) (.lit (.int 1)))])] (.v 2) [.set (.v 3) (.bin .add (.lit (.int 1)) (.call 24 [(.var 0), (.bin .sub (.var 6) (.lit (.int 1)))])), .ifs (.val (.cmp .notin (.var 3) (.var 7))) [.append 7 (.var 3)] []], .frz 7, .forr .val [(.bi .sorted (.var 7))] (.v 3) [.setp [9, 10] [(.bin .add (.lit (.int 4)) (.call 24 [(.var 0), (.lit (.int 9))])), (.bin .add (.lit (.int 4)) (.call 24 [(.var 0), (.lit (.int 9))]))], .append 8 (.tup [(.var 3), (.var 9), (.var 10), (.call 24 [(.var 0), (.bin .add (.var 9) (.var 10))])])], .frz 8, .set (.v 4) (.bin .add (.lit (.int 1)) (.call 24 [(.var 0), (.lit (.int 2))])), .set (.v 5) (.bin .add (.var 4) (.call 24 [(.var 0), (.bin .sub (.lit (.int 4)) (.var 4))])), .ret (.tup [(.bi .tuple (.var 8)), (.var 6), (.call 25 [(.var 0), (.lst [(.lit (.int 0)), (.lit (.int 2)), (.lit (.int 5)), (.lit (.int 9))])]), (.var 4), (.var 5)])]⟩
def c__law_walker : FnC := ⟨2, 6, [.setp [4, 5] [(.bin .add (.lit (.int 1)) (.call 24 [(.var 0), (.lit (.int 4))])), (.bin .add (.lit (.int 1)) (.call 24 [(.var 0), (.lit (.int 6))]))], .set (.v 2) (.call 24 [(.var 0), (.bin .add (.bin .mul (.idx (.var 1) (.lit (.int 2))) (.var 4)) (.lit (.int 1)))]), .set (.v 3) (.bin .add (.bin .mul (.idx (.var 1) (.lit (.int 3))) (.var 5)) (.call 24 [(.var 0), (.bin .add (.bin .mul (.bin .sub (.idx (.var 1) (.lit (.int 4))) (.idx (.var 1) (.lit (.int 3)))) (.var 5)) (.lit (.int 1)))])), .ret (.tup [(.call 26 [(.var 2), (.var 4)]), (.call 26 [(.var 3), (.var 5)])])]⟩
def c__law_run : FnC := ⟨2, 13, [.setp [2, 3, 4, 5] [(.idx (.var 1) (.lit (.int 0))), (.tup [(.lit (.int 0)), (.lit (.int 1))]), (.tup []), (.lit (.int 0))], .forr .val [(.bin .add (.idx (.var 0) (.lit (.int 0))) (.tup [(.tup [(.idx (.var 0) (.lit (.int 1))), (.lit (.int 1)), (.lit (.int 0)), (.lit (.int 0))])]))] (.t [(.v 6), (.v 7), (.v 8), (.v 9)]) [.whil (.val (.cmp .lt (.var 5) (.var 6))) [.setp [2, 5] [(.call 28 [(.var 2), (.idx (.var 1) (.lit (.int 1)))]), (.bin .add (.var 5) (.lit (.int 1)))]], .ifs (.val (.cmp .gt (.var 8) (.lit (.int 0)))) [.set (.v 10) (.bin .fdiv (.bin .sub (.idx (.var 2) (.lit (.int 0))) (.bin .mul (.var 9) (.idx (.var 2) (.lit (.int 1))))) (.bin .mul (.idx (.var 2) (.lit (.int 1))) (.bin .add (.var 7) (.var 8)))), .set (.v 11) (.bin .add (.var 9) (.bin .mul (.var 10) (.bin .add (.var 7) (.var 8)))), .ifs (.val (.call 27 [(.var 2), (.tup [(.bin .add (.var 11) (.var 7)), (.lit (.int 1))])])) [.set (.v 4) (.bin .add (.var 4) (.tup [(.tup [(.lit (.str "go")), (.var 10)])]))] [.set (.v 12) (.tup [(.bin .add (.bin .add (.var 11) (.var 7)) (.var 8)), (.lit (.int 1))]), .set (.v 3) (.call 28 [(.var 3), (.call 28 [(.var 12), (.tup [(.neg (.idx (.var 2) (.lit (.int 0)))), (.idx (.var 2) (.lit (.int 1)))])])]), .setp [2, 4] [(.var 12), (.bin .add (.var 4) (.tup [(.tup [(.lit (.str "wait")), (.bin .add (.var 10) (.lit (.int 1)))])]))]]] []], .ret (.tup [(.var 4), (.var 2), (.var 3)])]⟩
def c__law_truly : FnC := ⟨2, 2, [.ret (.bool true [(.isi (.var 0) .bool), (.cmp .eq (.var 0) (.var 1))])]⟩
def c__law_all_refused : FnC := ⟨3, 4, [.ret (.cmp .eq (.comp .val [(.var 1)] (.v 3) [(.val (.cmp .ne (.errl 0 [0, 3] false) (.var 2)))] (.var 3) [3]) (.lst []))]⟩
def c__law_edge_walker : FnC := ⟨2, 9, [.ifs (.val (.cmp .eq (.idx (.var 1) (.lit (.int 0))) (.tup []))) [.ret (.call 30 [(.var 0), (.var 1)])] [], .set (.t [(.v 5), (.v 6), (.v 7), (.v 8)]) (.call 25 [(.var 0), (.bi .list (.idx (.var 1) (.lit (.int 0))))]), .set (.v 2) (.bin .add (.bin .add (.var 8) (.call 25 [(.var 0), (.lst [(.lit (.int 0)), (.var 6)])])) (.bin .mul (.call 24 [(.var 0), (.lit (.int 4))]) (.bin .add (.var 6) (.var 7)))), .set (.v 3) (.idx (.call 30 [(.var 0), (.var 1)]) (.lit (.int 0))), .set (.v 4) (.call 26 [(.bin .sub (.bin .mul (.var 2) (.idx (.var 3) (.lit (.int 1)))) (.idx (.var 3) (.lit (.int 0)))), (.bin .mul (.var 5) (.idx (.var 3) (.lit (.int 1))))]), .ifs (.bool false [(.val (.call 27 [(.var 4), (.tup [(.idx (.var 1) (.lit (.int 3))), (.lit (.int 1))])])), (.val (.call 27 [(.tup [(.idx (.var 1) (.lit (.int 4))), (.lit (.int 1))]), (.var 4)]))]) [.ret (.call 30 [(.var 0), (.var 1)])] [], .ret (.tup [(.var 3), (.var 4)])]⟩
def c_law : FnC := ⟨1, 15, [.forr .range1 [(.lit (.int 8))] (.v 1) [.set (.v 2) (.call 23 [(.var 0), (.var 1)]), .set (.v 3) (.call 29 [(.var 2), (.lit (.int 3))]), .forr .range1 [(.lit (.int 12))] (.v 4) [.set (.v 9) (.ite (.val (.cmp .lt (.var 4) (.lit (.int 5)))) (.call 30 [(.var 2), (.var 3)]) (.call 36 [(.var 2), (.var 3)])), .set (.t [(.v 10), (.v 11), (.v 12)]) (.call 31 [(.var 3), (.var 9)]), .ifs (.bool false [(.val (.cmp .ne (.call 17 [(.var 3), (.var 9)]) (.var 10))), (.val (.cmp .ne (.call 18 [(.var 3), (.var 9)]) (.var 11)))]) [.ret (.lit (.bl false))] [], .ifs (.bool false [(.val (.cmp .ne (.call 19 [(.var 3), (.var 9)]) (.var 12))), (.not (.val (.call 34 [(.call 20 [(.var 3), (.var 9), (.var 10)]), (.lit (.bl true))])))]) [.ret (.lit (.bl false))] [], .ifs (.val (.cmp .ne (.var 10) (.tup []))) [.set (.v 13) (.bin .add (.cut (.var 10) [] [(.neg (.lit (.int 1)))]) (.tup [(.tup [(.idx (.idx (.var 10) (.neg (.lit (.int 1)))) (.lit (.int 0))), (.bin .add (.idx (.idx (.var 10) (.neg (.lit (.int 1)))) (.lit (.int 1))) (.lit (.int 1)))])])), .ifs (.not (.val (.call 34 [(.call 20 [(.var 3), (.var 9), (.var 13)]), (.lit (.bl false))]))) [.ret (.lit (.bl false))] []] []], .set (.v 5) (.box [(.lit .non), (.cut (.var 9) [] [(.lit (.int 1))]), (.bi .list (.var 9)), (.tup [(.tup [(.lit (.int 0)), (.lit (.int 1))]), (.tup [(.lit (.int 7)), (.lit (.int 2))])]), (.tup [(.tup [(.lit (.int 0)), (.lit (.int 2))]), (.tup [(.lit (.int 1)), (.lit (.int 1))])])]), .append 5 (.tup [(.tup [(.bin .add (.idx (.var 3) (.lit (.int 2))) (.lit (.int 1))), (.lit (.int 1))]), (.tup [(.idx (.var 3) (.lit (.int 3))), (.lit (.int 1))])]), .frz 5, .forr .val [(.lst [(.fnr 17), (.fnr 18), (.fnr 19)])] (.v 6) [.ifs (.not (.val (.calll 35 1 [3, 6] [(.var 5), (.lit (.str "walker"))]))) [.ret (.lit (.bl false))] [], .ifs (.val (.cmp .ne (.errl 2 [3, 6] false) (.lit (.str "street")))) [.ret (.lit (.bl false))] []], .ifs (.not (.val (.calll 35 3 [3] [(.var 5), (.lit (.str "walker"))]))) [.ret (.lit (.bl false))] [], .set (.v 5) (.box [(.lit .non), (.bin .add (.var 10) (.tup [(.tup [(.lit (.str "go")), (.lit (.int 1))])])), (.bi .list (.var 10)), (.tup [(.tup [(.lit (.str "stay")), (.lit (.int 1))])]), (.bin .add (.bin .mul (.tup [(.tup [(.lit (.str "go")), (.lit (.int 100))])]) (.len (.var 10))) (.tup [(.lit (.int 1))]))]), .frz 5, .ifs (.not (.val (.calll 35 4 [3, 9] [(.var 5), (.lit (.str "word"))]))) [.ret (.lit (.bl false))] []], .setp [7, 8] [(.tup [(.tup [(.tup [(.lit (.int 4)), (.lit (.int 6)), (.lit (.int 4)), (.lit (.int 0))])]), (.lit (.int 10)), (.lit (.int 5)), (.lit (.int 1)), (.lit (.int 3))]), (.tup [(.tup [(.tup [(.lit (.int 4)), (.lit (.int 6)), (.lit (.int 4)), (.lit (.int 0))]), (.tup [(.lit (.int 8)), (.lit (.int 5)), (.lit (.int 5)), (.lit (.int 3))])]), (.lit (.int 10)), (.lit (.int 5)), (.lit (.int 1)), (.lit (.int 3))])], .ifs (.val (.cmp .ne (.lst [(.call 17 [(.var 7), (.tup [(.tup [(.lit (.int 0)), (.lit (.int 1))]), (.tup [(.lit (.int 1)), (.lit (.int 1))])])]), (.call 17 [(.var 7), (.tup [(.tup [(.lit (.int 2)), (.lit (.int 1))]), (.tup [(.lit (.int 2)), (.lit (.int 1))])])])]) (.lst [(.tup [(.tup [(.lit (.str "go")), (.lit (.int 0))])]), (.tup [(.tup [(.lit (.str "go")), (.lit (.int 1))])])]))) [.ret (.lit (.bl false))] [], .ifs (.bool false [(.val (.cmp .ne (.call 17 [(.var 8), (.tup [(.tup [(.lit (.int 0)), (.lit (.int 1))]), (.tup [(.lit (.int 1)), (.lit (.int 1))])])]) (.tup [(.tup [(.lit (.str "go")), (.lit (.int 0))]), (.tup [(.lit (.str "wait")), (.lit (.int 1))])]))), (.val (.cmp .ne (.call 18 [(.var 8), (.tup [(.tup [(.lit (.int 2)), (.lit (.int 1))]), (.tup [(.lit (.int 2)), (.lit (.int 1))])])]) (.tup [(.lit (.int 27)), (.lit (.int 1))])))]) [.ret (.lit (.bl false))] [], .ifs (.bool false [(.val (.cmp .ne (.call 18 [(.var 7), (.tup [(.tup [(.lit (.int 5)), (.lit (.int 1))]), (.tup [(.lit (.int 1)), (.lit (.int 1))])])]) (.tup [(.lit (.int 16)), (.lit (.int 1))]))), (.val (.cmp .ne (.call 19 [(.var 7), (.tup [(.tup [(.lit (.int 5)), (.lit (.int 1))]), (.tup [(.lit (.int 3)), (.lit (.int 1))])])]) (.tup [(.lit (.int 3)), (.lit (.int 1))])))]) [.ret (.lit (.bl false))] [], .ret (.cmp .eq (.call 17 [(.tup [(.tup [(.tup [(.lit (.int 4)), (.lit (.int 4)), (.lit (.int 6)), (.lit (.int 9))])]), (.lit (.int 10)), (.lit (.int 0)), (.lit (.int 1)), (.lit (.int 1))]), (.tup [(.tup [(.lit (.int 0)), (.lit (.int 1))]), (.tup [(.lit (.int 1)), (.lit (.int 1))])])]) (.tup [(.tup [(.lit (.str "wait")), (.lit (.int 0))])]))]⟩
def lc_0 : LamC := ⟨[], (.callv 0 [(.var 3)])⟩
def lc_1 : LamC := ⟨[14], (.callv 6 [(.var 3), (.var 14)])⟩
def lc_2 : LamC := ⟨[], (.callv 6 [(.bi .list (.var 3)), (.lit .non)])⟩
def lc_3 : LamC := ⟨[14], (.call 20 [(.var 3), (.var 14), (.lit .non)])⟩
def lc_4 : LamC := ⟨[14], (.call 20 [(.var 3), (.var 9), (.var 14)])⟩
def codes : List (Option FnC) := [some c_divisor_of, some c_lowest, some c_is_whole, some c_is_row, some c_is_light, some c_is_street, some c_is_fraction, some c_is_within, some c_fits_walker, some c_is_event, some c_fits_word, some c_need_street, some c_need_walker, some c_further, some c_event_at, some c_run, some c_need_told, some c_word_of, some c_coming, some c_waited, some c_does, some c__law_cell, some c__law_draws, some c__law_bag, some c__law_take, some c__law_choice, some c__law_lowest, some c__law_less, some c__law_together, some c__law_street, some c__law_walker, some c__law_run, none, none, some c__law_truly, some c__law_all_refused, some c__law_edge_walker, some c_law]
def lcodes : List LamC := [lc_0, lc_1, lc_2, lc_3, lc_4]
def globs : List (Option (Str × D)) := [none, some ("GREATEST", (.int 1000000))]
def labels : List Str := ["", "street", "walker", "word", "light", "moment", "paper", "facts", "deed", "text", "unlike", "undo"]
def P : Prog := ⟨fun f => (codes[f]?).join, fun k => lcodes[k]?, fun g => ((globs[g]?).join).map (·.2), fun c => (labels[c]?).map .str⟩
end C02

set_option Elab.async false
set_option linter.all false
set_option autoImplicit false
set_option maxRecDepth 100000
set_option maxHeartbeats 4000000
/-! The law's data, printed by a program. Own work. -/
namespace D02
open PySem PySem.Spec PyProof.Rows L2 Ev EvT C02
def top (i : Nat) : Stmt := PySem.Challenge.pw_anygreens_k02_walks_of_told_walkers.main.body.getD i (.Pass ⟨0, 0, 0, 0⟩)
def sAt (l : List Stmt) (i : Nat) : Stmt := l.getD i (.Pass ⟨0, 0, 0, 0⟩)
def noE : Expr := .Constant .none 0 ⟨0, 0, 0, 0⟩
def eAt (l : List Expr) (i : Nat) : Expr := l.getD i noE
def forBody : Stmt → List Stmt | .For _ _ b _ _ => b | _ => []
def ifTest : Stmt → Expr | .If t _ _ _ => t | _ => noE
def ifBody : Stmt → List Stmt | .If _ b _ _ => b | _ => []
def ifElse : Stmt → List Stmt | .If _ _ b _ => b | _ => []
def retV : Stmt → Expr | .Return (some e) _ => e | _ => noE
def asgV : Stmt → Expr | .Assign _ e _ => e | _ => noE
def exprV : Stmt → Expr | .Expr e _ => e | _ => noE
def unA : Expr → Expr | .UnaryOp _ e _ => e | _ => noE
def cmpL : Expr → Expr | .Compare e _ _ _ => e | _ => noE
def cmpR : Expr → List Expr | .Compare _ _ l _ => l | _ => []
def callA : Expr → List Expr | .Call _ l _ _ => l | _ => []
def boolA : Expr → List Expr | .BoolOp _ l _ => l | _ => []
def compI : Expr → List Expr | .ListComp _ [⟨_, _, l, _⟩] _ _ => l | _ => []
def compE : Expr → Expr | .ListComp e _ _ _ => e | _ => noE
def lamP : Expr → Arguments | .Lambda a _ _ _ => a | _ => ⟨[], [], none, [], [], none, []⟩
def lamB : Expr → Expr | .Lambda _ b _ _ => b | _ => noE
def lamS : Expr → Scope | .Lambda _ _ s _ => s | _ => { kind := .function, names := [], isGenerator := false, isCoroutine := false }
def d_divisor_of : DefC := ⟨"divisor_of", top 14, ["one", "other"], ["one", "other"], c_divisor_of⟩
def d_lowest : DefC := ⟨"lowest", top 15, ["top", "below", "divisor"], ["top", "below"], c_lowest⟩
def d_is_whole : DefC := ⟨"is_whole", top 18, ["value", "low", "high"], ["value", "low", "high"], c_is_whole⟩
def d_is_row : DefC := ⟨"is_row", top 19, ["value", "low", "high"], ["value", "low", "high"], c_is_row⟩
def d_is_light : DefC := ⟨"is_light", top 20, ["end", "value"], ["end", "value"], c_is_light⟩
def d_is_street : DefC := ⟨"is_street", top 21, ["value", "lights", "one", "other", "light"], ["value"], c_is_street⟩
def d_is_fraction : DefC := ⟨"is_fraction", top 22, ["value"], ["value"], c_is_fraction⟩
def d_is_within : DefC := ⟨"is_within", top 23, ["street", "walker", "lights", "end", "last", "quick", "slow", "top", "below", "moments", "places"], ["street", "walker"], c_is_within⟩
def d_fits_walker : DefC := ⟨"fits_walker", top 24, ["street", "value"], ["street", "value"], c_fits_walker⟩
def d_is_event : DefC := ⟨"is_event", top 25, ["value"], ["value"], c_is_event⟩
def d_fits_word : DefC := ⟨"fits_word", top 26, ["street", "value", "many", "event"], ["street", "value"], c_fits_word⟩
def d_need_street : DefC := ⟨"need_street", top 27, ["street"], ["street"], c_need_street⟩
def d_need_walker : DefC := ⟨"need_walker", top 28, ["street", "walker"], ["street", "walker"], c_need_walker⟩
def d_further : DefC := ⟨"further", top 30, ["moment", "pace", "many"], ["moment", "pace", "many"], c_further⟩
def d_event_at : DefC := ⟨"event_at", top 31, ["light", "moment", "times", "begin", "place", "green", "red", "shift", "top", "below"], ["light", "moment"], c_event_at⟩
def d_run : DefC := ⟨"run", top 32, ["street", "walker", "light", "moment", "free", "start", "pace", "word", "here", "event"], ["street", "walker"], c_run⟩
def d_need_told : DefC := ⟨"need_told", top 33, ["street", "walker"], ["street", "walker"], c_need_told⟩
def d_word_of : DefC := ⟨"word_of", top 34, ["street", "walker"], ["street", "walker"], c_word_of⟩
def d_coming : DefC := ⟨"coming", top 35, ["street", "walker"], ["street", "walker"], c_coming⟩
def d_waited : DefC := ⟨"waited", top 36, ["street", "walker"], ["street", "walker"], c_waited⟩
def d_does : DefC := ⟨"does", top 37, ["street", "walker", "word"], ["street", "walker", "word"], c_does⟩
def d__law_cell : DefC := ⟨"_law_cell", top 39, ["_law_script", "_law_k"], ["_law_script", "_law_k"], c__law_cell⟩
def d__law_draws : DefC := ⟨"_law_draws", top 40, ["_law_script", "_law_k", "_law_many", "_law_base", "_law_primes", "_law_cell_here", "_law_rest", "_law_row", "_law_j", "_law_mash"], ["_law_script", "_law_k", "_law_many", "_law_base"], c__law_draws⟩
def d__law_bag : DefC := ⟨"_law_bag", top 41, ["_law_script", "_law_k"], ["_law_script", "_law_k"], c__law_bag⟩
def d__law_take : DefC := ⟨"_law_take", top 42, ["_law_bag_here", "_law_many", "_law_draw"], ["_law_bag_here", "_law_many"], c__law_take⟩
def d__law_choice : DefC := ⟨"_law_choice", top 43, ["_law_bag_here", "_law_some"], ["_law_bag_here", "_law_some"], c__law_choice⟩
def d__law_lowest : DefC := ⟨"_law_lowest", top 44, ["_law_top", "_law_below", "_law_one", "_law_other"], ["_law_top", "_law_below"], c__law_lowest⟩
def d__law_less : DefC := ⟨"_law_less", top 45, ["_law_one", "_law_other"], ["_law_one", "_law_other"], c__law_less⟩
def d__law_together : DefC := ⟨"_law_together", top 46, ["_law_one", "_law_other"], ["_law_one", "_law_other"], c__law_together⟩
def d__law_street : DefC := ⟨"_law_street", top 47, ["_law_bag_here", "_law_most", "_law_turn", "_law_place", "_law_quick", "_law_slow", "_law_end", "_law_places", "_law_some", "_law_green", "_law_red"], ["_law_bag_here", "_law_most"], c__law_street⟩
def d__law_walker : DefC := ⟨"_law_walker", top 48, ["_law_bag_here", "_law_street_so", "_law_first", "_law_second", "_law_below", "_law_places"], ["_law_bag_here", "_law_street_so"], c__law_walker⟩
def d__law_run : DefC := ⟨"_law_run", top 49, ["_law_street_so", "_law_walker_so", "_law_now", "_law_delay", "_law_events_so", "_law_here", "_law_place", "_law_green", "_law_red", "_law_shift", "_law_times", "_law_begin", "_law_goal"], ["_law_street_so", "_law_walker_so"], c__law_run⟩
def d__law_truly : DefC := ⟨"_law_truly", top 52, ["_law_found", "_law_due"], ["_law_found", "_law_due"], c__law_truly⟩
def d__law_all_refused : DefC := ⟨"_law_all_refused", top 53, ["_law_call", "_law_odds", "_law_name", "_law_odd"], ["_law_call", "_law_odds", "_law_name"], c__law_all_refused⟩
def d__law_edge_walker : DefC := ⟨"_law_edge_walker", top 54, ["_law_bag_here", "_law_street_so", "_law_goal", "_law_start", "_law_pace", "_law_place", "_law_green", "_law_red", "_law_shift"], ["_law_bag_here", "_law_street_so"], c__law_edge_walker⟩
def d_law : DefC := ⟨"law", top 55, ["_law_script", "_law_k", "_law_bag_here", "_law_street_so", "_law_turn", "_law_odds", "_law_call", "_law_a", "_law_b", "_law_walker_so", "_law_events_so", "_law_moment", "_law_delay", "_law_other", "_law_odd"], ["_law_script"], c_law⟩
def n_0 : Expr := (eAt (callA (cmpL (eAt (compI (cmpL (retV (sAt (defBody (top 53)) 0)))) 0))) 0)
def l_0 : LamD := ⟨["_law_call", "_law_odds", "_law_name", "_law_odd", "?"], [], lamP n_0, lamB n_0, lamS n_0, "_law_all_refused.<locals>.<lambda>"⟩
def n_1 : Expr := (eAt (callA (unA (ifTest (sAt (forBody (sAt (forBody (sAt (defBody (top 55)) 0)) 5)) 0)))) 0)
def l_1 : LamD := ⟨["_law_script", "_law_k", "_law_bag_here", "_law_street_so", "_law_turn", "_law_odds", "_law_call", "_law_a", "_law_b", "_law_walker_so", "_law_events_so", "_law_moment", "_law_delay", "_law_other", "_law_odd", "?"], [14], lamP n_1, lamB n_1, lamS n_1, "law.<locals>.<lambda>"⟩
def n_2 : Expr := (eAt (callA (cmpL (ifTest (sAt (forBody (sAt (forBody (sAt (defBody (top 55)) 0)) 5)) 1)))) 0)
def l_2 : LamD := ⟨["_law_script", "_law_k", "_law_bag_here", "_law_street_so", "_law_turn", "_law_odds", "_law_call", "_law_a", "_law_b", "_law_walker_so", "_law_events_so", "_law_moment", "_law_delay", "_law_other", "_law_odd", "?"], [], lamP n_2, lamB n_2, lamS n_2, "law.<locals>.<lambda>"⟩
def n_3 : Expr := (eAt (callA (unA (ifTest (sAt (forBody (sAt (defBody (top 55)) 0)) 6)))) 0)
def l_3 : LamD := ⟨["_law_script", "_law_k", "_law_bag_here", "_law_street_so", "_law_turn", "_law_odds", "_law_call", "_law_a", "_law_b", "_law_walker_so", "_law_events_so", "_law_moment", "_law_delay", "_law_other", "_law_odd", "?"], [14], lamP n_3, lamB n_3, lamS n_3, "law.<locals>.<lambda>"⟩
def n_4 : Expr := (eAt (callA (unA (ifTest (sAt (forBody (sAt (defBody (top 55)) 0)) 8)))) 0)
def l_4 : LamD := ⟨["_law_script", "_law_k", "_law_bag_here", "_law_street_so", "_law_turn", "_law_odds", "_law_call", "_law_a", "_law_b", "_law_walker_so", "_law_events_so", "_law_moment", "_law_delay", "_law_other", "_law_odd", "?"], [14], lamP n_4, lamB n_4, lamS n_4, "law.<locals>.<lambda>"⟩
def kitT : List (List Str) := [[], ["InvalidStreet"], ["InvalidWalker"], ["InvalidWord"], ["InvalidLight"], ["InvalidMoment"], ["InvalidPaper"], ["InvalidFacts"], ["InvalidDeed"], ["InvalidText"], ["Unlike"], ["NothingToUndo"]]
def nd : EvH.NamedD := ⟨"_law_named_error", top 50, ["_law_e", "_law_some", "_law_labels", "_law_label", "_law_good"], ⟨"_law_e", "_law_some", "_law_labels", [["InvalidStreet", "InvalidWalker", "InvalidWord"], ["InvalidLight", "InvalidMoment", "InvalidPaper"], ["InvalidFacts", "InvalidDeed", "InvalidText"], ["Unlike", "NothingToUndo"]], "street walker word light moment paper facts deed text unlike undo", " "⟩, "GreenError", fun c y => ((kitT[c]?).getD []).contains y⟩
def L : LawD where
  defs := [some d_divisor_of, some d_lowest, some d_is_whole, some d_is_row, some d_is_light, some d_is_street, some d_is_fraction, some d_is_within, some d_fits_walker, some d_is_event, some d_fits_word, some d_need_street, some d_need_walker, some d_further, some d_event_at, some d_run, some d_need_told, some d_word_of, some d_coming, some d_waited, some d_does, some d__law_cell, some d__law_draws, some d__law_bag, some d__law_take, some d__law_choice, some d__law_lowest, some d__law_less, some d__law_together, some d__law_street, some d__law_walker, some d__law_run, none, none, some d__law_truly, some d__law_all_refused, some d__law_edge_walker, some d_law]
  cls := ["GreenError", "InvalidStreet", "InvalidWalker", "InvalidWord", "InvalidLight", "InvalidMoment", "InvalidPaper", "InvalidFacts", "InvalidDeed", "InvalidText", "Unlike", "NothingToUndo"]
  lams := [(l_0, lc_0), (l_1, lc_1), (l_2, lc_2), (l_3, lc_3), (l_4, lc_4)]
  globs := globs
  mks := [(["_law_call", "_law_odds", "_law_name", "_law_odd"], "_law_all_refused.<locals>.<lambda>", "_law_all_refused"), (["_law_script", "_law_k", "_law_bag_here", "_law_street_so", "_law_turn", "_law_odds", "_law_call", "_law_a", "_law_b", "_law_walker_so", "_law_events_so", "_law_moment", "_law_delay", "_law_other", "_law_odd"], "law.<locals>.<lambda>", "law")]
  nd := nd
  told := none
  err := (some ⟨"_law_error", top 51, "_law_call", "_law_e"⟩)
theorem ok : L.ok = true := by decide +kernel
theorem bind : L.Bind where
  ds := ⟨(fun _ _ _ _ _ _ us hl => match us, hl with | [_, _], _ => rfl), (fun _ _ _ _ _ _ us hl => match us, hl with | [_, _], _ => rfl), (fun _ _ _ _ _ _ us hl => match us, hl with | [_, _, _], _ => rfl), (fun _ _ _ _ _ _ us hl => match us, hl with | [_, _, _], _ => rfl), (fun _ _ _ _ _ _ us hl => match us, hl with | [_, _], _ => rfl), (fun _ _ _ _ _ _ us hl => match us, hl with | [_], _ => rfl), (fun _ _ _ _ _ _ us hl => match us, hl with | [_], _ => rfl), (fun _ _ _ _ _ _ us hl => match us, hl with | [_, _], _ => rfl), (fun _ _ _ _ _ _ us hl => match us, hl with | [_, _], _ => rfl), (fun _ _ _ _ _ _ us hl => match us, hl with | [_], _ => rfl), (fun _ _ _ _ _ _ us hl => match us, hl with | [_, _], _ => rfl), (fun _ _ _ _ _ _ us hl => match us, hl with | [_], _ => rfl), (fun _ _ _ _ _ _ us hl => match us, hl with | [_, _], _ => rfl), (fun _ _ _ _ _ _ us hl => match us, hl with | [_, _, _], _ => rfl), (fun _ _ _ _ _ _ us hl => match us, hl with | [_, _], _ => rfl), (fun _ _ _ _ _ _ us hl => match us, hl with | [_, _], _ => rfl), (fun _ _ _ _ _ _ us hl => match us, hl with | [_, _], _ => rfl), (fun _ _ _ _ _ _ us hl => match us, hl with | [_, _], _ => rfl), (fun _ _ _ _ _ _ us hl => match us, hl with | [_, _], _ => rfl), (fun _ _ _ _ _ _ us hl => match us, hl with | [_, _], _ => rfl), (fun _ _ _ _ _ _ us hl => match us, hl with | [_, _, _], _ => rfl), (fun _ _ _ _ _ _ us hl => match us, hl with | [_, _], _ => rfl), (fun _ _ _ _ _ _ us hl => match us, hl with | [_, _, _, _], _ => rfl), (fun _ _ _ _ _ _ us hl => match us, hl with | [_, _], _ => rfl), (fun _ _ _ _ _ _ us hl => match us, hl with | [_, _], _ => rfl), (fun _ _ _ _ _ _ us hl => match us, hl with | [_, _], _ => rfl), (fun _ _ _ _ _ _ us hl => match us, hl with | [_, _], _ => rfl), (fun _ _ _ _ _ _ us hl => match us, hl with | [_, _], _ => rfl), (fun _ _ _ _ _ _ us hl => match us, hl with | [_, _], _ => rfl), (fun _ _ _ _ _ _ us hl => match us, hl with | [_, _], _ => rfl), (fun _ _ _ _ _ _ us hl => match us, hl with | [_, _], _ => rfl), (fun _ _ _ _ _ _ us hl => match us, hl with | [_, _], _ => rfl), (fun _ _ _ _ _ _ us hl => match us, hl with | [_, _], _ => rfl), (fun _ _ _ _ _ _ us hl => match us, hl with | [_, _, _], _ => rfl), (fun _ _ _ _ _ _ us hl => match us, hl with | [_, _], _ => rfl), (fun _ _ _ _ _ _ us hl => match us, hl with | [_], _ => rfl), trivial⟩
  nd := (fun _ _ _ _ _ _ us hl => match us, hl with | [_], _ => rfl)
  es := ⟨(fun _ _ _ _ _ _ us hl => match us, hl with | [_], _ => rfl), trivial⟩
  ls := ⟨(fun _ _ _ _ us hl => match us, hl with | [], _ => rfl), (fun _ _ _ _ us hl => match us, hl with | [_], _ => rfl), (fun _ _ _ _ us hl => match us, hl with | [], _ => rfl), (fun _ _ _ _ us hl => match us, hl with | [_], _ => rfl), (fun _ _ _ _ us hl => match us, hl with | [_], _ => rfl), trivial⟩
def LAW : Nat := 37
theorem prog_eq : L.prog = P := by
  have e1 : L.defs.map (Option.map (·.code)) = codes := rfl
  have e2 : L.lams.map (·.2) = lcodes := rfl
  have e3 : ((List.range L.cls.length).map fun c => L.nd.q.lab (L.nd.kit c)) = labels := by decide +kernel
  unfold LawD.prog P
  congr 1
  · funext f
    rw [← e1, List.getElem?_map]
    cases L.defs[f]? with
    | none => rfl
    | some x => cases x <;> rfl
  · funext k
    rw [← e2, List.getElem?_map]
  · funext c
    rw [← e3, List.getElem?_map]
    by_cases h : c < L.cls.length
    · rw [List.getElem?_range h, List.getElem?_eq_getElem h]
      rfl
    · have h1 : L.cls[c]? = none := List.getElem?_eq_none (by omega)
      have h2 : (List.range L.cls.length)[c]? = none := List.getElem?_eq_none (by rw [List.length_range]; omega)
      rw [h1, h2]
      rfl
end D02

set_option Elab.async false
set_option linter.all false
set_option autoImplicit false
set_option maxRecDepth 100000
set_option maxHeartbeats 0
/-! The head's run. Own work. -/
namespace H02
open PySem PySem.Spec PyProof.Rows L2 D02
abbrev R : PySem.W.OpenRow := PySem.W.OpenLaw.row PySem.Challenge.rw_anygreens_k02_walks_of_told_walkers
abbrev hk : PySem.W.Hook := He.hookX 4 L.fa L.fn [] L.tf L.ex
def ob (s : PySem.W.SharedT) : He.AlX := He.obsX 4 L.fa L.fn [] L.tf L.ex (HandSHeadRun.getT s)
theorem ob_eq (s : PySem.W.SharedT) : ob s = hk.obs s.abs := He.obsX_eq (HandSHeadRun.getT_eq s)
def ls0 : List Str := ["GreenError", "InvalidStreet", "InvalidWalker", "InvalidWord", "InvalidLight", "InvalidMoment", "InvalidPaper", "InvalidFacts", "InvalidDeed", "InvalidText", "Unlike", "NothingToUndo", "GREATEST", "divisor_of", "lowest", "is_whole", "is_row", "is_light", "is_street", "is_fraction", "is_within", "fits_walker", "is_event", "fits_word", "need_street", "need_walker", "further", "event_at", "run", "need_told"]
def ls1 : List Str := ["word_of", "coming", "waited", "does", "_law_cell", "_law_draws", "_law_bag", "_law_take", "_law_choice", "_law_lowest", "_law_less", "_law_together", "_law_street", "_law_walker", "_law_run", "_law_named_error", "_law_error", "_law_truly", "_law_all_refused", "_law_edge_walker"]
def loose : List Str := ls0 ++ ls1
theorem run (w : World) : HandSHeadRun.RunEq R (PySem.W.view R.prog [55]) hk ob 20000 loose w := by
  intro os
  kernel_rfl
end H02

set_option Elab.async false
set_option linter.all false
set_option autoImplicit false
set_option maxRecDepth 100000
set_option maxHeartbeats 1000000
/-! Walks with fractions: plain. Own work. -/
namespace M02
open PySem Ev
/-- a fraction in lowest terms -/
def lw (a b : Int) : Int × Int := (a / (Int.gcd a b : Nat), b / (Int.gcd a b : Nat))
def cn (x : Int × Int) : Prop := 0 < x.2 ∧ Int.gcd x.1 x.2 = 1
theorem gpos {a b : Int} (hb : 0 < b) : 0 < ((Int.gcd a b : Nat) : Int) := by
  have : 0 < Int.gcd a b := Int.gcd_pos_of_ne_zero_right _ (by omega)
  omega
theorem lw_parts {a b : Int} (hb : 0 < b) : a = (Int.gcd a b : Nat) * (lw a b).1 ∧ b = (Int.gcd a b : Nat) * (lw a b).2 := by
  unfold lw
  exact ⟨(Int.mul_ediv_cancel' (Int.gcd_dvd_left ..)).symm, (Int.mul_ediv_cancel' (Int.gcd_dvd_right ..)).symm⟩
theorem lw_pos {a b : Int} (hb : 0 < b) : 0 < (lw a b).2 := Int.ediv_pos_of_pos_of_dvd hb (by omega) (Int.gcd_dvd_right ..)
theorem lw_cn {a b : Int} (hb : 0 < b) : cn (lw a b) := by
  refine ⟨lw_pos hb, ?_⟩
  have g := gpos (a := a) hb
  obtain ⟨h1, h2⟩ := lw_parts (a := a) hb
  have e : Int.gcd a b = Int.gcd a b * Int.gcd (lw a b).1 (lw a b).2 := by
    have := Int.gcd_mul_left (Int.gcd a b : Nat) (lw a b).1 (lw a b).2
    rw [← h1, ← h2] at this
    simpa using this
  have g' : 0 < Int.gcd a b := by omega
  exact (Nat.eq_of_mul_eq_mul_left g' (by rw [Nat.mul_one]; exact e)).symm
theorem lw_rt {a b : Int} (hb : 0 < b) : (lw a b).1 * b = a * (lw a b).2 := by
  obtain ⟨h1, h2⟩ := lw_parts (a := a) hb
  generalize (lw a b).1 = x at *
  generalize (lw a b).2 = y at *
  generalize ((Int.gcd a b : Nat) : Int) = g at *
  grind
theorem cn_eq {x y : Int × Int} (hx : cn x) (hy : cn y) (h : x.1 * y.2 = y.1 * x.2) : x = y := by
  obtain ⟨a, b⟩ := x
  obtain ⟨c, d⟩ := y
  obtain ⟨b0, hg⟩ := hx
  obtain ⟨d0, hg2⟩ := hy
  simp only at *
  have n : a.natAbs * d.natAbs = c.natAbs * b.natAbs := by rw [← Int.natAbs_mul, ← Int.natAbs_mul, h]
  have c1 : Nat.Coprime b.natAbs a.natAbs := by
    have : Nat.gcd a.natAbs b.natAbs = 1 := hg
    rw [Nat.gcd_comm] at this
    exact this
  have c2 : Nat.Coprime d.natAbs c.natAbs := by
    have : Nat.gcd c.natAbs d.natAbs = 1 := hg2
    rw [Nat.gcd_comm] at this
    exact this
  have d1 : b.natAbs ∣ d.natAbs := c1.dvd_of_dvd_mul_left ⟨c.natAbs, by rw [n, Nat.mul_comm]⟩
  have d2 : d.natAbs ∣ b.natAbs := c2.dvd_of_dvd_mul_left ⟨a.natAbs, by rw [← n, Nat.mul_comm]⟩
  have e := Nat.dvd_antisymm d1 d2
  have e2 : b = d := by omega
  subst e2
  have := Int.eq_of_mul_eq_mul_right (by omega) h
  rw [this]
theorem lw_eq {a b c d : Int} (hb : 0 < b) (hd : 0 < d) (h : a * d = c * b) : lw a b = lw c d := by
  have r1 := lw_rt (a := a) hb
  have r2 := lw_rt (a := c) hd
  refine cn_eq (lw_cn hb) (lw_cn hd) ?_
  generalize lw a b = x at *
  generalize lw c d = y at *
  have q : b * d ≠ 0 := Int.mul_ne_zero (by omega) (by omega)
  refine Int.eq_of_mul_eq_mul_right q ?_
  grind
theorem lw_id {x : Int × Int} (h : cn x) : lw x.1 x.2 = x := by
  have r := lw_rt (a := x.1) h.1
  exact cn_eq (lw_cn h.1) h r
/-- two fractions together -/
def tog (x y : Int × Int) : Int × Int := lw (x.1 * y.2 + y.1 * x.2) (x.2 * y.2)
/-- so many places further on -/
def fur (x w : Int × Int) (k : Int) : Int × Int := lw (x.1 * w.2 + w.1 * k * x.2) (x.2 * w.2)
theorem fur_cn {x w : Int × Int} {k : Int} (hx : 0 < x.2) (hw : 0 < w.2) : cn (fur x w k) := lw_cn (Int.mul_pos hx hw)
theorem tog_cn {x y : Int × Int} (hx : 0 < x.2) (hy : 0 < y.2) : cn (tog x y) := lw_cn (Int.mul_pos hx hy)
theorem fur_0 {x w : Int × Int} (hx : cn x) (hw : 0 < w.2) : fur x w 0 = x := by
  have e : fur x w 0 = lw x.1 x.2 := lw_eq (Int.mul_pos hx.1 hw) hx.1 (by grind)
  rw [e, lw_id hx]
theorem fur_s {x w : Int × Int} {k : Int} (hx : 0 < x.2) (hw : 0 < w.2) : tog (fur x w k) w = fur x w (k + 1) := by
  have r : (fur x w k).1 * (x.2 * w.2) = _ := lw_rt (a := x.1 * w.2 + w.1 * k * x.2) (Int.mul_pos hx hw)
  have c := fur_cn (k := k) hx hw
  have c1 := c.1
  refine lw_eq (Int.mul_pos c1 hw) (Int.mul_pos hx hw) ?_
  change (fur x w k).1 * (x.2 * w.2) = (x.1 * w.2 + w.1 * k * x.2) * (fur x w k).2 at r
  generalize fur x w k = y at *
  obtain ⟨x1, x2⟩ := x
  obtain ⟨w1, w2⟩ := w
  obtain ⟨y1, y2⟩ := y
  simp only at *
  grind
/-! ### lights -/
def tms (g r sh : Int) (x : Int × Int) : Int := (x.1 - sh * x.2) / (x.2 * (g + r))
def bgn (g r sh : Int) (x : Int × Int) : Int := sh + tms g r sh x * (g + r)
def goes (g r sh : Int) (x : Int × Int) : Bool := decide (x.1 < (bgn g r sh x + g) * x.2)
def evD (g r sh : Int) (x : Int × Int) : D := if goes g r sh x = true then .tup [.str "go", .int (tms g r sh x)] else .tup [.str "wait", .int (tms g r sh x + 1)]
def onw (g r sh : Int) (x : Int × Int) : Int × Int := if goes g r sh x = true then x else (bgn g r sh x + g + r, 1)
def dly (g r sh : Int) (x d : Int × Int) : Int × Int := if goes g r sh x = true then d else tog d (tog (bgn g r sh x + g + r, 1) (-x.1, x.2))
structure WS where
  h : Int
  x : Int × Int
  ev : List D
  dl : Int × Int
def stepW (w : Int × Int) (s : WS) : List Int → WS
  | [pl, g, r, sh] => ⟨pl, onw g r sh (fur s.x w (pl - s.h)), s.ev ++ [evD g r sh (fur s.x w (pl - s.h))], dly g r sh (fur s.x w (pl - s.h)) s.dl⟩
  | _ => s
/-- the delay is what is missing -/
structure WI (t b m p : Int) (s : WS) : Prop where
  cx : cn s.x
  cd : cn s.dl
  eq : s.x.1 * (b * p * s.dl.2) = s.x.2 * (t * p * s.dl.2 + s.h * m * b * s.dl.2 + s.dl.1 * b * p)
theorem fur_eq {t b m p h k : Int} {x d : Int × Int} (hx : 0 < x.2) (hp : 0 < p) (e : x.1 * (b * p * d.2) = x.2 * (t * p * d.2 + h * m * b * d.2 + d.1 * b * p)) :
    (fur x (m, p) k).1 * (b * p * d.2) = (fur x (m, p) k).2 * (t * p * d.2 + (h + k) * m * b * d.2 + d.1 * b * p) := by
  have r : (fur x (m, p) k).1 * (x.2 * p) = (x.1 * p + m * k * x.2) * (fur x (m, p) k).2 := lw_rt (Int.mul_pos hx hp)
  generalize fur x (m, p) k = y at *
  obtain ⟨x1, x2⟩ := x
  obtain ⟨y1, y2⟩ := y
  obtain ⟨d1, d2⟩ := d
  simp only at *
  have q : x2 * p ≠ 0 := Int.mul_ne_zero (by omega) (by omega)
  refine Int.eq_of_mul_eq_mul_right q ?_
  have e1 : y1 * (b * p * d2) * (x2 * p) = (y1 * (x2 * p)) * (b * p * d2) := by grind
  rw [e1, r]
  have e2 : (x1 * p + m * k * x2) * y2 * (b * p * d2) = (x1 * (b * p * d2)) * (p * y2) + m * k * x2 * y2 * (b * p * d2) := by grind
  rw [e2, e]
  grind
theorem dly_eq {A : Int} {b p : Int} {x d : Int × Int} {g : Int} (hx : 0 < x.2) (hd : 0 < d.2) (e : x.1 * (b * p * d.2) = x.2 * (A * d.2 + d.1 * b * p)) :
    g * (b * p * (tog d (tog (g, 1) (-x.1, x.2))).2) = 1 * (A * (tog d (tog (g, 1) (-x.1, x.2))).2 + (tog d (tog (g, 1) (-x.1, x.2))).1 * b * p) := by
  have r1 : (tog (g, 1) (-x.1, x.2)).1 * (1 * x.2) = (g * x.2 + -x.1 * 1) * (tog (g, 1) (-x.1, x.2)).2 := lw_rt (Int.mul_pos Int.one_pos hx)
  have c1 : 0 < (tog (g, 1) (-x.1, x.2)).2 := (tog_cn (x := (g, 1)) (y := (-x.1, x.2)) Int.one_pos hx).1
  generalize tog (g, 1) (-x.1, x.2) = y at *
  have r2 : (tog d y).1 * (d.2 * y.2) = (d.1 * y.2 + y.1 * d.2) * (tog d y).2 := lw_rt (Int.mul_pos hd c1)
  generalize tog d y = z at *
  obtain ⟨x1, x2⟩ := x
  obtain ⟨y1, y2⟩ := y
  obtain ⟨d1, d2⟩ := d
  obtain ⟨z1, z2⟩ := z
  simp only at *
  have q : d2 * y2 * x2 ≠ 0 := Int.mul_ne_zero (Int.mul_ne_zero (by omega) (by omega)) (by omega)
  refine Int.eq_of_mul_eq_mul_right q ?_
  have s1 : 1 * (A * z2 + z1 * b * p) * (d2 * y2 * x2) = A * z2 * (d2 * y2 * x2) + (z1 * (d2 * y2)) * (b * p * x2) := by grind
  rw [s1, r2]
  have s2 : (d1 * y2 + y1 * d2) * z2 * (b * p * x2) = d1 * y2 * z2 * b * p * x2 + (y1 * (1 * x2)) * (d2 * z2 * b * p) := by grind
  rw [s2, r1]
  have s3 : A * z2 * (d2 * y2 * x2) + (d1 * y2 * z2 * b * p * x2 + (g * x2 + -x1 * 1) * y2 * (d2 * z2 * b * p)) = (x2 * (A * d2 + d1 * b * p)) * (z2 * y2) + g * x2 * y2 * d2 * z2 * b * p - (x1 * (b * p * d2)) * (z2 * y2) := by grind
  rw [s3, e]
  grind
theorem step_ok {t b m p : Int} {s : WS} {pl g r sh : Int} (hp : 0 < p) (I : WI t b m p s) : WI t b m p (stepW (m, p) s [pl, g, r, sh]) := by
  have c := fur_cn (x := s.x) (w := (m, p)) (k := pl - s.h) I.cx.1 hp
  have e := fur_eq (k := pl - s.h) I.cx.1 hp I.eq
  rw [show s.h + (pl - s.h) = pl by omega] at e
  unfold stepW
  simp only
  generalize fur s.x (m, p) (pl - s.h) = x at *
  unfold onw dly
  by_cases hg : goes g r sh x = true
  · simp only [hg, if_true]
    exact ⟨c, I.cd, e⟩
  · simp only [hg, if_false, Bool.false_eq_true]
    have c1 := tog_cn (x := (bgn g r sh x + g + r, 1)) (y := (-x.1, x.2)) Int.one_pos c.1
    refine ⟨⟨Int.one_pos, by simp⟩, tog_cn I.cd.1 c1.1, ?_⟩
    have h := dly_eq (A := t * p + pl * m * b) (b := b) (p := p) (x := x) (d := s.dl) (g := bgn g r sh x + g + r) c.1 I.cd.1 (by rw [e]; grind)
    simp only
    generalize tog s.dl (tog (bgn g r sh x + g + r, 1) (-x.1, x.2)) = z at *
    rw [h]
    grind
/-- the end: what is missing -/
theorem end_ok {t b m p e : Int} {s : WS} (hb : 0 < b) (hp : 0 < p) (I : WI t b m p s) :
    lw ((fur s.x (m, p) (e - s.h)).1 * (fur (t, b) (m, p) e).2 - (fur (t, b) (m, p) e).1 * (fur s.x (m, p) (e - s.h)).2) ((fur s.x (m, p) (e - s.h)).2 * (fur (t, b) (m, p) e).2) = s.dl := by
  have c := fur_cn (x := s.x) (w := (m, p)) (k := e - s.h) I.cx.1 hp
  have q := fur_eq (k := e - s.h) I.cx.1 hp I.eq
  rw [show s.h + (e - s.h) = e by omega] at q
  have c2 := fur_cn (x := (t, b)) (w := (m, p)) (k := e) hb hp
  have r2 : (fur (t, b) (m, p) e).1 * (b * p) = (t * p + m * e * b) * (fur (t, b) (m, p) e).2 := lw_rt (Int.mul_pos hb hp)
  generalize fur s.x (m, p) (e - s.h) = x at *
  generalize fur (t, b) (m, p) e = f at *
  have hd := I.cd
  generalize s.dl = d at *
  rw [← lw_id hd]
  refine lw_eq (Int.mul_pos c.1 c2.1) hd.1 ?_
  have n : b * p ≠ 0 := Int.mul_ne_zero (by omega) (by omega)
  refine Int.eq_of_mul_eq_mul_right n ?_
  obtain ⟨x1, x2⟩ := x
  obtain ⟨f1, f2⟩ := f
  obtain ⟨d1, d2⟩ := d
  simp only at *
  have s1 : (x1 * f2 - f1 * x2) * d2 * (b * p) = (x1 * (b * p * d2)) * f2 - (f1 * (b * p)) * (x2 * d2) := by grind
  rw [s1, q, r2]
  grind
end M02

set_option Elab.async false
set_option linter.all false
set_option autoImplicit false
set_option maxRecDepth 100000
set_option maxHeartbeats 1000000
/-! The numbers in a word: bounds. Own work. -/
namespace M02
open PySem Ev
theorem mul_le {a b c : Int} (h : a ≤ b) (hc : 0 ≤ c) : a * c ≤ b * c := Int.mul_le_mul_of_nonneg_right h hc
theorem le_mul {a b c : Int} (h : a * c ≤ b * c) (hc : 0 < c) : a ≤ b := Int.le_of_mul_le_mul_right h hc
/-- between 0 and B -/
def nb (B : Int) (x : Int × Int) : Prop := 0 ≤ x.1 ∧ x.1 ≤ B * x.2
theorem nb_lw {B a b : Int} (hb : 0 < b) (h0 : 0 ≤ a) (h1 : a ≤ B * b) : nb B (lw a b) := by
  obtain ⟨e1, e2⟩ := lw_parts (a := a) hb
  have g := gpos (a := a) hb
  generalize ((Int.gcd a b : Nat) : Int) = k at *
  generalize lw a b = x at *
  obtain ⟨x1, x2⟩ := x
  simp only [nb] at *
  refine ⟨?_, ?_⟩
  · refine le_mul (c := k) ?_ g
    rw [Int.zero_mul, Int.mul_comm, ← e1]; exact h0
  · refine le_mul (c := k) ?_ g
    have s1 : x1 * k = a := by rw [e1, Int.mul_comm]
    have s2 : B * x2 * k = B * b := by rw [e2]; grind
    omega
theorem nb_fur {B s k : Int} {x w : Int × Int} (h : nb B x) (hx : 0 < x.2) (hw : 0 < w.2) (hm : 0 ≤ w.1 ∧ w.1 ≤ s * w.2) (hk : 0 ≤ k) : nb (B + s * k) (fur x w k) := by
  obtain ⟨x1, x2⟩ := x
  obtain ⟨w1, w2⟩ := w
  simp only [nb] at *
  refine nb_lw (Int.mul_pos hx hw) ?_ ?_
  · have a1 : 0 ≤ x1 * w2 := Int.mul_nonneg h.1 (by omega)
    have a2 : 0 ≤ w1 * k * x2 := Int.mul_nonneg (Int.mul_nonneg hm.1 hk) (by omega)
    simp only
    omega
  · have a1 : x1 * w2 ≤ B * x2 * w2 := mul_le h.2 (by omega)
    have a2 : w1 * (k * x2) ≤ s * w2 * (k * x2) := mul_le hm.2 (Int.mul_nonneg hk (by omega))
    have s1 : w1 * k * x2 = w1 * (k * x2) := by grind
    have s2 : (B + s * k) * (x2 * w2) = B * x2 * w2 + s * w2 * (k * x2) := by grind
    simp only
    omega
theorem tms_lo {g r sh : Int} {x : Int × Int} (hp : 0 < x.2 * (g + r)) : tms g r sh x * (x.2 * (g + r)) ≤ x.1 - sh * x.2 := Int.ediv_mul_le _ (by omega)
theorem tms_hi {g r sh : Int} {x : Int × Int} (hp : 0 < x.2 * (g + r)) : x.1 - sh * x.2 < (tms g r sh x + 1) * (x.2 * (g + r)) := Int.lt_ediv_add_one_mul_self _ hp
theorem lt_mul {a b c : Int} (h : a * c < b * c) (hc : 0 < c) : a < b := Int.lt_of_mul_lt_mul_right h (by omega)
structure GR (g r sh : Int) : Prop where
  ga : 4 ≤ g ∧ g ≤ 30
  ra : 4 ≤ r ∧ r ≤ 30
  sa : 0 ≤ sh ∧ sh < g + r
theorem tms_bd {B g r sh : Int} {x : Int × Int} (G : GR g r sh) (h : nb B x) (hx : 0 < x.2) (hB : 0 ≤ B) : -1 ≤ tms g r sh x ∧ tms g r sh x * 8 ≤ B ∧ nb (B + 60) (onw g r sh x) := by
  obtain ⟨x1, x2⟩ := x
  have g1 := G.ga
  have r1 := G.ra
  have s1 := G.sa
  have hp : 0 < x2 * (g + r) := Int.mul_pos hx (by omega)
  have lo := tms_lo (sh := sh) (x := (x1, x2)) hp
  have hi := tms_hi (sh := sh) (x := (x1, x2)) hp
  simp only [nb] at *
  have sx : 0 ≤ sh * x2 := Int.mul_nonneg s1.1 (by omega)
  have sx2 : sh * x2 ≤ (g + r - 1) * x2 := mul_le (by omega) (by omega)
  have hc : onw g r sh (x1, x2) = (x1, x2) ∨ onw g r sh (x1, x2) = (bgn g r sh (x1, x2) + g + r, 1) := by
    unfold onw; split
    · exact .inl rfl
    · exact .inr rfl
  unfold bgn at hc
  generalize tms g r sh (x1, x2) = q at *
  have e1 : q * (x2 * (g + r)) = (q * (g + r)) * x2 := by grind
  have e2 : (q + 1) * (x2 * (g + r)) = ((q + 1) * (g + r)) * x2 := by grind
  rw [e1] at lo
  rw [e2] at hi
  have u1 : q * (g + r) ≤ B := le_mul (c := x2) (by omega) hx
  have u2 : 0 < (sh + q * (g + r) + g + r) := by
    refine lt_mul (c := x2) ?_ hx
    have e3 : (sh + q * (g + r) + g + r) * x2 = sh * x2 + (q + 1) * (g + r) * x2 := by grind
    omega
  have u3 : -1 ≤ q := by
    have : -(g + r) < (q + 1) * (g + r) := by
      refine lt_mul (c := x2) ?_ hx
      have e4 : -(g + r) * x2 = -((g + r - 1) * x2) - x2 := by grind
      omega
    have h2 : (-1) * (g + r) < (q + 1) * (g + r) := by omega
    have := lt_mul h2 (by omega)
    omega
  have u4 : q * 8 ≤ B := by
    by_cases h0 : 0 ≤ q
    · have := Int.mul_le_mul_of_nonneg_left (show (8 : Int) ≤ g + r by omega) h0
      omega
    · omega
  refine ⟨u3, u4, ?_⟩
  rcases hc with e | e
  · rw [e]
    refine ⟨h.1, ?_⟩
    have : B * x2 ≤ (B + 60) * x2 := mul_le (by omega) (by omega)
    simp only
    omega
  · rw [e]
    refine ⟨by simp only; omega, ?_⟩
    have u5 : sh + q * (g + r) ≤ B := by
      refine le_mul (c := x2) ?_ hx
      have e5 : (sh + q * (g + r)) * x2 = sh * x2 + q * (g + r) * x2 := by grind
      omega
    simp only
    omega
/-- a word's number -/
def evN (v : D) : Prop := (∃ i : Int, v = .tup [.str "go", .int i] ∧ -9 ≤ i ∧ i < 99) ∨ ∃ i : Int, v = .tup [.str "wait", .int i] ∧ -9 ≤ i ∧ i < 99
theorem evN_of {B g r sh : Int} {x : Int × Int} (G : GR g r sh) (h : nb B x) (hx : 0 < x.2) (hB : 0 ≤ B ∧ B ≤ 700) : evN (evD g r sh x) := by
  obtain ⟨h1, h2, _⟩ := tms_bd G h hx hB.1
  unfold evD
  split
  · exact .inl ⟨_, rfl, by omega, by omega⟩
  · exact .inr ⟨_, rfl, by omega, by omega⟩
/-- the state's numbers are small -/
structure WN (sl : Int) (i : Nat) (s : WS) : Prop where
  nb : nb (20 + sl * s.h + 60 * i) s.x
  ev : ∀ v ∈ s.ev, evN v
theorem wn_step {sl m p : Int} {i : Nat} {s : WS} {pl g r sh : Int} (G : GR g r sh) (hsl : 0 ≤ sl ∧ sl ≤ 3) (hm : 0 ≤ m ∧ m ≤ sl * p) (hp : 0 < p) (hh : 0 ≤ s.h ∧ s.h ≤ pl ∧ pl ≤ 20) (hi : i ≤ 3) (N : WN sl i s) (hx : 0 < s.x.2) : WN sl (i + 1) (stepW (m, p) s [pl, g, r, sh]) := by
  have f := nb_fur (w := (m, p)) (s := sl) (k := pl - s.h) N.nb hx hp hm (by omega)
  have c := (fur_cn (x := s.x) (w := (m, p)) (k := pl - s.h) hx hp).1
  have eB : 20 + sl * s.h + 60 * (i : Int) + sl * (pl - s.h) = 20 + sl * pl + 60 * i := by rw [Int.mul_sub]; omega
  rw [eB] at f
  have b1 : 0 ≤ sl * pl := Int.mul_nonneg hsl.1 (by omega)
  have b2 : sl * pl ≤ 3 * 20 := Int.mul_le_mul hsl.2 hh.2.2 (by omega) (by omega)
  unfold stepW
  simp only
  generalize fur s.x (m, p) (pl - s.h) = x at *
  obtain ⟨_, _, o⟩ := tms_bd G f c (by omega)
  refine ⟨?_, fun v hv => ?_⟩
  · simp only
    rw [show 20 + sl * pl + 60 * ((i + 1 : Nat) : Int) = 20 + sl * pl + 60 * (i : Int) + 60 by omega]
    exact o
  · rcases List.mem_append.mp hv with h | h
    · exact N.ev v h
    · simp at h; subst h
      exact evN_of G f c (by omega)
end M02

set_option Elab.async false
set_option linter.all false
set_option autoImplicit false
set_option maxRecDepth 100000
set_option maxHeartbeats 4000000
/-! What the defs answer, by the evaluator. Own work. -/
namespace E02
open PySem Ev C02 M15 Tx
theorem fn_step {n f : Nat} {c : FnC} {vs : List Val} {S : Sto} (h : P.fn f = some c) (hl : vs.length = c.ps) : (calls P (n + 1)).fn f vs S = leaveS S.length (evSs (calls P n) c.body (vs.map some ++ List.replicate (c.ns - c.ps) none) S) := by
  show (match P.fn f with | some c => runFn (calls P n) c vs S | none => .stuck) = _
  rw [h]
  unfold runFn
  simp only
  rw [if_pos hl]
theorem f_is_whole {n : Nat} {v : D} {lo hi : Int} {S : Sto} (hv : noFn v = true) : (calls P (n + 1)).fn 2 [.d v, .d (.int lo), .d (.int hi)] S = .ok (.d (.bl (isW v lo hi))) S := by
  rw [fn_step (c := c_is_whole) rfl rfl]
  unfold c_is_whole
  simp only [List.map_cons, List.map_nil, List.cons_append, List.nil_append, Nat.sub_self, List.replicate_zero]
  cases v with
  | int i => by_cases h : lo ≤ i <;> simp [R.bind_ok, R.bind_exc, bindP_ok, bindP_exc, bindD_ok, bindD_exc, ofO_some, rsof_ok, rsof_exc, rsofO_some, andThen_nx, andThen_ret, andThen_exc, e_var, e_lit, e_tup, e_lst, e_neg, e_not, e_bin, e_cmp, e_chain, e_bool, e_ite, e_idx, e_cut, e_rev, e_back, e_call, e_bi, e_len, e_isi, e_fmt, e_split, e_join, q_val, q_not, q_and, q_or, and_nil, and_cons, or_nil, or_cons, ds_nil, ds_cons, vs_nil, vs_cons, bool_one, bool_cons, s_set_, s_setp_, s_ret_, s_ifs_, s_rais_, s_append_, s_expr_, s_frz_, ss_nil_, ss_cons_, getV_0, getV_s, truD_bl, truD_int, truD_lst, rdV_d, optI_0, optI_1, setV_d, setV_box, setV_t, setT_v, setT_t, setTs_0, setTs_c, setPar_0, setPar_d, setPar_box, wipe_0, wipe_c, obind_some, noFn_non, noFn_bl, noFn_int, noFn_str, noFn_lst, noFn_tup, add_ii, sub_ii, lt_ii, le_ii, gt_ii, ge_ii, idx_t, idx_l, at_0, at_1, at_2, at_3, at_4, cut_l, cut_t, cutL_1, cutL_3, cutL_t3, len_l, len_t, tup_l, list_t, int_i, leave_d0, leave_n0, leave_x0, D.cls, isW, h]
  | fn _ => simp [noFn] at hv
  | scr _ => simp [noFn] at hv
  | _ => simp [R.bind_ok, R.bind_exc, bindP_ok, bindP_exc, bindD_ok, bindD_exc, ofO_some, rsof_ok, rsof_exc, rsofO_some, andThen_nx, andThen_ret, andThen_exc, e_var, e_lit, e_tup, e_lst, e_neg, e_not, e_bin, e_cmp, e_chain, e_bool, e_ite, e_idx, e_cut, e_rev, e_back, e_call, e_bi, e_len, e_isi, e_fmt, e_split, e_join, q_val, q_not, q_and, q_or, and_nil, and_cons, or_nil, or_cons, ds_nil, ds_cons, vs_nil, vs_cons, bool_one, bool_cons, s_set_, s_setp_, s_ret_, s_ifs_, s_rais_, s_append_, s_expr_, s_frz_, ss_nil_, ss_cons_, getV_0, getV_s, truD_bl, truD_int, truD_lst, rdV_d, optI_0, optI_1, setV_d, setV_box, setV_t, setT_v, setT_t, setTs_0, setTs_c, setPar_0, setPar_d, setPar_box, wipe_0, wipe_c, obind_some, noFn_non, noFn_bl, noFn_int, noFn_str, noFn_lst, noFn_tup, add_ii, sub_ii, lt_ii, le_ii, gt_ii, ge_ii, idx_t, idx_l, at_0, at_1, at_2, at_3, at_4, cut_l, cut_t, cutL_1, cutL_3, cutL_t3, len_l, len_t, tup_l, list_t, int_i, leave_d0, leave_n0, leave_x0, D.cls, isW]
theorem f_is_row {n : Nat} {v : D} {lo hi : Int} {S : Sto} (hv : noFn v = true) : (calls P (n + 1)).fn 3 [.d v, .d (.int lo), .d (.int hi)] S = .ok (.d (.bl (isR v lo hi))) S := by
  rw [fn_step (c := c_is_row) rfl rfl]
  unfold c_is_row
  simp only [List.map_cons, List.map_nil, List.cons_append, List.nil_append, Nat.sub_self, List.replicate_zero]
  cases v with
  | tup xs => by_cases h : lo ≤ (xs.length : Int) <;> simp [R.bind_ok, R.bind_exc, bindP_ok, bindP_exc, bindD_ok, bindD_exc, ofO_some, rsof_ok, rsof_exc, rsofO_some, andThen_nx, andThen_ret, andThen_exc, e_var, e_lit, e_tup, e_lst, e_neg, e_not, e_bin, e_cmp, e_chain, e_bool, e_ite, e_idx, e_cut, e_rev, e_back, e_call, e_bi, e_len, e_isi, e_fmt, e_split, e_join, q_val, q_not, q_and, q_or, and_nil, and_cons, or_nil, or_cons, ds_nil, ds_cons, vs_nil, vs_cons, bool_one, bool_cons, s_set_, s_setp_, s_ret_, s_ifs_, s_rais_, s_append_, s_expr_, s_frz_, ss_nil_, ss_cons_, getV_0, getV_s, truD_bl, truD_int, truD_lst, rdV_d, optI_0, optI_1, setV_d, setV_box, setV_t, setT_v, setT_t, setTs_0, setTs_c, setPar_0, setPar_d, setPar_box, wipe_0, wipe_c, obind_some, noFn_non, noFn_bl, noFn_int, noFn_str, noFn_lst, noFn_tup, add_ii, sub_ii, lt_ii, le_ii, gt_ii, ge_ii, idx_t, idx_l, at_0, at_1, at_2, at_3, at_4, cut_l, cut_t, cutL_1, cutL_3, cutL_t3, len_l, len_t, tup_l, list_t, int_i, leave_d0, leave_n0, leave_x0, D.cls, isR, h]
  | fn _ => simp [noFn] at hv
  | scr _ => simp [noFn] at hv
  | _ => simp [R.bind_ok, R.bind_exc, bindP_ok, bindP_exc, bindD_ok, bindD_exc, ofO_some, rsof_ok, rsof_exc, rsofO_some, andThen_nx, andThen_ret, andThen_exc, e_var, e_lit, e_tup, e_lst, e_neg, e_not, e_bin, e_cmp, e_chain, e_bool, e_ite, e_idx, e_cut, e_rev, e_back, e_call, e_bi, e_len, e_isi, e_fmt, e_split, e_join, q_val, q_not, q_and, q_or, and_nil, and_cons, or_nil, or_cons, ds_nil, ds_cons, vs_nil, vs_cons, bool_one, bool_cons, s_set_, s_setp_, s_ret_, s_ifs_, s_rais_, s_append_, s_expr_, s_frz_, ss_nil_, ss_cons_, getV_0, getV_s, truD_bl, truD_int, truD_lst, rdV_d, optI_0, optI_1, setV_d, setV_box, setV_t, setT_v, setT_t, setTs_0, setTs_c, setPar_0, setPar_d, setPar_box, wipe_0, wipe_c, obind_some, noFn_non, noFn_bl, noFn_int, noFn_str, noFn_lst, noFn_tup, add_ii, sub_ii, lt_ii, le_ii, gt_ii, ge_ii, idx_t, idx_l, at_0, at_1, at_2, at_3, at_4, cut_l, cut_t, cutL_1, cutL_3, cutL_t3, len_l, len_t, tup_l, list_t, int_i, leave_d0, leave_n0, leave_x0, D.cls, isR]
def okn : Nat → D → Bool
  | 0, v => noFn v
  | n + 1, v => noFn v && (match v with | .tup xs => xs.all (okn n) | .lst xs => xs.all (okn n) | _ => true)
theorem okn_no {n : Nat} {v : D} (h : okn n v = true) : noFn v = true := by
  cases n with
  | zero => exact h
  | succ n =>
    unfold okn at h
    simp only [Bool.and_eq_true] at h
    exact h.1
theorem okn_tup {n : Nat} {xs : List D} (h : okn (n + 1) (.tup xs) = true) : ∀ x ∈ xs, okn n x = true := by
  unfold okn at h
  simp only [Bool.and_eq_true, List.all_eq_true] at h
  exact h.2
theorem f_is_light {n : Nat} {v : D} {e : Int} {S : Sto} (hv : okn 1 v = true) : (calls P (n + 2)).fn 4 [.d (.int e), .d v] S = .ok (.d (.bl (isL e v))) S := by
  rw [fn_step (c := c_is_light) rfl rfl]
  unfold c_is_light
  simp only [List.map_cons, List.map_nil, List.cons_append, List.nil_append, Nat.sub_self, List.replicate_zero]
  have h4 : isR v 4 4 = true → ∃ a b c d, v = .tup [a, b, c, d] := by
    intro h
    cases v <;> simp [isR] at h
    rename_i xs
    match xs, h with
    | [a, b, c, d], _ => exact ⟨a, b, c, d, rfl⟩
    | [], h => simp at h
    | [_], h => simp at h
    | [_, _], h => simp at h
    | [_, _, _], h => simp at h
    | _ :: _ :: _ :: _ :: _ :: _, h => simp at h; omega
  cases hr : isR v 4 4 with
  | true =>
    obtain ⟨a, b, c, d, rfl⟩ := h4 hr
    have ho := okn_tup hv
    have na : noFn a = true := okn_no (ho a (by simp))
    have nb : noFn b = true := okn_no (ho b (by simp))
    have nc : noFn c = true := okn_no (ho c (by simp))
    have nd : noFn d = true := okn_no (ho d (by simp))
    cases h1 : isW a 1 (e - 1) with
    | false => simp [R.bind_ok, R.bind_exc, bindP_ok, bindP_exc, bindD_ok, bindD_exc, ofO_some, rsof_ok, rsof_exc, rsofO_some, andThen_nx, andThen_ret, andThen_exc, e_var, e_lit, e_tup, e_lst, e_neg, e_not, e_bin, e_cmp, e_chain, e_bool, e_ite, e_idx, e_cut, e_rev, e_back, e_call, e_bi, e_len, e_isi, e_fmt, e_split, e_join, q_val, q_not, q_and, q_or, and_nil, and_cons, or_nil, or_cons, ds_nil, ds_cons, vs_nil, vs_cons, bool_one, bool_cons, s_set_, s_setp_, s_ret_, s_ifs_, s_rais_, s_append_, s_expr_, s_frz_, ss_nil_, ss_cons_, getV_0, getV_s, truD_bl, truD_int, truD_lst, rdV_d, optI_0, optI_1, setV_d, setV_box, setV_t, setT_v, setT_t, setTs_0, setTs_c, setPar_0, setPar_d, setPar_box, wipe_0, wipe_c, obind_some, noFn_non, noFn_bl, noFn_int, noFn_str, noFn_lst, noFn_tup, add_ii, sub_ii, lt_ii, le_ii, gt_ii, ge_ii, idx_t, idx_l, at_0, at_1, at_2, at_3, at_4, cut_l, cut_t, cutL_1, cutL_3, cutL_t3, len_l, len_t, tup_l, list_t, int_i, leave_d0, leave_n0, leave_x0, f_is_row (n := n) (okn_no hv), hr, f_is_whole (n := n) na, h1, isL]
    | true => cases h2 : isW b 4 30 with
      | false => simp [R.bind_ok, R.bind_exc, bindP_ok, bindP_exc, bindD_ok, bindD_exc, ofO_some, rsof_ok, rsof_exc, rsofO_some, andThen_nx, andThen_ret, andThen_exc, e_var, e_lit, e_tup, e_lst, e_neg, e_not, e_bin, e_cmp, e_chain, e_bool, e_ite, e_idx, e_cut, e_rev, e_back, e_call, e_bi, e_len, e_isi, e_fmt, e_split, e_join, q_val, q_not, q_and, q_or, and_nil, and_cons, or_nil, or_cons, ds_nil, ds_cons, vs_nil, vs_cons, bool_one, bool_cons, s_set_, s_setp_, s_ret_, s_ifs_, s_rais_, s_append_, s_expr_, s_frz_, ss_nil_, ss_cons_, getV_0, getV_s, truD_bl, truD_int, truD_lst, rdV_d, optI_0, optI_1, setV_d, setV_box, setV_t, setT_v, setT_t, setTs_0, setTs_c, setPar_0, setPar_d, setPar_box, wipe_0, wipe_c, obind_some, noFn_non, noFn_bl, noFn_int, noFn_str, noFn_lst, noFn_tup, add_ii, sub_ii, lt_ii, le_ii, gt_ii, ge_ii, idx_t, idx_l, at_0, at_1, at_2, at_3, at_4, cut_l, cut_t, cutL_1, cutL_3, cutL_t3, len_l, len_t, tup_l, list_t, int_i, leave_d0, leave_n0, leave_x0, f_is_row (n := n) (okn_no hv), hr, f_is_whole (n := n) na, f_is_whole (n := n) nb, h1, h2, isL]
      | true => cases h3 : isW c 4 30 with
        | false => simp [R.bind_ok, R.bind_exc, bindP_ok, bindP_exc, bindD_ok, bindD_exc, ofO_some, rsof_ok, rsof_exc, rsofO_some, andThen_nx, andThen_ret, andThen_exc, e_var, e_lit, e_tup, e_lst, e_neg, e_not, e_bin, e_cmp, e_chain, e_bool, e_ite, e_idx, e_cut, e_rev, e_back, e_call, e_bi, e_len, e_isi, e_fmt, e_split, e_join, q_val, q_not, q_and, q_or, and_nil, and_cons, or_nil, or_cons, ds_nil, ds_cons, vs_nil, vs_cons, bool_one, bool_cons, s_set_, s_setp_, s_ret_, s_ifs_, s_rais_, s_append_, s_expr_, s_frz_, ss_nil_, ss_cons_, getV_0, getV_s, truD_bl, truD_int, truD_lst, rdV_d, optI_0, optI_1, setV_d, setV_box, setV_t, setT_v, setT_t, setTs_0, setTs_c, setPar_0, setPar_d, setPar_box, wipe_0, wipe_c, obind_some, noFn_non, noFn_bl, noFn_int, noFn_str, noFn_lst, noFn_tup, add_ii, sub_ii, lt_ii, le_ii, gt_ii, ge_ii, idx_t, idx_l, at_0, at_1, at_2, at_3, at_4, cut_l, cut_t, cutL_1, cutL_3, cutL_t3, len_l, len_t, tup_l, list_t, int_i, leave_d0, leave_n0, leave_x0, f_is_row (n := n) (okn_no hv), hr, f_is_whole (n := n) na, f_is_whole (n := n) nb, f_is_whole (n := n) nc, h1, h2, h3, isL]
        | true =>
          obtain ⟨j, rfl, _⟩ : ∃ j, b = .int j ∧ True := ⟨_, (isW_int h2).1, trivial⟩
          obtain ⟨k, rfl, _⟩ : ∃ k, c = .int k ∧ True := ⟨_, (isW_int h3).1, trivial⟩
          simp [R.bind_ok, R.bind_exc, bindP_ok, bindP_exc, bindD_ok, bindD_exc, ofO_some, rsof_ok, rsof_exc, rsofO_some, andThen_nx, andThen_ret, andThen_exc, e_var, e_lit, e_tup, e_lst, e_neg, e_not, e_bin, e_cmp, e_chain, e_bool, e_ite, e_idx, e_cut, e_rev, e_back, e_call, e_bi, e_len, e_isi, e_fmt, e_split, e_join, q_val, q_not, q_and, q_or, and_nil, and_cons, or_nil, or_cons, ds_nil, ds_cons, vs_nil, vs_cons, bool_one, bool_cons, s_set_, s_setp_, s_ret_, s_ifs_, s_rais_, s_append_, s_expr_, s_frz_, ss_nil_, ss_cons_, getV_0, getV_s, truD_bl, truD_int, truD_lst, rdV_d, optI_0, optI_1, setV_d, setV_box, setV_t, setT_v, setT_t, setTs_0, setTs_c, setPar_0, setPar_d, setPar_box, wipe_0, wipe_c, obind_some, noFn_non, noFn_bl, noFn_int, noFn_str, noFn_lst, noFn_tup, add_ii, sub_ii, lt_ii, le_ii, gt_ii, ge_ii, idx_t, idx_l, at_0, at_1, at_2, at_3, at_4, cut_l, cut_t, cutL_1, cutL_3, cutL_t3, len_l, len_t, tup_l, list_t, int_i, leave_d0, leave_n0, leave_x0, f_is_row (n := n) (okn_no hv), hr, f_is_whole (n := n) na, f_is_whole (n := n) nd, f_is_whole (n := n) noFn_int, h1, h2, h3, isL, intV]
  | false =>
    have hl : isL e v = false := by
      unfold isL
      split
      · simp [isR] at hr
      · rfl
    simp [R.bind_ok, R.bind_exc, bindP_ok, bindP_exc, bindD_ok, bindD_exc, ofO_some, rsof_ok, rsof_exc, rsofO_some, andThen_nx, andThen_ret, andThen_exc, e_var, e_lit, e_tup, e_lst, e_neg, e_not, e_bin, e_cmp, e_chain, e_bool, e_ite, e_idx, e_cut, e_rev, e_back, e_call, e_bi, e_len, e_isi, e_fmt, e_split, e_join, q_val, q_not, q_and, q_or, and_nil, and_cons, or_nil, or_cons, ds_nil, ds_cons, vs_nil, vs_cons, bool_one, bool_cons, s_set_, s_setp_, s_ret_, s_ifs_, s_rais_, s_append_, s_expr_, s_frz_, ss_nil_, ss_cons_, getV_0, getV_s, truD_bl, truD_int, truD_lst, rdV_d, optI_0, optI_1, setV_d, setV_box, setV_t, setT_v, setT_t, setTs_0, setTs_c, setPar_0, setPar_d, setPar_box, wipe_0, wipe_c, obind_some, noFn_non, noFn_bl, noFn_int, noFn_str, noFn_lst, noFn_tup, add_ii, sub_ii, lt_ii, le_ii, gt_ii, ge_ii, idx_t, idx_l, at_0, at_1, at_2, at_3, at_4, cut_l, cut_t, cutL_1, cutL_3, cutL_t3, len_l, len_t, tup_l, list_t, int_i, leave_d0, leave_n0, leave_x0, f_is_row (n := n) (okn_no hv), hr, hl]
def ltP : D → D
  | .tup [p, q] => .bl (decide (intV (hdV p) < intV (hdV q)))
  | _ => .non
def prs : List D → List Bool
  | [] => []
  | x :: r => (match r with | [] => [] | y :: _ => [decide (intV (hdV x) < intV (hdV y))]) ++ prs r
theorem prs_map : ∀ xs : List D, (zipD xs (xs.drop 1)).map ltP = (prs xs).map D.bl
  | [] => rfl
  | [x] => rfl
  | x :: y :: r => by
    have ih := prs_map (y :: r)
    simp only [List.drop_one, List.tail_cons] at ih ⊢
    simp only [zipD, List.map_cons, prs, List.cons_append, List.nil_append, List.singleton_append] at ih ⊢
    rw [ih]
    rfl
theorem prs_all : ∀ xs : List D, (prs xs).all id = ascD xs
  | [] => rfl
  | [x] => rfl
  | x :: y :: r => by
    have ih := prs_all (y :: r)
    simp only [prs, ascD, List.all_append, List.all_cons, List.all_nil, Bool.and_true, id] at ih ⊢
    rw [ih]
theorem zipD_len : ∀ xs ys : List D, (zipD xs ys).length ≤ xs.length
  | [], _ => by simp [zipD]
  | _ :: _, [] => by simp [zipD]
  | x :: xs, y :: ys => by have := zipD_len xs ys; simp [zipD]; omega
theorem zipD_mem : ∀ {xs ys : List D} {v : D}, v ∈ zipD xs ys → ∃ p q, v = .tup [p, q] ∧ p ∈ xs ∧ q ∈ ys
  | [], _, _, h => by simp [zipD] at h
  | _ :: _, [], _, h => by simp [zipD] at h
  | x :: xs, y :: ys, v, h => by
    simp only [zipD, List.mem_cons] at h
    rcases h with rfl | h
    · exact ⟨x, y, rfl, by simp, by simp⟩
    · obtain ⟨p, q, e, h1, h2⟩ := zipD_mem h
      exact ⟨p, q, e, by simp [h1], by simp [h2]⟩
theorem isL_hd {e : Int} {v : D} (h : isL e v = true) : ∃ i r, v = .tup (.int i :: r) := by
  unfold isL at h
  split at h
  · simp only [Bool.and_eq_true] at h
    rw [(isW_int h.1.1.1).1]
    exact ⟨_, _, rfl⟩
  · cases h
/-- a comprehension of a test over items -/
theorem f_is_street {n : Nat} {v : D} {S : Sto} (hv : okn 3 v = true) : (calls P (n + 3)).fn 5 [.d v] S = .ok (.d (.bl (isS v))) S := by
  rw [fn_step (c := c_is_street) rfl rfl]
  unfold c_is_street
  simp only [List.map_cons, List.map_nil, List.cons_append, List.nil_append, Nat.sub_self, List.replicate_zero, List.replicate_succ, Nat.reduceSub]
  have h5 : isR v 5 5 = true → ∃ a b c d e, v = .tup [a, b, c, d, e] := by
    intro h
    cases v <;> simp [isR] at h
    rename_i xs
    match xs, h with
    | [a, b, c, d, e], _ => exact ⟨a, b, c, d, e, rfl⟩
    | [], h => simp at h
    | [_], h => simp at h
    | [_, _], h => simp at h
    | [_, _, _], h => simp at h
    | [_, _, _, _], h => simp at h
    | _ :: _ :: _ :: _ :: _ :: _ :: _, h => simp at h; omega
  cases hr : isR v 5 5 with
  | false =>
    have hl : isS v = false := by
      unfold isS
      split
      · simp [isR] at hr
      · rfl
    simp [R.bind_ok, R.bind_exc, bindP_ok, bindP_exc, bindD_ok, bindD_exc, ofO_some, rsof_ok, rsof_exc, rsofO_some, andThen_nx, andThen_ret, andThen_exc, e_var, e_lit, e_tup, e_lst, e_neg, e_not, e_bin, e_cmp, e_chain, e_bool, e_ite, e_idx, e_cut, e_rev, e_back, e_call, e_bi, e_len, e_isi, e_fmt, e_split, e_join, q_val, q_not, q_and, q_or, and_nil, and_cons, or_nil, or_cons, ds_nil, ds_cons, vs_nil, vs_cons, bool_one, bool_cons, s_set_, s_setp_, s_ret_, s_ifs_, s_rais_, s_append_, s_expr_, s_frz_, ss_nil_, ss_cons_, getV_0, getV_s, truD_bl, truD_int, truD_lst, rdV_d, optI_0, optI_1, setV_d, setV_box, setV_t, setT_v, setT_t, setTs_0, setTs_c, setPar_0, setPar_d, setPar_box, wipe_0, wipe_c, obind_some, noFn_non, noFn_bl, noFn_int, noFn_str, noFn_lst, noFn_tup, add_ii, sub_ii, lt_ii, le_ii, gt_ii, ge_ii, idx_t, idx_l, at_0, at_1, at_2, at_3, at_4, cut_l, cut_t, cutL_1, cutL_3, cutL_t3, len_l, len_t, tup_l, list_t, int_i, leave_d0, leave_n0, leave_x0, f_is_row (n := n + 1) (okn_no hv), hr, hl]
  | true =>
    obtain ⟨a, b, c, d, e, rfl⟩ := h5 hr
    have ho := okn_tup hv
    have na : noFn a = true := okn_no (ho a (by simp))
    have nb : noFn b = true := okn_no (ho b (by simp))
    have nc : noFn c = true := okn_no (ho c (by simp))
    have nd : noFn d = true := okn_no (ho d (by simp))
    have ne : noFn e = true := okn_no (ho e (by simp))
    have fr := fun {S : Sto} => f_is_row (n := n + 1) (lo := 5) (hi := 5) (S := S) (okn_no hv)
    have fa := fun {S : Sto} {lo hi : Int} => f_is_row (n := n + 1) (lo := lo) (hi := hi) (S := S) na
    have fb := fun {S : Sto} {lo hi : Int} => f_is_whole (n := n + 1) (lo := lo) (hi := hi) (S := S) nb
    have fc := fun {S : Sto} {lo hi : Int} => f_is_whole (n := n + 1) (lo := lo) (hi := hi) (S := S) nc
    have fd := fun {S : Sto} {lo hi : Int} => f_is_whole (n := n + 1) (lo := lo) (hi := hi) (S := S) nd
    have fe := fun {S : Sto} {lo hi : Int} => f_is_whole (n := n + 1) (lo := lo) (hi := hi) (S := S) ne
    cases h1 : isW b 1 20 with
    | false => simp [R.bind_ok, R.bind_exc, bindP_ok, bindP_exc, bindD_ok, bindD_exc, ofO_some, rsof_ok, rsof_exc, rsofO_some, andThen_nx, andThen_ret, andThen_exc, e_var, e_lit, e_tup, e_lst, e_neg, e_not, e_bin, e_cmp, e_chain, e_bool, e_ite, e_idx, e_cut, e_rev, e_back, e_call, e_bi, e_len, e_isi, e_fmt, e_split, e_join, q_val, q_not, q_and, q_or, and_nil, and_cons, or_nil, or_cons, ds_nil, ds_cons, vs_nil, vs_cons, bool_one, bool_cons, s_set_, s_setp_, s_ret_, s_ifs_, s_rais_, s_append_, s_expr_, s_frz_, ss_nil_, ss_cons_, getV_0, getV_s, truD_bl, truD_int, truD_lst, rdV_d, optI_0, optI_1, setV_d, setV_box, setV_t, setT_v, setT_t, setTs_0, setTs_c, setPar_0, setPar_d, setPar_box, wipe_0, wipe_c, obind_some, noFn_non, noFn_bl, noFn_int, noFn_str, noFn_lst, noFn_tup, add_ii, sub_ii, lt_ii, le_ii, gt_ii, ge_ii, idx_t, idx_l, at_0, at_1, at_2, at_3, at_4, cut_l, cut_t, cutL_1, cutL_3, cutL_t3, len_l, len_t, tup_l, list_t, int_i, leave_d0, leave_n0, leave_x0, fr, fb, hr, h1, isS]
    | true => cases h2 : isW c 0 20 with
      | false => simp [R.bind_ok, R.bind_exc, bindP_ok, bindP_exc, bindD_ok, bindD_exc, ofO_some, rsof_ok, rsof_exc, rsofO_some, andThen_nx, andThen_ret, andThen_exc, e_var, e_lit, e_tup, e_lst, e_neg, e_not, e_bin, e_cmp, e_chain, e_bool, e_ite, e_idx, e_cut, e_rev, e_back, e_call, e_bi, e_len, e_isi, e_fmt, e_split, e_join, q_val, q_not, q_and, q_or, and_nil, and_cons, or_nil, or_cons, ds_nil, ds_cons, vs_nil, vs_cons, bool_one, bool_cons, s_set_, s_setp_, s_ret_, s_ifs_, s_rais_, s_append_, s_expr_, s_frz_, ss_nil_, ss_cons_, getV_0, getV_s, truD_bl, truD_int, truD_lst, rdV_d, optI_0, optI_1, setV_d, setV_box, setV_t, setT_v, setT_t, setTs_0, setTs_c, setPar_0, setPar_d, setPar_box, wipe_0, wipe_c, obind_some, noFn_non, noFn_bl, noFn_int, noFn_str, noFn_lst, noFn_tup, add_ii, sub_ii, lt_ii, le_ii, gt_ii, ge_ii, idx_t, idx_l, at_0, at_1, at_2, at_3, at_4, cut_l, cut_t, cutL_1, cutL_3, cutL_t3, len_l, len_t, tup_l, list_t, int_i, leave_d0, leave_n0, leave_x0, fr, fb, fc, hr, h1, h2, isS]
      | true => cases h3 : isW e 1 3 with
        | false => simp [R.bind_ok, R.bind_exc, bindP_ok, bindP_exc, bindD_ok, bindD_exc, ofO_some, rsof_ok, rsof_exc, rsofO_some, andThen_nx, andThen_ret, andThen_exc, e_var, e_lit, e_tup, e_lst, e_neg, e_not, e_bin, e_cmp, e_chain, e_bool, e_ite, e_idx, e_cut, e_rev, e_back, e_call, e_bi, e_len, e_isi, e_fmt, e_split, e_join, q_val, q_not, q_and, q_or, and_nil, and_cons, or_nil, or_cons, ds_nil, ds_cons, vs_nil, vs_cons, bool_one, bool_cons, s_set_, s_setp_, s_ret_, s_ifs_, s_rais_, s_append_, s_expr_, s_frz_, ss_nil_, ss_cons_, getV_0, getV_s, truD_bl, truD_int, truD_lst, rdV_d, optI_0, optI_1, setV_d, setV_box, setV_t, setT_v, setT_t, setTs_0, setTs_c, setPar_0, setPar_d, setPar_box, wipe_0, wipe_c, obind_some, noFn_non, noFn_bl, noFn_int, noFn_str, noFn_lst, noFn_tup, add_ii, sub_ii, lt_ii, le_ii, gt_ii, ge_ii, idx_t, idx_l, at_0, at_1, at_2, at_3, at_4, cut_l, cut_t, cutL_1, cutL_3, cutL_t3, len_l, len_t, tup_l, list_t, int_i, leave_d0, leave_n0, leave_x0, fr, fb, fc, fe, hr, h1, h2, h3, isS]
        | true =>
          obtain ⟨k, rfl, _⟩ : ∃ k, e = .int k ∧ True := ⟨_, (isW_int h3).1, trivial⟩
          cases h4 : isW d 1 k with
          | false => simp [R.bind_ok, R.bind_exc, bindP_ok, bindP_exc, bindD_ok, bindD_exc, ofO_some, rsof_ok, rsof_exc, rsofO_some, andThen_nx, andThen_ret, andThen_exc, e_var, e_lit, e_tup, e_lst, e_neg, e_not, e_bin, e_cmp, e_chain, e_bool, e_ite, e_idx, e_cut, e_rev, e_back, e_call, e_bi, e_len, e_isi, e_fmt, e_split, e_join, q_val, q_not, q_and, q_or, and_nil, and_cons, or_nil, or_cons, ds_nil, ds_cons, vs_nil, vs_cons, bool_one, bool_cons, s_set_, s_setp_, s_ret_, s_ifs_, s_rais_, s_append_, s_expr_, s_frz_, ss_nil_, ss_cons_, getV_0, getV_s, truD_bl, truD_int, truD_lst, rdV_d, optI_0, optI_1, setV_d, setV_box, setV_t, setT_v, setT_t, setTs_0, setTs_c, setPar_0, setPar_d, setPar_box, wipe_0, wipe_c, obind_some, noFn_non, noFn_bl, noFn_int, noFn_str, noFn_lst, noFn_tup, add_ii, sub_ii, lt_ii, le_ii, gt_ii, ge_ii, idx_t, idx_l, at_0, at_1, at_2, at_3, at_4, cut_l, cut_t, cutL_1, cutL_3, cutL_t3, len_l, len_t, tup_l, list_t, int_i, leave_d0, leave_n0, leave_x0, fr, fb, fc, fd, fe, hr, h1, h2, h3, h4, isS, intV]
          | true =>
            obtain ⟨j, rfl, _⟩ : ∃ j, b = .int j ∧ True := ⟨_, (isW_int h1).1, trivial⟩
            cases h6 : isR a 0 3 with
            | false =>
              have hs : isS (.tup [a, .int j, c, d, .int k]) = false := by
                unfold isS
                cases a <;> simp [h1, h2, h3, h4, isR] at h6 ⊢
                intros
                omega
              simp [R.bind_ok, R.bind_exc, bindP_ok, bindP_exc, bindD_ok, bindD_exc, ofO_some, rsof_ok, rsof_exc, rsofO_some, andThen_nx, andThen_ret, andThen_exc, e_var, e_lit, e_tup, e_lst, e_neg, e_not, e_bin, e_cmp, e_chain, e_bool, e_ite, e_idx, e_cut, e_rev, e_back, e_call, e_bi, e_len, e_isi, e_fmt, e_split, e_join, q_val, q_not, q_and, q_or, and_nil, and_cons, or_nil, or_cons, ds_nil, ds_cons, vs_nil, vs_cons, bool_one, bool_cons, s_set_, s_setp_, s_ret_, s_ifs_, s_rais_, s_append_, s_expr_, s_frz_, ss_nil_, ss_cons_, getV_0, getV_s, truD_bl, truD_int, truD_lst, rdV_d, optI_0, optI_1, setV_d, setV_box, setV_t, setT_v, setT_t, setTs_0, setTs_c, setPar_0, setPar_d, setPar_box, wipe_0, wipe_c, obind_some, noFn_non, noFn_bl, noFn_int, noFn_str, noFn_lst, noFn_tup, add_ii, sub_ii, lt_ii, le_ii, gt_ii, ge_ii, idx_t, idx_l, at_0, at_1, at_2, at_3, at_4, cut_l, cut_t, cutL_1, cutL_3, cutL_t3, len_l, len_t, tup_l, list_t, int_i, leave_d0, leave_n0, leave_x0, fr, fa, fb, fc, fd, fe, hr, h1, h2, h3, h4, h6, hs]
            | true =>
              obtain ⟨xs, rfl, hx⟩ : ∃ xs, a = .tup xs ∧ xs.length ≤ 3 := by
                cases a <;> simp [isR] at h6
                exact ⟨_, rfl, by omega⟩
              have hx0 : ∀ x ∈ xs, okn 1 x = true := okn_tup (ho (.tup xs) (by simp))
              have hj := (isW_int h1).2
              simp only [intV] at hj
              have c1 : ∀ T : Sto, evE (calls P (n + 2)) (.comp .val [(.var 1)] (.v 4) [] (.call 4 [(.idx (.var 0) (.lit (.int 1))), (.var 4)]) [4]) [some (.d (.tup [.tup xs, .int j, c, d, .int k])), some (.d (.tup xs)), none, none, none] T = .ok (.d (.lst ((xs.map (isL j)).map D.bl))) T := by
                intro T
                rw [List.map_map]
                exact e_compm (vs := [.tup xs]) (its := xs) (fun x => .bl (isL j x)) (by simp [R.bind_ok, R.bind_exc, bindP_ok, bindP_exc, bindD_ok, bindD_exc, ofO_some, rsof_ok, rsof_exc, rsofO_some, andThen_nx, andThen_ret, andThen_exc, e_var, e_lit, e_tup, e_lst, e_neg, e_not, e_bin, e_cmp, e_chain, e_bool, e_ite, e_idx, e_cut, e_rev, e_back, e_call, e_bi, e_len, e_isi, e_fmt, e_split, e_join, q_val, q_not, q_and, q_or, and_nil, and_cons, or_nil, or_cons, ds_nil, ds_cons, vs_nil, vs_cons, bool_one, bool_cons, s_set_, s_setp_, s_ret_, s_ifs_, s_rais_, s_append_, s_expr_, s_frz_, ss_nil_, ss_cons_, getV_0, getV_s, truD_bl, truD_int, truD_lst, rdV_d, optI_0, optI_1, setV_d, setV_box, setV_t, setT_v, setT_t, setTs_0, setTs_c, setPar_0, setPar_d, setPar_box, wipe_0, wipe_c, obind_some, noFn_non, noFn_bl, noFn_int, noFn_str, noFn_lst, noFn_tup, add_ii, sub_ii, lt_ii, le_ii, gt_ii, ge_ii, idx_t, idx_l, at_0, at_1, at_2, at_3, at_4, cut_l, cut_t, cutL_1, cutL_3, cutL_t3, len_l, len_t, tup_l, list_t, int_i, leave_d0, leave_n0, leave_x0]) rfl (by unfold sizeMax; omega) fun x hx T => ⟨[some (.d (.tup [.tup xs, .int j, c, d, .int k])), some (.d (.tup xs)), none, none, some (.d x)], by simp [R.bind_ok, R.bind_exc, bindP_ok, bindP_exc, bindD_ok, bindD_exc, ofO_some, rsof_ok, rsof_exc, rsofO_some, andThen_nx, andThen_ret, andThen_exc, e_var, e_lit, e_tup, e_lst, e_neg, e_not, e_bin, e_cmp, e_chain, e_bool, e_ite, e_idx, e_cut, e_rev, e_back, e_call, e_bi, e_len, e_isi, e_fmt, e_split, e_join, q_val, q_not, q_and, q_or, and_nil, and_cons, or_nil, or_cons, ds_nil, ds_cons, vs_nil, vs_cons, bool_one, bool_cons, s_set_, s_setp_, s_ret_, s_ifs_, s_rais_, s_append_, s_expr_, s_frz_, ss_nil_, ss_cons_, getV_0, getV_s, truD_bl, truD_int, truD_lst, rdV_d, optI_0, optI_1, setV_d, setV_box, setV_t, setT_v, setT_t, setTs_0, setTs_c, setPar_0, setPar_d, setPar_box, wipe_0, wipe_c, obind_some, noFn_non, noFn_bl, noFn_int, noFn_str, noFn_lst, noFn_tup, add_ii, sub_ii, lt_ii, le_ii, gt_ii, ge_ii, idx_t, idx_l, at_0, at_1, at_2, at_3, at_4, cut_l, cut_t, cutL_1, cutL_3, cutL_t3, len_l, len_t, tup_l, list_t, int_i, leave_d0, leave_n0, leave_x0], by simp [R.bind_ok, R.bind_exc, bindP_ok, bindP_exc, bindD_ok, bindD_exc, ofO_some, rsof_ok, rsof_exc, rsofO_some, andThen_nx, andThen_ret, andThen_exc, e_var, e_lit, e_tup, e_lst, e_neg, e_not, e_bin, e_cmp, e_chain, e_bool, e_ite, e_idx, e_cut, e_rev, e_back, e_call, e_bi, e_len, e_isi, e_fmt, e_split, e_join, q_val, q_not, q_and, q_or, and_nil, and_cons, or_nil, or_cons, ds_nil, ds_cons, vs_nil, vs_cons, bool_one, bool_cons, s_set_, s_setp_, s_ret_, s_ifs_, s_rais_, s_append_, s_expr_, s_frz_, ss_nil_, ss_cons_, getV_0, getV_s, truD_bl, truD_int, truD_lst, rdV_d, optI_0, optI_1, setV_d, setV_box, setV_t, setT_v, setT_t, setTs_0, setTs_c, setPar_0, setPar_d, setPar_box, wipe_0, wipe_c, obind_some, noFn_non, noFn_bl, noFn_int, noFn_str, noFn_lst, noFn_tup, add_ii, sub_ii, lt_ii, le_ii, gt_ii, ge_ii, idx_t, idx_l, at_0, at_1, at_2, at_3, at_4, cut_l, cut_t, cutL_1, cutL_3, cutL_t3, len_l, len_t, tup_l, list_t, int_i, leave_d0, leave_n0, leave_x0, f_is_light (n := n) (hx0 x hx)]⟩
              cases h7 : xs.all (isL j) with
              | false =>
                have hs : isS (.tup [.tup xs, .int j, c, d, .int k]) = false := by simp [isS, h7, intV]
                simp [R.bind_ok, R.bind_exc, bindP_ok, bindP_exc, bindD_ok, bindD_exc, ofO_some, rsof_ok, rsof_exc, rsofO_some, andThen_nx, andThen_ret, andThen_exc, e_var, e_lit, e_tup, e_lst, e_neg, e_not, e_bin, e_cmp, e_chain, e_bool, e_ite, e_idx, e_cut, e_rev, e_back, e_call, e_bi, e_len, e_isi, e_fmt, e_split, e_join, q_val, q_not, q_and, q_or, and_nil, and_cons, or_nil, or_cons, ds_nil, ds_cons, vs_nil, vs_cons, bool_one, bool_cons, s_set_, s_setp_, s_ret_, s_ifs_, s_rais_, s_append_, s_expr_, s_frz_, ss_nil_, ss_cons_, getV_0, getV_s, truD_bl, truD_int, truD_lst, rdV_d, optI_0, optI_1, setV_d, setV_box, setV_t, setT_v, setT_t, setTs_0, setTs_c, setPar_0, setPar_d, setPar_box, wipe_0, wipe_c, obind_some, noFn_non, noFn_bl, noFn_int, noFn_str, noFn_lst, noFn_tup, add_ii, sub_ii, lt_ii, le_ii, gt_ii, ge_ii, idx_t, idx_l, at_0, at_1, at_2, at_3, at_4, cut_l, cut_t, cutL_1, cutL_3, cutL_t3, len_l, len_t, tup_l, list_t, int_i, leave_d0, leave_n0, leave_x0, fr, fa, fb, fc, fd, fe, hr, h1, h2, h3, h4, h6, hs, c1, all_bl, -List.map_map, List.all_map, Function.comp_def, h7]
              | true =>
                have c2 : ∀ T : Sto, evE (calls P (n + 2)) (.comp .zip [(.var 1), (.cut (.var 1) [(.lit (.int 1))] [])] (.t [(.v 2), (.v 3)]) [] (.cmp .lt (.idx (.var 2) (.lit (.int 0))) (.idx (.var 3) (.lit (.int 0)))) [2, 3]) [some (.d (.tup [.tup xs, .int j, c, d, .int k])), some (.d (.tup xs)), none, none, none] T = .ok (.d (.lst ((prs xs).map D.bl))) T := by
                  intro T
                  rw [← prs_map]
                  refine e_compm (vs := [.tup xs, .tup (xs.drop 1)]) (its := zipD xs (xs.drop 1)) ltP (by simp [R.bind_ok, R.bind_exc, bindP_ok, bindP_exc, bindD_ok, bindD_exc, ofO_some, rsof_ok, rsof_exc, rsofO_some, andThen_nx, andThen_ret, andThen_exc, e_var, e_lit, e_tup, e_lst, e_neg, e_not, e_bin, e_cmp, e_chain, e_bool, e_ite, e_idx, e_cut, e_rev, e_back, e_call, e_bi, e_len, e_isi, e_fmt, e_split, e_join, q_val, q_not, q_and, q_or, and_nil, and_cons, or_nil, or_cons, ds_nil, ds_cons, vs_nil, vs_cons, bool_one, bool_cons, s_set_, s_setp_, s_ret_, s_ifs_, s_rais_, s_append_, s_expr_, s_frz_, ss_nil_, ss_cons_, getV_0, getV_s, truD_bl, truD_int, truD_lst, rdV_d, optI_0, optI_1, setV_d, setV_box, setV_t, setT_v, setT_t, setTs_0, setTs_c, setPar_0, setPar_d, setPar_box, wipe_0, wipe_c, obind_some, noFn_non, noFn_bl, noFn_int, noFn_str, noFn_lst, noFn_tup, add_ii, sub_ii, lt_ii, le_ii, gt_ii, ge_ii, idx_t, idx_l, at_0, at_1, at_2, at_3, at_4, cut_l, cut_t, cutL_1, cutL_3, cutL_t3, len_l, len_t, tup_l, list_t, int_i, leave_d0, leave_n0, leave_x0]) rfl ?_ fun x hx T => ?_
                  · have := zipD_len xs (xs.drop 1)
                    unfold sizeMax; omega
                  · obtain ⟨p, q, rfl, hp, hq⟩ := zipD_mem hx
                    obtain ⟨p', rp, rfl⟩ := isL_hd (List.all_eq_true.mp h7 p hp)
                    obtain ⟨q', rq, rfl⟩ := isL_hd (List.all_eq_true.mp h7 q (List.mem_of_mem_drop hq))
                    refine ⟨[some (.d (.tup [.tup xs, .int j, c, d, .int k])), some (.d (.tup xs)), some (.d (.tup (.int p' :: rp))), some (.d (.tup (.int q' :: rq))), none], by simp [R.bind_ok, R.bind_exc, bindP_ok, bindP_exc, bindD_ok, bindD_exc, ofO_some, rsof_ok, rsof_exc, rsofO_some, andThen_nx, andThen_ret, andThen_exc, e_var, e_lit, e_tup, e_lst, e_neg, e_not, e_bin, e_cmp, e_chain, e_bool, e_ite, e_idx, e_cut, e_rev, e_back, e_call, e_bi, e_len, e_isi, e_fmt, e_split, e_join, q_val, q_not, q_and, q_or, and_nil, and_cons, or_nil, or_cons, ds_nil, ds_cons, vs_nil, vs_cons, bool_one, bool_cons, s_set_, s_setp_, s_ret_, s_ifs_, s_rais_, s_append_, s_expr_, s_frz_, ss_nil_, ss_cons_, getV_0, getV_s, truD_bl, truD_int, truD_lst, rdV_d, optI_0, optI_1, setV_d, setV_box, setV_t, setT_v, setT_t, setTs_0, setTs_c, setPar_0, setPar_d, setPar_box, wipe_0, wipe_c, obind_some, noFn_non, noFn_bl, noFn_int, noFn_str, noFn_lst, noFn_tup, add_ii, sub_ii, lt_ii, le_ii, gt_ii, ge_ii, idx_t, idx_l, at_0, at_1, at_2, at_3, at_4, cut_l, cut_t, cutL_1, cutL_3, cutL_t3, len_l, len_t, tup_l, list_t, int_i, leave_d0, leave_n0, leave_x0], by simp [R.bind_ok, R.bind_exc, bindP_ok, bindP_exc, bindD_ok, bindD_exc, ofO_some, rsof_ok, rsof_exc, rsofO_some, andThen_nx, andThen_ret, andThen_exc, e_var, e_lit, e_tup, e_lst, e_neg, e_not, e_bin, e_cmp, e_chain, e_bool, e_ite, e_idx, e_cut, e_rev, e_back, e_call, e_bi, e_len, e_isi, e_fmt, e_split, e_join, q_val, q_not, q_and, q_or, and_nil, and_cons, or_nil, or_cons, ds_nil, ds_cons, vs_nil, vs_cons, bool_one, bool_cons, s_set_, s_setp_, s_ret_, s_ifs_, s_rais_, s_append_, s_expr_, s_frz_, ss_nil_, ss_cons_, getV_0, getV_s, truD_bl, truD_int, truD_lst, rdV_d, optI_0, optI_1, setV_d, setV_box, setV_t, setT_v, setT_t, setTs_0, setTs_c, setPar_0, setPar_d, setPar_box, wipe_0, wipe_c, obind_some, noFn_non, noFn_bl, noFn_int, noFn_str, noFn_lst, noFn_tup, add_ii, sub_ii, lt_ii, le_ii, gt_ii, ge_ii, idx_t, idx_l, at_0, at_1, at_2, at_3, at_4, cut_l, cut_t, cutL_1, cutL_3, cutL_t3, len_l, len_t, tup_l, list_t, int_i, leave_d0, leave_n0, leave_x0, ltP, intV, hdV] <;> rfl⟩
                have hs : isS (.tup [.tup xs, .int j, c, d, .int k]) = (prs xs).all id := by
                  simp [isS, h1, h2, h3, h4, h7, intV, hx, prs_all]
                simp [R.bind_ok, R.bind_exc, bindP_ok, bindP_exc, bindD_ok, bindD_exc, ofO_some, rsof_ok, rsof_exc, rsofO_some, andThen_nx, andThen_ret, andThen_exc, e_var, e_lit, e_tup, e_lst, e_neg, e_not, e_bin, e_cmp, e_chain, e_bool, e_ite, e_idx, e_cut, e_rev, e_back, e_call, e_bi, e_len, e_isi, e_fmt, e_split, e_join, q_val, q_not, q_and, q_or, and_nil, and_cons, or_nil, or_cons, ds_nil, ds_cons, vs_nil, vs_cons, bool_one, bool_cons, s_set_, s_setp_, s_ret_, s_ifs_, s_rais_, s_append_, s_expr_, s_frz_, ss_nil_, ss_cons_, getV_0, getV_s, truD_bl, truD_int, truD_lst, rdV_d, optI_0, optI_1, setV_d, setV_box, setV_t, setT_v, setT_t, setTs_0, setTs_c, setPar_0, setPar_d, setPar_box, wipe_0, wipe_c, obind_some, noFn_non, noFn_bl, noFn_int, noFn_str, noFn_lst, noFn_tup, add_ii, sub_ii, lt_ii, le_ii, gt_ii, ge_ii, idx_t, idx_l, at_0, at_1, at_2, at_3, at_4, cut_l, cut_t, cutL_1, cutL_3, cutL_t3, len_l, len_t, tup_l, list_t, int_i, leave_d0, leave_n0, leave_x0, fr, fa, fb, fc, fd, fe, hr, h1, h2, h3, h4, h6, hs, c1, c2, all_bl, -List.map_map, List.all_map, Function.comp_def, h7]
end E02

set_option Elab.async false
set_option linter.all false
set_option autoImplicit false
set_option maxRecDepth 100000
set_option maxHeartbeats 4000000
/-! What the defs of texts answer, by the evaluator. Own work. -/
namespace E02
open PySem Ev C02 M15 Tx
def strL (xs : List (List Nat)) : List D := xs.map fun l => .str (mkS l)
theorem strOk_mk {l : List Nat} (h : ∀ c ∈ l, c < 128) : PyData.strOk (mkS l) = true := by
  unfold PyData.strOk mkS
  simp
  intro c hc
  have := h c hc
  omega
theorem okD_int {n : Nat} {i : Int} : okD n (.int i) = true := by cases n <;> rfl
theorem okD_non {n : Nat} : okD n .non = true := by cases n <;> rfl
theorem okD_bl {n : Nat} {b : Bool} : okD n (.bl b) = true := by cases n <;> rfl
theorem okD_str {n : Nat} {l : List Nat} (h : ∀ c ∈ l, c < 128) : okD n (.str (mkS l)) = true := by cases n <;> exact strOk_mk h
theorem okDs_of {n : Nat} : ∀ {xs : List D}, (∀ x ∈ xs, okD n x = true) → okDs n xs = true
  | [], _ => by unfold okDs; rfl
  | x :: r, h => by
    unfold okDs
    rw [h x (by simp), okDs_of fun y hy => h y (by simp [hy])]
    rfl
theorem okD_lst {n : Nat} {xs : List D} (h : ∀ x ∈ xs, okD n x = true) : okD (n + 1) (.lst xs) = true := okDs_of h
theorem okD_tup {n : Nat} {xs : List D} (h : ∀ x ∈ xs, okD n x = true) : okD (n + 1) (.tup xs) = true := okDs_of h
theorem eqD_str {a b : List Nat} : eqD (.str (mkS a)) (.str (mkS b)) = decide (a = b) := by
  show (mkS a == mkS b) = _
  by_cases h : a = b
  · simp [h]
  · have : mkS a ≠ mkS b := fun z => h (mkS_inj z)
    simp [h, this]
theorem eqD_int {i j : Int} : eqD (.int i) (.int j) = decide (i = j) := by
  show (i == j) = _
  by_cases h : i = j <;> simp [h]
theorem eqDs_strs : ∀ (xs ys : List (List Nat)), eqDs (strL xs) (strL ys) = decide (xs = ys)
  | [], [] => rfl
  | [], y :: ys => rfl
  | x :: xs, [] => by simp [strL, eqDs]
  | x :: xs, y :: ys => by
    have ih := eqDs_strs xs ys
    simp only [strL, List.map_cons, eqDs] at ih ⊢
    rw [ih, eqD_str]
    simp
theorem eqDs_ints : ∀ (xs ys : List Int), eqDs (xs.map D.int) (ys.map D.int) = decide (xs = ys)
  | [], [] => rfl
  | [], y :: ys => rfl
  | x :: xs, [] => by simp [eqDs]
  | x :: xs, y :: ys => by
    have ih := eqDs_ints xs ys
    simp only [List.map_cons, eqDs] at ih ⊢
    rw [ih, eqD_int]
    simp
theorem ne_ints {xs ys : List Int} : cmpD .ne (.lst (xs.map D.int)) (.lst (ys.map D.int)) = some (!decide (xs = ys)) := by
  rw [ne_ok (okD_lst fun x hx => ?_) (okD_lst fun x hx => ?_)]
  · show some (!eqDs _ _) = _
    rw [eqDs_ints]
  · obtain ⟨i, _, rfl⟩ := List.mem_map.mp hx; exact okD_int
  · obtain ⟨i, _, rfl⟩ := List.mem_map.mp hx; exact okD_int
theorem ne_strs {xs ys : List (List Nat)} (h1 : ∀ x ∈ xs, ∀ c ∈ x, c < 128) (h2 : ∀ x ∈ ys, ∀ c ∈ x, c < 128) : cmpD .ne (.lst (strL xs)) (.lst (strL ys)) = some (!decide (xs = ys)) := by
  rw [ne_ok (okD_lst fun x hx => ?_) (okD_lst fun x hx => ?_)]
  · show some (!eqDs _ _) = _
    rw [eqDs_strs]
  · obtain ⟨i, hi, rfl⟩ := List.mem_map.mp hx; exact okD_str (h1 i hi)
  · obtain ⟨i, hi, rfl⟩ := List.mem_map.mp hx; exact okD_str (h2 i hi)
theorem ne_str {a b : List Nat} (h1 : ∀ c ∈ a, c < 128) (h2 : ∀ c ∈ b, c < 128) : cmpD .ne (.str (mkS a)) (.str (mkS b)) = some (!decide (a = b)) := by
  rw [ne_ok (okD_str h1) (okD_str h2), eqD_str]
theorem eq_str {a b : List Nat} (h1 : ∀ c ∈ a, c < 128) (h2 : ∀ c ∈ b, c < 128) : cmpD .eq (.str (mkS a)) (.str (mkS b)) = some (decide (a = b)) := by
  rw [eq_ok (okD_str h1) (okD_str h2), eqD_str]
theorem sizeMax_eq' : sizeMax = 16777216 := rfl
theorem split_d {t : List Nat} {c : Nat} (hc : c < 256) (ht : t.length ≤ 100000) : splitD (.str (mkS t)) (.str (mkS [c])) = some (.lst (strL (splitC c t))) := by
  unfold splitD
  simp only
  rw [if_pos ⟨by rw [mkS_len]; rfl, by rw [mkS_len, sizeMax_eq']; omega⟩, split_eq _ _ hc, un_mk, List.map_map]
  rfl
theorem join_d {xs : List (List Nat)} {c : Nat} (h : (joinC c xs).length ≤ 100000) : joinD (.str (mkS [c])) (.lst (strL xs)) = some (.str (mkS (joinC c xs))) := by
  unfold joinD seqD
  simp only [Option.bind_some]
  have e : strL xs = (xs.map mkS).map D.str := by rw [List.map_map]; rfl
  rw [e, strs_map]
  simp only [Option.bind_some]
  rw [if_pos, join_eq]
  rw [List.map_map, mkS_len, List.length_map]
  have := join_len c xs
  have e2 : (Str.length ∘ mkS) = List.length := by funext l; exact mkS_len l
  rw [e2, sizeMax_eq']
  simp only [List.length_cons, List.length_nil]
  split at this <;> omega
def rowD (r : List Int) : D := .tup (r.map .int)
theorem fn_stepk {n f k : Nat} {c : FnC} {vs : List Val} {S : Sto} (h : P.fn f = some c) (hl : vs.length = c.ps) (hk : S.length = k) : (calls P (n + 1)).fn f vs S = leaveS k (evSs (calls P n) c.body (vs.map some ++ List.replicate (c.ns - c.ps) none) S) := by
  rw [← hk]
  exact fn_step h hl
/-- a store with the bag at A.length -/
def bagS (A : Sto) (L : List Int) (B : Sto) : Sto := A ++ .lst (L.map D.int) :: B
variable {A B T : Sto} {L : List Int} {n k : Nat} {xs ys : List D} {r : Ev.Env} {x : D}
theorem bag_len : (bagS A L B).length = A.length + 1 + B.length := by simp [bagS]; omega
theorem bag_app : bagS A L B ++ T = bagS A L (B ++ T) := by simp [bagS]
theorem bag_rd : rdV (bagS A L B) (.box A.length) = some (.lst (L.map D.int)) := rdV_box
theorem bag_box : boxAt (some (.box A.length) :: r) (bagS A L B) 0 = some (A.length, L.map D.int) := by
  unfold boxAt getV bagS
  simp
theorem bag_set {M : List Int} : (bagS A L B).set A.length (.lst (M.map D.int)) = bagS A M B := by simp [bagS]
theorem bag_leave : leaveS (A.length + 1 + B.length) (.ret (.d x) (bagS A L B)) = .ok (.d x) (bagS A L B) := by
  rw [← bag_len (A := A) (L := L) (B := B)]
  exact leave_d0
theorem bag_leaveT : leaveS (A.length + 1 + B.length) (.ret (.d x) (bagS A L (B ++ T))) = .ok (.d x) (bagS A L B) := by
  rw [← bag_app, ← bag_len (A := A) (L := L) (B := B)]
  exact leave_d
def tk (L : List Int) (m : Int) : Int := L.headD 0 % m
theorem tk_ok {m : Int} (hm : 0 < m) : 0 ≤ tk L m ∧ tk L m < m := ⟨Int.emod_nonneg _ (by omega), Int.emod_lt_of_pos _ hm⟩
theorem f_take {m : Int} (hm : 0 < m) : (calls P (n + 1)).fn 24 [.box A.length, .d (.int m)] (bagS A L B) = .ok (.d (.int (tk L m))) (bagS A L.tail B) := by
  rw [fn_stepk (c := c__law_take) rfl rfl bag_len]
  unfold c__law_take
  simp only [List.map_cons, List.map_nil, List.cons_append, List.nil_append, Nat.sub_self, List.replicate_zero, List.replicate_succ, Nat.reduceSub]
  have hne : cmpD .ne (.lst (L.map D.int)) (.lst []) = some (!decide (L = [])) := ne_ints (ys := [])
  cases L with
  | nil =>
    have hne' : cmpD .ne (.lst (([] : List Int).map D.int)) (.lst []) = some false := hne.trans (by simp)
    simp only [List.map_nil] at hne'
    simp [R.bind_ok, R.bind_exc, bindP_ok, bindP_exc, bindD_ok, bindD_exc, ofO_some, rsof_ok, rsof_exc, rsofO_some, andThen_nx, andThen_ret, andThen_exc, e_var, e_lit, e_tup, e_lst, e_neg, e_not, e_bin, e_cmp, e_chain, e_bool, e_ite, e_idx, e_cut, e_rev, e_back, e_call, e_bi, e_len, e_isi, e_fmt, e_split, e_join, q_val, q_not, q_and, q_or, and_nil, and_cons, or_nil, or_cons, ds_nil, ds_cons, vs_nil, vs_cons, bool_one, bool_cons, s_set_, s_setp_, s_ret_, s_ifs_, s_rais_, s_append_, s_expr_, s_frz_, ss_nil_, ss_cons_, getV_0, getV_s, truD_bl, truD_int, truD_lst, rdV_d, optI_0, optI_1, setV_d, setV_box, setV_t, setT_v, setT_t, setTs_0, setTs_c, setPar_0, setPar_d, setPar_box, wipe_0, wipe_c, obind_some, noFn_non, noFn_bl, noFn_int, noFn_str, noFn_lst, noFn_tup, add_ii, sub_ii, lt_ii, le_ii, gt_ii, ge_ii, idx_t, idx_l, at_0, at_1, at_2, at_3, at_4, cut_l, cut_t, cutL_1, cutL_3, cutL_t3, len_l, len_t, tup_l, list_t, int_i, leave_d0, leave_n0, leave_x0, bag_rd, hne', mod_ii hm, bag_leave, tk]
  | cons i L =>
    have hne' : cmpD .ne (.lst ((i :: L).map D.int)) (.lst []) = some true := hne.trans (by simp)
    simp only [List.map_cons] at hne'
    simp [R.bind_ok, R.bind_exc, bindP_ok, bindP_exc, bindD_ok, bindD_exc, ofO_some, rsof_ok, rsof_exc, rsofO_some, andThen_nx, andThen_ret, andThen_exc, e_var, e_lit, e_tup, e_lst, e_neg, e_not, e_bin, e_cmp, e_chain, e_bool, e_ite, e_idx, e_cut, e_rev, e_back, e_call, e_bi, e_len, e_isi, e_fmt, e_split, e_join, q_val, q_not, q_and, q_or, and_nil, and_cons, or_nil, or_cons, ds_nil, ds_cons, vs_nil, vs_cons, bool_one, bool_cons, s_set_, s_setp_, s_ret_, s_ifs_, s_rais_, s_append_, s_expr_, s_frz_, ss_nil_, ss_cons_, getV_0, getV_s, truD_bl, truD_int, truD_lst, rdV_d, optI_0, optI_1, setV_d, setV_box, setV_t, setT_v, setT_t, setTs_0, setTs_c, setPar_0, setPar_d, setPar_box, wipe_0, wipe_c, obind_some, noFn_non, noFn_bl, noFn_int, noFn_str, noFn_lst, noFn_tup, add_ii, sub_ii, lt_ii, le_ii, gt_ii, ge_ii, idx_t, idx_l, at_0, at_1, at_2, at_3, at_4, cut_l, cut_t, cutL_1, cutL_3, cutL_t3, len_l, len_t, tup_l, list_t, int_i, leave_d0, leave_n0, leave_x0, bag_rd, hne', mod_ii hm, e_pop0, bag_box, bag_set, bag_leave, tk]
theorem f_choice (h : xs ≠ []) : ∃ x, x ∈ xs ∧ (calls P (n + 2)).fn 25 [.box A.length, .d (.lst xs)] (bagS A L B) = .ok (.d x) (bagS A L.tail B) := by
  have hp : (0 : Int) < xs.length := by
    have := List.length_pos_iff.mpr h
    omega
  obtain ⟨t1, t2⟩ := tk_ok (L := L) hp
  have hi : (tk L xs.length).toNat < xs.length := by omega
  refine ⟨xs[(tk L xs.length).toNat], List.getElem_mem hi, ?_⟩
  have hat : atD xs (tk L xs.length) = some xs[(tk L xs.length).toNat] := by
    have := at_nat (w := xs) (k := (tk L xs.length).toNat)
    rw [show (((tk L xs.length).toNat : Nat) : Int) = tk L xs.length by omega] at this
    rw [this, List.getElem?_eq_getElem hi]
  rw [fn_stepk (c := c__law_choice) rfl rfl bag_len]
  unfold c__law_choice
  simp only [List.map_cons, List.map_nil, List.cons_append, List.nil_append, Nat.sub_self, List.replicate_zero, List.replicate_succ, Nat.reduceSub]
  simp [R.bind_ok, R.bind_exc, bindP_ok, bindP_exc, bindD_ok, bindD_exc, ofO_some, rsof_ok, rsof_exc, rsofO_some, andThen_nx, andThen_ret, andThen_exc, e_var, e_lit, e_tup, e_lst, e_neg, e_not, e_bin, e_cmp, e_chain, e_bool, e_ite, e_idx, e_cut, e_rev, e_back, e_call, e_bi, e_len, e_isi, e_fmt, e_split, e_join, q_val, q_not, q_and, q_or, and_nil, and_cons, or_nil, or_cons, ds_nil, ds_cons, vs_nil, vs_cons, bool_one, bool_cons, s_set_, s_setp_, s_ret_, s_ifs_, s_rais_, s_append_, s_expr_, s_frz_, ss_nil_, ss_cons_, getV_0, getV_s, truD_bl, truD_int, truD_lst, rdV_d, optI_0, optI_1, setV_d, setV_box, setV_t, setT_v, setT_t, setTs_0, setTs_c, setPar_0, setPar_d, setPar_box, wipe_0, wipe_c, obind_some, noFn_non, noFn_bl, noFn_int, noFn_str, noFn_lst, noFn_tup, add_ii, sub_ii, lt_ii, le_ii, gt_ii, ge_ii, idx_t, idx_l, at_0, at_1, at_2, at_3, at_4, cut_l, cut_t, cutL_1, cutL_3, cutL_t3, len_l, len_t, tup_l, list_t, int_i, leave_d0, leave_n0, leave_x0, f_take (n := n) hp, hat, bag_leave]
theorem box_end {A : Sto} {i : Nat} (h : getV r i = some (.box A.length)) : boxAt r (A ++ [.lst xs]) i = some (A.length, xs) := by
  unfold boxAt
  rw [h]
  simp only
  rw [get_at]
theorem set_end {A : Sto} {c d : Cell} : (A ++ [c]).set A.length d = A ++ [d] := set_at
theorem eq_ii {i j : Int} : cmpD .eq (.int i) (.int j) = some (decide (i = j)) := by rw [eq_ok okD_int okD_int, eqD_int]
mutual
theorem eqD_self : ∀ (n : Nat) (x : D), okD n x = true → eqD x x = true
  | _, .non, _ => rfl
  | _, .bl b, _ => by simp [eqD]
  | _, .int i, _ => by simp [eqD]
  | _, .str s, _ => by simp [eqD]
  | 0, .lst _, h => by simp [okD] at h
  | 0, .tup _, h => by simp [okD] at h
  | n + 1, .lst xs, h => by simp only [eqD]; exact eqDs_self n xs (by simpa [okD] using h)
  | n + 1, .tup xs, h => by simp only [eqD]; exact eqDs_self n xs (by simpa [okD] using h)
  | n, .fn _, h => by cases n <;> simp [okD] at h
  | n, .scr _, h => by cases n <;> simp [okD] at h
theorem eqDs_self : ∀ (n : Nat) (xs : List D), okDs n xs = true → eqDs xs xs = true
  | _, [], _ => rfl
  | n, x :: xs, h => by
    have h' : okD n x = true ∧ okDs n xs = true := by simpa [okDs] using h
    simp only [eqDs, eqD_self n x h'.1, eqDs_self n xs h'.2, Bool.and_self]
end
theorem ne_self {x : D} (h : okD 60 x = true) : cmpD .ne x x = some false := by rw [ne_ok h h, eqD_self 60 x h]; rfl
theorem eq_self' {x : D} (h : okD 60 x = true) : cmpD .eq x x = some true := by rw [eq_ok h h, eqD_self 60 x h]
end E02

set_option Elab.async false
set_option linter.all false
set_option autoImplicit false
set_option maxRecDepth 100000
set_option maxHeartbeats 4000000
/-! The bag, by the evaluator. Own work. -/
namespace E02
open PySem Ev C02 M15 Tx
theorem pow1000 : (2 : Nat) ^ 1000 = 2 ^ 1000 := rfl
theorem mul_small {i j : Int} (h1 : i.natAbs < 2 ^ 200) (h2 : j.natAbs < 2 ^ 200) : mulOk i j = true := by
  unfold mulOk
  have key : ∀ n : Nat, n < 2 ^ 200 → n.log2 ≤ 200 := fun n h => by
    by_cases z : n = 0
    · subst z; decide
    · have := (Nat.log2_lt z).mpr h
      omega
  have a := key _ h1
  have b := key _ h2
  exact decide_eq_true (by omega)
theorem mul_s {i j : Int} (h1 : i.natAbs < 2 ^ 200) (h2 : j.natAbs < 2 ^ 200) : binD .mul (.int i) (.int j) = some (.int (i * j)) := mul_ii (mul_small h1 h2)
theorem f_cell {n : Nat} {ns : List Int} {s : D} {k : Nat} {S : Sto} (hs : s = .scr ns ∨ s = .lst (ns.map .int)) (hn : ns.length ≤ 63) (hk : k < 8) : ∃ v : Int, (calls P (n + 1)).fn 21 [.d s, .d (.int (k : Int))] S = .ok (.d (.int v)) S := by
  have hlen : biD .len s = some (.int (ns.length : Int)) := by
    rcases hs with rfl | rfl
    · rfl
    · rw [len_l, List.length_map]
  have hidx : ∀ (j : Nat), j < ns.length → ∃ v : Int, idxD s (.int (j : Int)) = some (.int v) := by
    intro j hj
    rcases hs with rfl | rfl
    · refine ⟨ns[j], ?_⟩
      show (atD ns (j : Int)).map D.int = _
      rw [at_nat, List.getElem?_eq_getElem hj]
      rfl
    · refine ⟨ns[j], ?_⟩
      rw [idx_l, at_nat, List.getElem?_map, List.getElem?_eq_getElem hj]
      rfl
  have hm : binD .mul (.int 7919) (.int (k : Int)) = some (.int (7919 * (k : Int))) := mul_s (by decide) (by
    have : ((k : Int)).natAbs < 8 := by omega
    have : (8 : Nat) ≤ 2 ^ 200 := by decide
    omega)
  by_cases h1 : k < ns.length
  · obtain ⟨v, hv⟩ := hidx k h1
    refine ⟨v, ?_⟩
    rw [fn_step (c := c__law_cell) rfl rfl]
    unfold c__law_cell
    simp only [List.map_cons, List.map_nil, List.cons_append, List.nil_append, Nat.sub_self, List.replicate_zero]
    simp [R.bind_ok, R.bind_exc, bindP_ok, bindP_exc, bindD_ok, bindD_exc, ofO_some, rsof_ok, rsof_exc, rsofO_some, andThen_nx, andThen_ret, andThen_exc, e_var, e_lit, e_tup, e_lst, e_neg, e_not, e_bin, e_cmp, e_chain, e_bool, e_ite, e_idx, e_cut, e_rev, e_back, e_call, e_bi, e_len, e_isi, e_fmt, e_split, e_join, q_val, q_not, q_and, q_or, and_nil, and_cons, or_nil, or_cons, ds_nil, ds_cons, vs_nil, vs_cons, bool_one, bool_cons, s_set_, s_setp_, s_ret_, s_ifs_, s_rais_, s_append_, s_expr_, s_frz_, ss_nil_, ss_cons_, getV_0, getV_s, truD_bl, truD_int, truD_lst, rdV_d, optI_0, optI_1, setV_d, setV_box, setV_t, setT_v, setT_t, setTs_0, setTs_c, setPar_0, setPar_d, setPar_box, wipe_0, wipe_c, obind_some, noFn_non, noFn_bl, noFn_int, noFn_str, noFn_lst, noFn_tup, add_ii, sub_ii, lt_ii, le_ii, gt_ii, ge_ii, idx_t, idx_l, at_0, at_1, at_2, at_3, at_4, cut_l, cut_t, cutL_1, cutL_3, cutL_t3, len_l, len_t, tup_l, list_t, int_i, leave_d0, leave_n0, leave_x0, hlen, h1, hv]
  · by_cases h2 : ns.length = 0
    · refine ⟨7919 * (k : Int) + 101, ?_⟩
      rw [fn_step (c := c__law_cell) rfl rfl]
      unfold c__law_cell
      simp only [List.map_cons, List.map_nil, List.cons_append, List.nil_append, Nat.sub_self, List.replicate_zero]
      have he : cmpD .eq (.int 0) (.int 0) = some true := (eq_ok rfl rfl).trans rfl
      rw [h2] at hlen
      have hk0 : ¬ (k : Int) < 0 := by omega
      simp [R.bind_ok, R.bind_exc, bindP_ok, bindP_exc, bindD_ok, bindD_exc, ofO_some, rsof_ok, rsof_exc, rsofO_some, andThen_nx, andThen_ret, andThen_exc, e_var, e_lit, e_tup, e_lst, e_neg, e_not, e_bin, e_cmp, e_chain, e_bool, e_ite, e_idx, e_cut, e_rev, e_back, e_call, e_bi, e_len, e_isi, e_fmt, e_split, e_join, q_val, q_not, q_and, q_or, and_nil, and_cons, or_nil, or_cons, ds_nil, ds_cons, vs_nil, vs_cons, bool_one, bool_cons, s_set_, s_setp_, s_ret_, s_ifs_, s_rais_, s_append_, s_expr_, s_frz_, ss_nil_, ss_cons_, getV_0, getV_s, truD_bl, truD_int, truD_lst, rdV_d, optI_0, optI_1, setV_d, setV_box, setV_t, setT_v, setT_t, setTs_0, setTs_c, setPar_0, setPar_d, setPar_box, wipe_0, wipe_c, obind_some, noFn_non, noFn_bl, noFn_int, noFn_str, noFn_lst, noFn_tup, add_ii, sub_ii, lt_ii, le_ii, gt_ii, ge_ii, idx_t, idx_l, at_0, at_1, at_2, at_3, at_4, cut_l, cut_t, cutL_1, cutL_3, cutL_t3, len_l, len_t, tup_l, list_t, int_i, leave_d0, leave_n0, leave_x0, hlen, hm, he, hk0]
    · have hp : (0 : Int) < (ns.length : Int) := by omega
      obtain ⟨v, hv⟩ := hidx (k % ns.length) (Nat.mod_lt _ (by omega))
      rw [show ((k % ns.length : Nat) : Int) = (k : Int) % (ns.length : Int) by simp] at hv
      refine ⟨v % 1000003 + 7919 * (k : Int), ?_⟩
      rw [fn_step (c := c__law_cell) rfl rfl]
      unfold c__law_cell
      simp only [List.map_cons, List.map_nil, List.cons_append, List.nil_append, Nat.sub_self, List.replicate_zero]
      have he : cmpD .eq (.int (ns.length : Int)) (.int 0) = some false := (eq_ok rfl rfl).trans (by rw [eqD_int, decide_eq_false (by omega)])
      have hm2 : binD .mod (.int v) (.int 1000003) = some (.int (v % 1000003)) := mod_ii (by decide)
      simp [R.bind_ok, R.bind_exc, bindP_ok, bindP_exc, bindD_ok, bindD_exc, ofO_some, rsof_ok, rsof_exc, rsofO_some, andThen_nx, andThen_ret, andThen_exc, e_var, e_lit, e_tup, e_lst, e_neg, e_not, e_bin, e_cmp, e_chain, e_bool, e_ite, e_idx, e_cut, e_rev, e_back, e_call, e_bi, e_len, e_isi, e_fmt, e_split, e_join, q_val, q_not, q_and, q_or, and_nil, and_cons, or_nil, or_cons, ds_nil, ds_cons, vs_nil, vs_cons, bool_one, bool_cons, s_set_, s_setp_, s_ret_, s_ifs_, s_rais_, s_append_, s_expr_, s_frz_, ss_nil_, ss_cons_, getV_0, getV_s, truD_bl, truD_int, truD_lst, rdV_d, optI_0, optI_1, setV_d, setV_box, setV_t, setT_v, setT_t, setTs_0, setTs_c, setPar_0, setPar_d, setPar_box, wipe_0, wipe_c, obind_some, noFn_non, noFn_bl, noFn_int, noFn_str, noFn_lst, noFn_tup, add_ii, sub_ii, lt_ii, le_ii, gt_ii, ge_ii, idx_t, idx_l, at_0, at_1, at_2, at_3, at_4, cut_l, cut_t, cutL_1, cutL_3, cutL_t3, len_l, len_t, tup_l, list_t, int_i, leave_d0, leave_n0, leave_x0, hlen, h1, hm, he, mod_ii hp, hv, hm2]
def primes : List D := [.int 2147483647, .int 2147483629, .int 2147483587, .int 2147483579, .int 2147483563, .int 2147483549, .int 2147483543, .int 2147483497]
theorem prime_at {i : Int} (h0 : 0 ≤ i) (h8 : i < 8) : ∃ p : Int, atD primes i = some (.int p) ∧ 0 < p ∧ p < 2147483648 := by
  have : ∀ k ∈ List.range 8, ∃ p : Int, atD primes (k : Int) = some (.int p) ∧ 0 < p ∧ p < 2147483648 := by
    intro k hk
    rw [at_nat]
    have hk := List.mem_range.mp hk
    match k, hk with
    | 0, _ => exact ⟨_, rfl, by decide, by decide⟩
    | 1, _ => exact ⟨_, rfl, by decide, by decide⟩
    | 2, _ => exact ⟨_, rfl, by decide, by decide⟩
    | 3, _ => exact ⟨_, rfl, by decide, by decide⟩
    | 4, _ => exact ⟨_, rfl, by decide, by decide⟩
    | 5, _ => exact ⟨_, rfl, by decide, by decide⟩
    | 6, _ => exact ⟨_, rfl, by decide, by decide⟩
    | 7, _ => exact ⟨_, rfl, by decide, by decide⟩
  have := this i.toNat (List.mem_range.mpr (by omega))
  rwa [show ((i.toNat : Nat) : Int) = i by omega] at this
theorem rng_mem : ∀ {n : Nat} {lo : Int} {x : D}, x ∈ rngD lo n → ∃ j : Int, x = .int j ∧ lo ≤ j ∧ j < lo + n
  | 0, _, _, h => by simp [rngD] at h
  | n + 1, lo, x, h => by
    simp only [rngD, List.mem_cons] at h
    rcases h with rfl | h
    · exact ⟨lo, rfl, by omega, by omega⟩
    · obtain ⟨j, e, h1, h2⟩ := rng_mem h
      exact ⟨j, e, by omega, by omega⟩
theorem rng_len : ∀ (n : Nat) (lo : Int), (rngD lo n).length = n
  | 0, _ => rfl
  | n + 1, lo => by simp [rngD, rng_len n]
/-- one turn of the drawing -/
def drawB : List St := [.set (.v 9) (.bin .mul (.bin .mod (.var 5) (.idx (.var 4) (.bin .mod (.var 8) (.lit (.int 8))))) (.bin .add (.lit (.int 48271)) (.bin .mul (.bin .mul (.lit (.int 2)) (.var 8)) (.var 8)))), .set (.v 9) (.bin .add (.bin .add (.var 9) (.bin .mul (.bin .mul (.lit (.int 7919)) (.bin .add (.var 8) (.lit (.int 1)))) (.bin .add (.var 8) (.lit (.int 1))))) (.bin .mul (.lit (.int 104729)) (.var 1))), .set (.v 9) (.bin .mod (.var 9) (.idx (.var 4) (.bin .mod (.bin .add (.bin .mul (.lit (.int 3)) (.var 8)) (.var 1)) (.lit (.int 8))))), .set (.v 9) (.bin .mod (.bin .mul (.bin .mul (.var 9) (.var 9)) (.var 9)) (.idx (.var 4) (.bin .mod (.bin .add (.var 8) (.lit (.int 5))) (.lit (.int 8))))), .ifs (.val (.cmp .gt (.var 6) (.lit (.int 0)))) [.set (.v 9) (.var 6)] [], .append 7 (.bin .mod (.var 9) (.var 3)), .set (.v 6) (.bin .fdiv (.var 6) (.var 3))]
theorem natAbs_mul_lt {a b : Int} {x y : Nat} (h1 : a.natAbs < 2 ^ x) (h2 : b.natAbs < 2 ^ y) : (a * b).natAbs < 2 ^ (x + y) := by
  rw [Int.natAbs_mul, Nat.pow_add]
  exact Nat.mul_lt_mul'' h1 h2
theorem draw_turn {C : Calls} {s : D} {k c rest : Int} {x9 : Option Val} {S : Sto} {L : List Int} {j : Int} (hk0 : 0 ≤ k) (hk : k < 8) (hj0 : 0 ≤ j) (hj : j < 150) (hl : L.length ≤ 1000) :
    ∃ (rest' : Int) (x9' : Option Val) (i : Int), evSs C drawB [some (.d s), some (.d (.int k)), some (.d (.int 150)), some (.d (.int 27720)), some (.d (.tup primes)), some (.d (.int c)), some (.d (.int rest)), some (.box S.length), some (.d (.int j)), x9] (S ++ [.lst (L.map D.int)]) =
      .nx [some (.d s), some (.d (.int k)), some (.d (.int 150)), some (.d (.int 27720)), some (.d (.tup primes)), some (.d (.int c)), some (.d (.int rest')), some (.box S.length), some (.d (.int j)), x9'] (S ++ [.lst ((L ++ [i]).map D.int)]) := by
  have m8 : ∀ a : Int, binD .mod (.int a) (.int 8) = some (.int (a % 8)) := fun a => mod_ii (by decide)
  have r8 : ∀ a : Int, 0 ≤ a % 8 ∧ a % 8 < 8 := fun a => ⟨Int.emod_nonneg _ (by decide), Int.emod_lt_of_pos _ (by decide)⟩
  obtain ⟨p1, e1, p1a, p1b⟩ := prime_at (r8 j).1 (r8 j).2
  obtain ⟨p2, e2, p2a, p2b⟩ := prime_at (r8 (3 * j + k)).1 (r8 (3 * j + k)).2
  obtain ⟨p3, e3, p3a, p3b⟩ := prime_at (r8 (j + 5)).1 (r8 (j + 5)).2
  have lt31 : ∀ {a p : Int}, 0 < p → p < 2147483648 → 0 ≤ a % p ∧ (a % p).natAbs < 2 ^ 31 := fun {a p} h1 h2 => by
    have a1 := Int.emod_nonneg a (show p ≠ 0 by omega)
    have a2 := Int.emod_lt_of_pos a h1
    refine ⟨a1, ?_⟩
    have : (2 : Nat) ^ 31 = 2147483648 := by decide
    omega
  have up : ∀ {a x : Nat}, a < 2 ^ x → x ≤ 200 → a < 2 ^ 200 := fun {a x} h1 h2 => Nat.lt_of_lt_of_le h1 (Nat.pow_le_pow_right (by decide) h2)
  have t8 : (2 : Nat) ^ 8 = 256 := by decide
  have t13 : (2 : Nat) ^ 13 = 8192 := by decide
  have t17 : (2 : Nat) ^ 17 = 131072 := by decide
  have j8 : j.natAbs < 2 ^ 8 := by omega
  have h2j : binD .mul (.int 2) (.int j) = some (.int (2 * j)) := mul_s (by decide) (up j8 (by decide))
  have b2j : (2 * j).natAbs < 2 ^ 13 := by omega
  have h2jj : binD .mul (.int (2 * j)) (.int j) = some (.int (2 * j * j)) := mul_s (up b2j (by decide)) (up j8 (by decide))
  have b2jj : (2 * j * j).natAbs < 2 ^ 21 := natAbs_mul_lt b2j j8
  have bq : (48271 + 2 * j * j).natAbs < 2 ^ 22 := by
    have t22 : (2 : Nat) ^ 22 = 4194304 := by decide
    have t21 : (2 : Nat) ^ 21 = 2097152 := by decide
    omega
  have hm1 : binD .mod (.int c) (.int p1) = some (.int (c % p1)) := mod_ii p1a
  have hA : binD .mul (.int (c % p1)) (.int (48271 + 2 * j * j)) = some (.int (c % p1 * (48271 + 2 * j * j))) := mul_s (up (lt31 p1a p1b).2 (by decide)) (up bq (by decide))
  have h79 : binD .mul (.int 7919) (.int (j + 1)) = some (.int (7919 * (j + 1))) := mul_s (by decide) (up (x := 8) (by omega) (by decide))
  have b79 : (7919 * (j + 1)).natAbs < 2 ^ 21 := by
    have t21 : (2 : Nat) ^ 21 = 2097152 := by decide
    omega
  have h79b : binD .mul (.int (7919 * (j + 1))) (.int (j + 1)) = some (.int (7919 * (j + 1) * (j + 1))) := mul_s (up b79 (by decide)) (up (x := 8) (by omega) (by decide))
  have h10 : binD .mul (.int 104729) (.int k) = some (.int (104729 * k)) := mul_s (by decide) (up (x := 8) (by omega) (by decide))
  have h3j : binD .mul (.int 3) (.int j) = some (.int (3 * j)) := mul_s (by decide) (up j8 (by decide))
  generalize hM1 : c % p1 * (48271 + 2 * j * j) + 7919 * (j + 1) * (j + 1) + 104729 * k = M1 at *
  have hm2 : binD .mod (.int M1) (.int p2) = some (.int (M1 % p2)) := mod_ii p2a
  have bM := (lt31 (a := M1) p2a p2b).2
  generalize hM2 : M1 % p2 = M2 at *
  have hB : binD .mul (.int M2) (.int M2) = some (.int (M2 * M2)) := mul_s (up bM (by decide)) (up bM (by decide))
  have bB := natAbs_mul_lt bM bM
  have hC : binD .mul (.int (M2 * M2)) (.int M2) = some (.int (M2 * M2 * M2)) := mul_s (up bB (by decide)) (up bM (by decide))
  have hm3 : binD .mod (.int (M2 * M2 * M2)) (.int p3) = some (.int (M2 * M2 * M2 % p3)) := mod_ii p3a
  have hm4 : ∀ a : Int, binD .mod (.int a) (.int 27720) = some (.int (a % 27720)) := fun a => mod_ii (by decide)
  have hf : binD .fdiv (.int rest) (.int 27720) = some (.int (rest / 27720)) := fdiv_ii (by decide) (by decide +kernel)
  have hb : ∀ x8 x9 : Option Val, boxAt [some (.d s), some (.d (.int k)), some (.d (.int 150)), some (.d (.int 27720)), some (.d (.tup primes)), some (.d (.int c)), some (.d (.int rest)), some (.box S.length), x8, x9] (S ++ [.lst (L.map D.int)]) 7 = some (S.length, L.map D.int) := fun _ _ => box_end rfl
  have hlt : (L.map D.int).length < sizeMax := by rw [List.length_map, sizeMax_eq']; omega
  have hap : ∀ i : Int, L.map D.int ++ [D.int i] = (L ++ [i]).map D.int := fun i => by simp
  unfold drawB
  by_cases hr : 0 < rest
  · refine ⟨rest / 27720, some (.d (.int rest)), rest % 27720, ?_⟩
    simp only [ss_cons_, s_set_, e_bin, e_var, e_idx, e_lit, getV_s, getV_0, ofO_some, bindP_ok, R.bind_ok, rdV_d, m8, idx_t, e1, e2, e3, Option.map_some, hm1, h2j, h2jj, add_ii, hA, rsof_ok, setV_d, List.length_cons, List.length_nil, Nat.reduceAdd, Nat.reduceLT, if_true, rsofO_some, andThen_nx, List.set_cons_succ, List.set_cons_zero, h79, h79b, h10, hM1, h3j, hm2, hM2, hB, hC, hm3, s_ifs_, q_val, e_cmp, bindD_ok, gt_ii, truD_bl, hr, decide_true, ss_nil_, s_append_, hb, hm4, hf]
    rw [if_pos hlt, hap, set_end, andThen_nx]
    simp only [getV_s, getV_0, ofO_some, bindP_ok, hf, Option.map_some, rsof_ok, setV_d, List.length_cons, List.length_nil, Nat.reduceAdd, Nat.reduceLT, if_true, rsofO_some, List.set_cons_succ, List.set_cons_zero, andThen_nx]
  · refine ⟨rest / 27720, some (.d (.int (M2 * M2 * M2 % p3))), (M2 * M2 * M2 % p3) % 27720, ?_⟩
    simp only [ss_cons_, s_set_, e_bin, e_var, e_idx, e_lit, getV_s, getV_0, ofO_some, bindP_ok, R.bind_ok, rdV_d, m8, idx_t, e1, e2, e3, Option.map_some, hm1, h2j, h2jj, add_ii, hA, rsof_ok, setV_d, List.length_cons, List.length_nil, Nat.reduceAdd, Nat.reduceLT, if_true, rsofO_some, andThen_nx, List.set_cons_succ, List.set_cons_zero, h79, h79b, h10, hM1, h3j, hm2, hM2, hB, hC, hm3, s_ifs_, q_val, e_cmp, bindD_ok, gt_ii, truD_bl, hr, decide_false, Bool.false_eq_true, if_false, ss_nil_, s_append_, hb, hm4, hf]
    rw [if_pos hlt, hap, set_end, andThen_nx]
    simp only [getV_s, getV_0, ofO_some, bindP_ok, hf, Option.map_some, rsof_ok, setV_d, List.length_cons, List.length_nil, Nat.reduceAdd, Nat.reduceLT, if_true, rsofO_some, List.set_cons_succ, List.set_cons_zero, andThen_nx]
theorem f_bag {n : Nat} {ns : List Int} {s : D} {k : Nat} {S : Sto} (hs : s = .scr ns ∨ s = .lst (ns.map .int)) (hn : ns.length ≤ 63) (hk : k < 8) : ∃ L : List Int, (calls P (n + 3)).fn 23 [.d s, .d (.int (k : Int))] S = .ok (.box S.length) (bagS S L []) := by
  obtain ⟨c, hc⟩ := f_cell (n := n) (S := S) hs hn hk
  have hpow : binD .pow (.int 10) (.int 18) = some (.int 1000000000000000000) := by
    show (if (0 : Int) ≤ 18 ∧ (18 : Int) ≤ 1000 ∧ (10 : Int).natAbs < 2 ^ 64 then some (D.int ((10 : Int) ^ (18 : Int).toNat)) else none) = _
    rw [if_pos (by decide)]
    rfl
  have main : ∃ L : List Int, (calls P (n + 2)).fn 22 [.d s, .d (.int (k : Int)), .d (.int 150), .d (.int 27720)] S = .ok (.box S.length) (bagS S L []) := by
    have start : ∀ rest : Int, ∃ (L : List Int) (r : Ev.Env), loopF (fun x r S => RS.ofO (setT (.v 8) x r) fun r => evSs (calls P (n + 1)) drawB r S) (rngD 0 150) [some (.d s), some (.d (.int (k : Int))), some (.d (.int 150)), some (.d (.int 27720)), some (.d (.tup primes)), some (.d (.int c)), some (.d (.int rest)), some (.box S.length), none, none] (S ++ [.lst []]) = .nx r (S ++ [.lst (L.map D.int)]) ∧ getV r 7 = some (.box S.length) := by
      intro rest
      let I : List D → Ev.Env → Sto → Prop := fun a r T => (∃ (rest' : Int) (x8 x9 : Option Val), r = [some (.d s), some (.d (.int (k : Int))), some (.d (.int 150)), some (.d (.int 27720)), some (.d (.tup primes)), some (.d (.int c)), some (.d (.int rest')), some (.box S.length), x8, x9]) ∧ ∃ L : List Int, T = S ++ [.lst (L.map D.int)] ∧ L.length = a.length
      have turn : ∀ a x b, rngD 0 150 = a ++ x :: b → ∀ r T, I a r T → ∃ r' T', (RS.ofO (setT (.v 8) x r) fun r => evSs (calls P (n + 1)) drawB r T) = .nx r' T' ∧ I (a ++ [x]) r' T' := by
        intro a x b hx r T hI
        obtain ⟨⟨rest', x8, x9, rfl⟩, L, rfl, hL⟩ := hI
        obtain ⟨j, rfl, j0, j1⟩ := rng_mem (n := 150) (lo := 0) (x := x) (by rw [hx]; simp)
        have hal : a.length ≤ 150 := by
          have := congrArg List.length hx
          rw [rng_len] at this
          simp at this
          omega
        obtain ⟨rest2, x92, i, e2⟩ := draw_turn (C := calls P (n + 1)) (s := s) (k := (k : Int)) (c := c) (rest := rest') (x9 := x9) (S := S) (L := L) (j := j) (by omega) (by omega) j0 (by omega) (by omega)
        refine ⟨_, _, ?_, ⟨rest2, some (.d (.int j)), x92, rfl⟩, L ++ [i], rfl, by simp [hL]⟩
        simp only [setT_v, List.length_cons, List.length_nil, Nat.reduceAdd, Nat.reduceLT, if_true, rsofO_some, List.set_cons_succ, List.set_cons_zero]
        exact e2
      obtain ⟨r', T', e1, ⟨rest', x8, x9, rfl⟩, L, rfl, _⟩ := loopF_inv I turn [some (.d s), some (.d (.int (k : Int))), some (.d (.int 150)), some (.d (.int 27720)), some (.d (.tup primes)), some (.d (.int c)), some (.d (.int rest)), some (.box S.length), none, none] (S ++ [.lst []]) ⟨⟨rest, none, none, rfl⟩, [], rfl, rfl⟩
      exact ⟨L, _, e1, rfl⟩
    have leaveb : ∀ L : List Int, leaveS S.length (.ret (.box S.length) (S ++ [.lst (L.map D.int)])) = .ok (.box S.length) (bagS S L []) := by
      intro L
      show leaveV S.length (.box S.length) (S ++ [.lst (L.map D.int)]) = _
      unfold leaveV
      simp [bagS]
    have hp : evDs (calls P (n + 1)) [(.lit (.int 2147483647)), (.lit (.int 2147483629)), (.lit (.int 2147483587)), (.lit (.int 2147483579)), (.lit (.int 2147483563)), (.lit (.int 2147483549)), (.lit (.int 2147483543)), (.lit (.int 2147483497))] [some (.d s), some (.d (.int (k : Int))), some (.d (.int 150)), some (.d (.int 27720)), none, none, none, none, none, none] S = .ok primes S := by
      simp [R.bind_ok, R.bind_exc, bindP_ok, bindP_exc, bindD_ok, bindD_exc, ofO_some, rsof_ok, rsof_exc, rsofO_some, andThen_nx, andThen_ret, andThen_exc, e_var, e_lit, e_tup, e_lst, e_neg, e_not, e_bin, e_cmp, e_chain, e_bool, e_ite, e_idx, e_cut, e_rev, e_back, e_call, e_bi, e_len, e_isi, e_fmt, e_split, e_join, q_val, q_not, q_and, q_or, and_nil, and_cons, or_nil, or_cons, ds_nil, ds_cons, vs_nil, vs_cons, bool_one, bool_cons, s_set_, s_setp_, s_ret_, s_ifs_, s_rais_, s_append_, s_expr_, s_frz_, ss_nil_, ss_cons_, getV_0, getV_s, truD_bl, truD_int, truD_lst, rdV_d, optI_0, optI_1, setV_d, setV_box, setV_t, setT_v, setT_t, setTs_0, setTs_c, setPar_0, setPar_d, setPar_box, wipe_0, wipe_c, obind_some, noFn_non, noFn_bl, noFn_int, noFn_str, noFn_lst, noFn_tup, add_ii, sub_ii, lt_ii, le_ii, gt_ii, ge_ii, idx_t, idx_l, at_0, at_1, at_2, at_3, at_4, cut_l, cut_t, cutL_1, cutL_3, cutL_t3, len_l, len_t, tup_l, list_t, int_i, leave_d0, leave_n0, leave_x0, primes]
    have hw : walkD .range1 [.int 150] = some (rngD 0 150) := by
      show (if rngOk 0 150 then some (rngD 0 (150 : Int).toNat) else none) = _
      rw [if_pos (by decide)]
      rfl
    have hcode : c__law_draws = ⟨4, 10, [.set (.v 4) (.tup [(.lit (.int 2147483647)), (.lit (.int 2147483629)), (.lit (.int 2147483587)), (.lit (.int 2147483579)), (.lit (.int 2147483563)), (.lit (.int 2147483549)), (.lit (.int 2147483543)), (.lit (.int 2147483497))]), .set (.v 5) (.call 21 [(.var 0), (.var 1)]), .set (.v 6) (.lit (.int 0)), .ifs (.val (.cmp .ge (.var 5) (.bin .pow (.lit (.int 10)) (.lit (.int 18))))) [.set (.v 6) (.var 5)] [], .set (.v 7) (.box []), .forr .range1 [(.var 2)] (.v 8) drawB, .ret (.var 7)]⟩ := rfl
    by_cases hg : (1000000000000000000 : Int) ≤ c
    · obtain ⟨L, r, e, g⟩ := start c
      refine ⟨L, ?_⟩
      rw [fn_step (c := c__law_draws) rfl rfl]
      rw [hcode]
      simp only [List.map_cons, List.map_nil, List.cons_append, List.nil_append, Nat.sub_self, List.replicate_zero, List.replicate_succ, Nat.reduceSub]
      simp only [ss_cons_, s_set_, e_tup, hp, R.bind_ok, rsof_ok, setV_d, List.length_cons, List.length_nil, Nat.reduceAdd, Nat.reduceLT, if_true, rsofO_some, andThen_nx, List.set_cons_succ, List.set_cons_zero, e_call, vs_cons, vs_nil, e_var, e_lit, getV_s, getV_0, ofO_some, hc, s_ifs_, q_val, e_cmp, e_bin, bindP_ok, bindD_ok, hpow, rdV_d, ge_ii, hg, decide_true, Option.map_some, truD_bl, ss_nil_, e_box, ds_nil, setV_box, s_forr_, ds_cons, hw]
      rw [e]
      simp only [andThen_nx, s_ret_, e_var, g, ofO_some, rsof_ok, andThen_ret]
      exact leaveb L
    · obtain ⟨L, r, e, g⟩ := start 0
      refine ⟨L, ?_⟩
      rw [fn_step (c := c__law_draws) rfl rfl]
      rw [hcode]
      simp only [List.map_cons, List.map_nil, List.cons_append, List.nil_append, Nat.sub_self, List.replicate_zero, List.replicate_succ, Nat.reduceSub]
      simp only [ss_cons_, s_set_, e_tup, hp, R.bind_ok, rsof_ok, setV_d, List.length_cons, List.length_nil, Nat.reduceAdd, Nat.reduceLT, if_true, rsofO_some, andThen_nx, List.set_cons_succ, List.set_cons_zero, e_call, vs_cons, vs_nil, e_var, e_lit, getV_s, getV_0, ofO_some, hc, s_ifs_, q_val, e_cmp, e_bin, bindP_ok, bindD_ok, hpow, rdV_d, ge_ii, hg, decide_false, Bool.false_eq_true, if_false, Option.map_some, truD_bl, ss_nil_, e_box, ds_nil, setV_box, s_forr_, ds_cons, hw]
      rw [e]
      simp only [andThen_nx, s_ret_, e_var, g, ofO_some, rsof_ok, andThen_ret]
      exact leaveb L
  obtain ⟨L, hL⟩ := main
  refine ⟨L, ?_⟩
  rw [fn_step (c := c__law_bag) rfl rfl]
  unfold c__law_bag
  simp only [List.map_cons, List.map_nil, List.cons_append, List.nil_append, Nat.sub_self, List.replicate_zero]
  simp only [R.bind_ok, R.bind_exc, bindP_ok, bindP_exc, bindD_ok, bindD_exc, ofO_some, rsof_ok, rsof_exc, rsofO_some, andThen_nx, andThen_ret, andThen_exc, e_var, e_lit, e_tup, e_lst, e_neg, e_not, e_bin, e_cmp, e_chain, e_bool, e_ite, e_idx, e_cut, e_rev, e_back, e_call, e_bi, e_len, e_isi, e_fmt, e_split, e_join, q_val, q_not, q_and, q_or, and_nil, and_cons, or_nil, or_cons, ds_nil, ds_cons, vs_nil, vs_cons, bool_one, bool_cons, s_set_, s_setp_, s_ret_, s_ifs_, s_rais_, s_append_, s_expr_, s_frz_, ss_nil_, ss_cons_, getV_0, getV_s, truD_bl, truD_int, truD_lst, rdV_d, optI_0, optI_1, setV_d, setV_box, setV_t, setT_v, setT_t, setTs_0, setTs_c, setPar_0, setPar_d, setPar_box, wipe_0, wipe_c, obind_some, noFn_non, noFn_bl, noFn_int, noFn_str, noFn_lst, noFn_tup, add_ii, sub_ii, lt_ii, le_ii, gt_ii, ge_ii, idx_t, idx_l, at_0, at_1, at_2, at_3, at_4, cut_l, cut_t, cutL_1, cutL_3, cutL_t3, len_l, len_t, tup_l, list_t, int_i, leave_d0, leave_n0, leave_x0, hL]
  show leaveV S.length (.box S.length) (bagS S L []) = _
  unfold leaveV
  simp [bagS]
end E02

set_option Elab.async false
set_option linter.all false
set_option autoImplicit false
set_option maxRecDepth 100000
set_option maxHeartbeats 4000000
/-! A drawn street, by the evaluator. Own work. -/
namespace E02
open PySem Ev C02 M15 Tx
section
variable {A B : Sto} {L : List Int} {xs : List D} {r : Ev.Env} {X Y Z : Cell} {i : Nat}
theorem two_eq : bagS A L (B ++ [X, Y]) = (bagS A L B) ++ X :: [Y] := by simp [bagS]
theorem two_eq1 : bagS A L (B ++ [X, Y]) = (bagS A L B ++ [X]) ++ Y :: [] := by simp [bagS]
theorem k_eq : A.length + 1 + B.length = (bagS A L B).length := bag_len.symm
theorem k_eq1 : A.length + 1 + B.length + 1 = (bagS A L B ++ [X]).length := by rw [List.length_append, bag_len]; rfl
theorem box_k (h : getV r i = some (.box (A.length + 1 + B.length))) : boxAt r (bagS A L (B ++ [.lst xs, Y])) i = some (A.length + 1 + B.length, xs) := by
  unfold boxAt
  rw [h]
  simp only
  rw [two_eq, k_eq (L := L), get_at]
theorem box_k1 (h : getV r i = some (.box (A.length + 1 + B.length + 1))) : boxAt r (bagS A L (B ++ [X, .lst xs])) i = some (A.length + 1 + B.length + 1, xs) := by
  unfold boxAt
  rw [h]
  simp only
  rw [two_eq1, k_eq1 (L := L) (X := X), get_at]
theorem set_k : (bagS A L (B ++ [X, Y])).set (A.length + 1 + B.length) Z = bagS A L (B ++ [Z, Y]) := by rw [two_eq, k_eq (L := L), set_at, ← two_eq]
theorem set_k1 : (bagS A L (B ++ [X, Y])).set (A.length + 1 + B.length + 1) Z = bagS A L (B ++ [X, Z]) := by rw [two_eq1, k_eq1 (L := L) (X := X), set_at, ← two_eq1]
theorem rd_k : rdV (bagS A L (B ++ [.lst xs, Y])) (.box (A.length + 1 + B.length)) = some (.lst xs) := by rw [two_eq, k_eq (L := L)]; exact rdV_box
end
theorem notin_ints {p : Int} {ps : List Int} : cmpD .notin (.int p) (.lst (ps.map D.int)) = some (!decide (p ∈ ps)) := by
  unfold cmpD
  simp only
  have h : okDs 59 (ps.map D.int) = true := okDs_of fun x hx => by obtain ⟨i, _, rfl⟩ := List.mem_map.mp hx; exact okD_int
  rw [okD_int, h]
  simp only [Bool.and_self, if_true]
  congr 2
  induction ps with
  | nil => rfl
  | cons q ps ih =>
    rw [List.map_cons, List.any_cons, eqD_int, ih (okDs_of fun x hx => by obtain ⟨i, _, rfl⟩ := List.mem_map.mp hx; exact okD_int)]
    by_cases h : p = q
    · simp [h]
    · have h' : q ≠ p := fun z => h z.symm
      simp [h, h']
/-! ### sorted lists -/
theorem ins_mem {x z : Int} : ∀ {l : List Int}, z ∈ insI x l ↔ z = x ∨ z ∈ l
  | [] => by simp [insI]
  | y :: l => by
    unfold insI
    split
    · rw [List.mem_cons, ins_mem, List.mem_cons]
      constructor
      · rintro (h | h | h)
        · exact .inr (.inl h)
        · exact .inl h
        · exact .inr (.inr h)
      · rintro (h | h | h)
        · exact .inr (.inl h)
        · exact .inl h
        · exact .inr (.inr h)
    · simp
theorem ins_lt {x : Int} : ∀ {l : List Int}, l.Pairwise (· < ·) → x ∉ l → (insI x l).Pairwise (· < ·)
  | [], _, _ => by simp [insI]
  | y :: l, h, hx => by
    unfold insI
    rw [List.pairwise_cons] at h
    have hx2 : x ≠ y ∧ x ∉ l := by simpa using hx
    split
    · rename_i hlt
      rw [List.pairwise_cons]
      refine ⟨fun z hz => ?_, ins_lt h.2 hx2.2⟩
      rcases ins_mem.mp hz with rfl | hz
      · exact hlt
      · exact h.1 z hz
    · rename_i hlt
      rw [List.pairwise_cons, List.pairwise_cons]
      refine ⟨fun z hz => ?_, h⟩
      rcases List.mem_cons.mp hz with rfl | hz
      · have := hx2.1; omega
      · have a := h.1 z hz
        have := hx2.1; omega
theorem ins_len {x : Int} : ∀ {l : List Int}, (insI x l).length = l.length + 1
  | [] => rfl
  | y :: l => by
    unfold insI
    split
    · simp [ins_len]
    · simp
theorem sort_ok : ∀ {l : List Int}, (∀ z, z ∈ sortI l ↔ z ∈ l) ∧ (sortI l).length = l.length ∧ (l.Nodup → (sortI l).Pairwise (· < ·))
  | [] => by simp [sortI]
  | x :: l => by
    obtain ⟨h1, h2, h3⟩ := sort_ok (l := l)
    unfold sortI
    refine ⟨fun z => ?_, by rw [ins_len, h2]; rfl, fun nd => ?_⟩
    · rw [ins_mem, h1, List.mem_cons]
    · rw [List.nodup_cons] at nd
      exact ins_lt (h3 nd.2) fun z => nd.1 ((h1 x).mp z)
theorem sorted_d {l : List Int} : biD .sorted (.lst (l.map D.int)) = some (.lst ((sortI l).map D.int)) := by
  unfold biD
  simp only
  rw [ints_map]
  rfl
/-! ### the street -/
def placeB : List St := [.set (.v 3) (.bin .add (.lit (.int 1)) (.call 24 [(.var 0), (.bin .sub (.var 6) (.lit (.int 1)))])), .ifs (.val (.cmp .notin (.var 3) (.var 7))) [.append 7 (.var 3)] []]
def lightB : List St := [.setp [9, 10] [(.bin .add (.lit (.int 4)) (.call 24 [(.var 0), (.lit (.int 9))])), (.bin .add (.lit (.int 4)) (.call 24 [(.var 0), (.lit (.int 9))]))], .append 8 (.tup [(.var 3), (.var 9), (.var 10), (.call 24 [(.var 0), (.bin .add (.var 9) (.var 10))])])]
theorem street_code : c__law_street = ⟨2, 11, [.setp [6, 7, 8] [(.bin .add (.lit (.int 3)) (.call 24 [(.var 0), (.lit (.int 12))])), (.box []), (.box [])], .forr .range1 [(.call 24 [(.var 0), (.bin .add (.var 1) (.lit (.int 1)))])] (.v 2) placeB, .frz 7, .forr .val [(.bi .sorted (.var 7))] (.v 3) lightB, .frz 8, .set (.v 4) (.bin .add (.lit (.int 1)) (.call 24 [(.var 0), (.lit (.int 2))])), .set (.v 5) (.bin .add (.var 4) (.call 24 [(.var 0), (.bin .sub (.lit (.int 4)) (.var 4))])), .ret (.tup [(.bi .tuple (.var 8)), (.var 6), (.call 25 [(.var 0), (.lst [(.lit (.int 0)), (.lit (.int 2)), (.lit (.int 5)), (.lit (.int 9))])]), (.var 4), (.var 5)])]⟩ := rfl
def okRow (e : Int) (row : List Int) : Prop := ∃ p g d f, row = [p, g, d, f] ∧ (1 ≤ p ∧ p ≤ e - 1) ∧ (4 ≤ g ∧ g ≤ 12) ∧ (4 ≤ d ∧ d ≤ 12) ∧ 0 ≤ f ∧ f < g + d
theorem row_light {e : Int} {row : List Int} (h : okRow e row) : isL e (rowD row) = true := by
  obtain ⟨p, g, d, f, rfl, h1, h2, h3, h4⟩ := h
  simp [rowD, isL, isW, intV]
  exact ⟨⟨⟨by omega, by omega⟩, by omega⟩, by omega, decide_eq_true (by omega)⟩
theorem asc_rows {e : Int} : ∀ {rows : List (List Int)}, (∀ row ∈ rows, okRow e row) → (rows.map fun r => r.headD 0).Pairwise (· < ·) → ascD (rows.map rowD) = true
  | [], _, _ => rfl
  | [r], _, _ => rfl
  | r :: r2 :: rows, h, hp => by
    rw [List.map_cons, List.pairwise_cons] at hp
    have ih := asc_rows (rows := r2 :: rows) (fun z hz => h z (by simp [hz])) hp.2
    have h1 := hp.1 (r2.headD 0) (by simp)
    obtain ⟨p, g, d, f, rfl, _⟩ := h r (by simp)
    obtain ⟨p2, g2, d2, f2, rfl, _⟩ := h r2 (by simp)
    simp only [List.map_cons, ascD] at ih ⊢
    rw [ih]
    simp only [rowD, List.map_cons, hdV, intV, Bool.and_true, decide_eq_true_eq]
    exact h1
theorem f_street {n : Nat} {A B : Sto} {L : List Int} : ∃ (ls : List (List Int)) (e l q s : Int) (L' : List Int), isS (sD ls e l q s) = true ∧ (calls P (n + 3)).fn 29 [.box A.length, .d (.int 3)] (bagS A L B) = .ok (.d (sD ls e l q s)) (bagS A L' B) := by
  obtain ⟨t1, t2⟩ := tk_ok (L := L) (m := 12) (by decide)
  generalize he : 3 + tk L 12 = e at *
  have e1 : 3 ≤ e ∧ e ≤ 14 := by omega
  obtain ⟨u1, u2⟩ := tk_ok (L := L.tail) (m := 4) (by decide)
  generalize hm : tk L.tail 4 = m at *
  let K := A.length + 1 + B.length
  let F := calls P (n + 2)
  have T := fun {A B : Sto} {L : List Int} {m : Int} (h : 0 < m) => f_take (n := n + 1) (A := A) (B := B) (L := L) h
  -- the places
  let I1 : List D → Ev.Env → Sto → Prop := fun a r T => (∃ x2 x3 : Option Val, r = [some (.box A.length), some (.d (.int 3)), x2, x3, none, none, some (.d (.int e)), some (.box (A.length + 1 + B.length)), some (.box (A.length + 1 + B.length + 1)), none, none]) ∧
    ∃ (L' ps : List Int), T = bagS A L' (B ++ [.lst (ps.map D.int), .lst []]) ∧ ps.Nodup ∧ (∀ p ∈ ps, 1 ≤ p ∧ p ≤ e - 1) ∧ ps.length ≤ a.length
  have turn1 : ∀ a x b, rngD 0 m.toNat = a ++ x :: b → ∀ r S, I1 a r S → ∃ r' S', (RS.ofO (setT (.v 2) x r) fun r => evSs (calls P (n + 2)) placeB r S) = .nx r' S' ∧ I1 (a ++ [x]) r' S' := by
    intro a x b hx r S hI
    obtain ⟨⟨x2, x3, rfl⟩, L', ps, rfl, nd, hp, hl⟩ := hI
    have hal : a.length ≤ 3 := by
      have := congrArg List.length hx
      rw [rng_len] at this
      simp at this
      omega
    obtain ⟨v1, v2⟩ := tk_ok (L := L') (m := e - 1) (by omega)
    have Tk := f_take (n := n + 1) (A := A) (B := B ++ [.lst (ps.map D.int), .lst []]) (L := L') (m := e - 1) (by omega)
    unfold placeB
    by_cases hin : (1 + tk L' (e - 1)) ∈ ps
    · refine ⟨[some (.box A.length), some (.d (.int 3)), some (.d x), some (.d (.int (1 + tk L' (e - 1)))), none, none, some (.d (.int e)), some (.box (A.length + 1 + B.length)), some (.box (A.length + 1 + B.length + 1)), none, none], bagS A L'.tail (B ++ [.lst (ps.map D.int), .lst []]), ?_, ⟨_, _, rfl⟩, L'.tail, ps, rfl, nd, hp, by simp; omega⟩
      simp only [setT_v, List.length_cons, List.length_nil, Nat.reduceAdd, Nat.reduceLT, if_true, rsofO_some, List.set_cons_succ, List.set_cons_zero, ss_cons_, s_set_, e_bin, e_lit, e_call, vs_cons, vs_nil, e_var, getV_s, getV_0, ofO_some, R.bind_ok, bindP_ok, sub_ii, Option.map_some, Tk, add_ii, rsof_ok, setV_d, andThen_nx, s_ifs_, q_val, e_cmp, bindD, rd_k, rdV_d, notin_ints, hin, decide_true, Bool.not_true, truD_bl, Bool.false_eq_true, if_false, ss_nil_]
    · have hb := box_k (A := A) (B := B) (L := L'.tail) (xs := ps.map D.int) (Y := .lst []) (i := 7) (r := [some (.box A.length), some (.d (.int 3)), some (.d x), some (.d (.int (1 + tk L' (e - 1)))), none, none, some (.d (.int e)), some (.box (A.length + 1 + B.length)), some (.box (A.length + 1 + B.length + 1)), none, none]) rfl
      have hlt : (ps.map D.int).length < sizeMax := by rw [List.length_map, sizeMax_eq']; omega
      refine ⟨[some (.box A.length), some (.d (.int 3)), some (.d x), some (.d (.int (1 + tk L' (e - 1)))), none, none, some (.d (.int e)), some (.box (A.length + 1 + B.length)), some (.box (A.length + 1 + B.length + 1)), none, none], bagS A L'.tail (B ++ [.lst ((ps ++ [1 + tk L' (e - 1)]).map D.int), .lst []]), ?_, ⟨_, _, rfl⟩, L'.tail, ps ++ [1 + tk L' (e - 1)], rfl, ?_, ?_, by simp; omega⟩
      · simp only [setT_v, List.length_cons, List.length_nil, Nat.reduceAdd, Nat.reduceLT, if_true, rsofO_some, List.set_cons_succ, List.set_cons_zero, ss_cons_, s_set_, e_bin, e_lit, e_call, vs_cons, vs_nil, e_var, getV_s, getV_0, ofO_some, R.bind_ok, bindP_ok, sub_ii, Option.map_some, Tk, add_ii, rsof_ok, setV_d, andThen_nx, s_ifs_, q_val, e_cmp, bindD, rd_k, rdV_d, notin_ints, hin, decide_false, Bool.not_false, truD_bl, ss_nil_, s_append_, hb]
        rw [if_pos hlt, set_k]
        simp [andThen_nx]
      · rw [List.nodup_append]
        refine ⟨nd, by simp, fun z hz w hw => ?_⟩
        simp at hw
        subst hw
        exact fun q => hin (q ▸ hz)
      · intro p hp2
        rcases List.mem_append.mp hp2 with h | h
        · exact hp p h
        · simp at h; omega
  obtain ⟨r1, S1, hloop1, ⟨x2, x3, rfl⟩, L1, ps, rfl, nd, hps, hpl⟩ := loopF_inv I1 turn1 [some (.box A.length), some (.d (.int 3)), none, none, none, none, some (.d (.int e)), some (.box (A.length + 1 + B.length)), some (.box (A.length + 1 + B.length + 1)), none, none] (bagS A L.tail.tail (B ++ [.lst (([] : List Int).map D.int), .lst []])) ⟨⟨none, none, rfl⟩, L.tail.tail, [], rfl, by simp, by simp, by simp⟩
  rw [rng_len] at hpl
  obtain ⟨so1, so2, so3⟩ := sort_ok (l := ps)
  -- the lights
  let I2 : List D → Ev.Env → Sto → Prop := fun a r T => (∃ x3 x9 x10 : Option Val, r = [some (.box A.length), some (.d (.int 3)), x2, x3, none, none, some (.d (.int e)), some (.d (.lst (ps.map D.int))), some (.box (A.length + 1 + B.length + 1)), x9, x10]) ∧
    ∃ (L' : List Int) (rows : List (List Int)), T = bagS A L' (B ++ [.dead, .lst (rows.map rowD)]) ∧ (rows.map fun r => D.int (r.headD 0)) = a ∧ ∀ row ∈ rows, okRow e row
  have turn2 : ∀ a x b, (sortI ps).map D.int = a ++ x :: b → ∀ r S, I2 a r S → ∃ r' S', (RS.ofO (setT (.v 3) x r) fun r => evSs (calls P (n + 2)) lightB r S) = .nx r' S' ∧ I2 (a ++ [x]) r' S' := by
    intro a x b hx r S hI
    obtain ⟨⟨x3, x9, x10, rfl⟩, L', rows, rfl, ha, hr⟩ := hI
    have hxm : x ∈ (sortI ps).map D.int := by rw [hx]; simp
    obtain ⟨p, hpm, rfl⟩ := List.mem_map.mp hxm
    have hpp := hps p ((so1 p).mp hpm)
    have hal : a.length < 4 := by
      have := congrArg List.length hx
      rw [List.length_map, so2] at this
      simp at this
      omega
    have hrl : rows.length = a.length := by rw [← ha, List.length_map]
    have Ta := f_take (n := n + 1) (A := A) (B := B ++ [.dead, .lst (rows.map rowD)]) (L := L') (m := 9) (by decide)
    have Tb := f_take (n := n + 1) (A := A) (B := B ++ [.dead, .lst (rows.map rowD)]) (L := L'.tail) (m := 9) (by decide)
    obtain ⟨g1, g2⟩ := tk_ok (L := L') (m := 9) (by decide)
    obtain ⟨d1, d2⟩ := tk_ok (L := L'.tail) (m := 9) (by decide)
    generalize hg : 4 + tk L' 9 = g at *
    generalize hd : 4 + tk L'.tail 9 = d at *
    have Tc := f_take (n := n + 1) (A := A) (B := B ++ [.dead, .lst (rows.map rowD)]) (L := L'.tail.tail) (m := g + d) (by omega)
    obtain ⟨f1, f2⟩ := tk_ok (L := L'.tail.tail) (m := g + d) (by omega)
    have hb := fun L0 => box_k1 (A := A) (B := B) (L := L0) (xs := rows.map rowD) (X := .dead) (i := 8) (r := [some (.box A.length), some (.d (.int 3)), x2, some (.d (.int p)), none, none, some (.d (.int e)), some (.d (.lst (ps.map D.int))), some (.box (A.length + 1 + B.length + 1)), some (.d (.int g)), some (.d (.int d))]) rfl
    have hlt : (rows.map rowD).length < sizeMax := by rw [List.length_map, sizeMax_eq']; omega
    refine ⟨[some (.box A.length), some (.d (.int 3)), x2, some (.d (.int p)), none, none, some (.d (.int e)), some (.d (.lst (ps.map D.int))), some (.box (A.length + 1 + B.length + 1)), some (.d (.int g)), some (.d (.int d))], bagS A L'.tail.tail.tail (B ++ [.dead, .lst ((rows ++ [[p, g, d, tk L'.tail.tail (g + d)]]).map rowD)]), ?_, ⟨_, _, _, rfl⟩, _, rows ++ [[p, g, d, tk L'.tail.tail (g + d)]], rfl, by simp [← ha], ?_⟩
    · unfold lightB
      simp only [setT_v, List.length_cons, List.length_nil, Nat.reduceAdd, Nat.reduceLT, if_true, rsofO_some, List.set_cons_succ, List.set_cons_zero, ss_cons_, s_setp_, e_bin, e_lit, e_call, vs_cons, vs_nil, e_var, getV_s, getV_0, ofO_some, R.bind_ok, bindP_ok, Option.map_some, Ta, Tb, hg, hd, add_ii, rsof_ok, setPar_d, setPar_0, andThen_nx, s_append_, hb, e_tup, ds_cons, ds_nil, Tc, ss_nil_]
      rw [if_pos hlt, set_k1]
      simp [andThen_nx, rowD]
    · intro row hrow
      rcases List.mem_append.mp hrow with h | h
      · exact hr row h
      · simp at h
        exact ⟨p, g, d, _, h, hpp, by omega, by omega, f1, f2⟩
  obtain ⟨r2, S2, hloop2, ⟨x32, x92, x102, rfl⟩, L2, rows, rfl, hrows, hok⟩ := loopF_inv I2 turn2 [some (.box A.length), some (.d (.int 3)), x2, x3, none, none, some (.d (.int e)), some (.d (.lst (ps.map D.int))), some (.box (A.length + 1 + B.length + 1)), none, none] (bagS A L1 (B ++ [.dead, .lst (([] : List (List Int)).map rowD)])) ⟨⟨x3, none, none, rfl⟩, L1, [], rfl, rfl, by simp⟩
  have hheads : (rows.map fun r => r.headD 0) = sortI ps := by
    have inj : ∀ (a b : List Int), a.map D.int = b.map D.int → a = b := by
      intro a
      induction a with
      | nil => intro b h; cases b with
        | nil => rfl
        | cons _ _ => simp at h
      | cons x a ih => intro b h; cases b with
        | nil => simp at h
        | cons y b => simp only [List.map_cons, List.cons.injEq, D.int.injEq] at h; rw [h.1, ih b h.2]
    refine inj _ _ ?_
    rw [List.map_map]
    exact hrows
  have hrl : rows.length ≤ 3 := by
    have := congrArg List.length hheads
    rw [List.length_map, so2] at this
    omega
  -- the paces
  obtain ⟨q1, q2⟩ := tk_ok (L := L2) (m := 2) (by decide)
  have Tq := f_take (n := n + 1) (A := A) (B := B ++ [.dead, .dead]) (L := L2) (m := 2) (by decide)
  generalize hq : 1 + tk L2 2 = q at *
  have Ts := f_take (n := n + 1) (A := A) (B := B ++ [.dead, .dead]) (L := L2.tail) (m := 4 - q) (by omega)
  obtain ⟨s1, s2⟩ := tk_ok (L := L2.tail) (m := 4 - q) (by omega)
  generalize hs : q + tk L2.tail (4 - q) = s at *
  obtain ⟨xl, hxl, hch⟩ := f_choice (n := n) (A := A) (B := B ++ [.dead, .dead]) (L := L2.tail.tail) (xs := [.int 0, .int 2, .int 5, .int 9]) (by simp)
  obtain ⟨l, rfl, hl⟩ : ∃ l : Int, xl = .int l ∧ (l = 0 ∨ l = 2 ∨ l = 5 ∨ l = 9) := by
    simp only [List.mem_cons, List.not_mem_nil, or_false] at hxl
    rcases hxl with rfl | rfl | rfl | rfl
    · exact ⟨0, rfl, .inl rfl⟩
    · exact ⟨2, rfl, .inr (.inl rfl)⟩
    · exact ⟨5, rfl, .inr (.inr (.inl rfl))⟩
    · exact ⟨9, rfl, .inr (.inr (.inr rfl))⟩
  refine ⟨rows, e, l, q, s, L2.tail.tail.tail, ?_, ?_⟩
  · have hall : (rows.map fun r => D.tup (r.map D.int)).all (isL e) = true := by
      rw [List.all_eq_true]
      intro v hv
      obtain ⟨row, hrow, rfl⟩ := List.mem_map.mp hv
      exact row_light (hok row hrow)
    have hasc : ascD (rows.map fun r => D.tup (r.map D.int)) = true := asc_rows hok (by rw [hheads]; exact so3 nd)
    unfold sD isS
    simp only [intV, hall, hasc, List.length_map, Bool.and_true, isW]
    simp
    exact ⟨⟨⟨⟨by omega, by omega⟩, by omega⟩, by omega, decide_eq_true (by omega)⟩, hrl⟩
  · rw [fn_stepk (c := c__law_street) rfl rfl bag_len, street_code]
    simp only [List.map_cons, List.map_nil, List.cons_append, List.nil_append, Nat.sub_self, List.replicate_zero, List.replicate_succ, Nat.reduceSub]
    have T0 := f_take (n := n + 1) (A := A) (B := B) (L := L) (m := 12) (by decide)
    have T1 := f_take (n := n + 1) (A := A) (B := B ++ [.lst [], .lst []]) (L := L.tail) (m := 4) (by decide)
    have b1 : bagS A L.tail B ++ [.lst []] = bagS A L.tail (B ++ [.lst []]) := bag_app
    have b2 : bagS A L.tail (B ++ [.lst []]) ++ [.lst []] = bagS A L.tail (B ++ [.lst [], .lst []]) := by rw [bag_app]; simp
    have l1 : (bagS A L.tail B).length = A.length + 1 + B.length := bag_len
    have l2 : (bagS A L.tail (B ++ [.lst []])).length = A.length + 1 + B.length + 1 := by rw [bag_len]; simp; omega
    have hw : walkD .range1 [.int m] = some (rngD 0 m.toNat) := by
      show (if rngOk 0 m then some (rngD 0 m.toNat) else none) = _
      rw [if_pos]
      unfold rngOk
      simp
      omega
    have hw2 : walkD .val [.lst ((sortI ps).map D.int)] = some ((sortI ps).map D.int) := rfl
    have hk7 := box_k (A := A) (B := B) (L := L1) (xs := ps.map D.int) (Y := .lst []) (i := 7) (r := [some (.box A.length), some (.d (.int 3)), x2, x3, none, none, some (.d (.int e)), some (.box (A.length + 1 + B.length)), some (.box (A.length + 1 + B.length + 1)), none, none]) rfl
    have hk8 := box_k1 (A := A) (B := B) (L := L2) (xs := rows.map rowD) (X := .dead) (i := 8) (r := [some (.box A.length), some (.d (.int 3)), x2, x32, none, none, some (.d (.int e)), some (.d (.lst (ps.map D.int))), some (.box (A.length + 1 + B.length + 1)), x92, x102]) rfl
    simp only [List.map_nil] at hloop1 hloop2
    simp only [ss_cons_, s_setp_, e_bin, e_lit, e_call, vs_cons, vs_nil, e_var, getV_s, getV_0, ofO_some, R.bind_ok, bindP_ok, T0, add_ii, he, Option.map_some, e_box, ds_nil, b1, b2, l1, l2, rsof_ok, setPar_d, setPar_box, setPar_0, List.length_cons, List.length_nil, Nat.reduceAdd, Nat.reduceLT, if_true, List.set_cons_succ, List.set_cons_zero, rsofO_some, andThen_nx, s_forr_, ds_cons, Int.reduceAdd, T1, hm, hw, hloop1, s_frz_, hk7, set_k, e_bi, sorted_d, hw2, hloop2, hk8, set_k1, s_set_, Tq, hq, setV_d, sub_ii, Ts, hs, s_ret_, e_tup, tup_l, e_lst, hch, andThen_ret]
    exact bag_leaveT
end E02

set_option Elab.async false
set_option linter.all false
set_option autoImplicit false
set_option maxRecDepth 100000
set_option maxHeartbeats 4000000
/-! Fractions, walkers and words, by the evaluator. Own work. -/
namespace E02
open PySem Ev C02 M15 M01 Tx
theorem ne_ii {i j : Int} : cmpD .ne (.int i) (.int j) = some (!decide (i = j)) := by rw [ne_ok okD_int okD_int, eqD_int]
theorem abs_i {i : Int} : biD .abs (.int i) = some (.int (i.natAbs : Int)) := by
  show some (D.int (if i < 0 then -i else i)) = _
  congr 2
  split <;> omega
theorem s_whil_ {C : Calls} {c : Tx} {body : List St} {r : Ev.Env} {S : Sto} : evS C (.whil c body) r S = loopW (fun r S => evSs C body r S) (fun r S => evT C c r S) whileMax r S := by simp only [evS]
theorem gcd_while {F : Ev.Env → Sto → RS} {c : Ev.Env → Sto → R Bool} {S : Sto} (env : Nat → Nat → Ev.Env) (hc : ∀ x y, c (env x y) S = .ok (decide (y ≠ 0)) S) (hF : ∀ x y, y ≠ 0 → F (env x y) S = .nx (env y (x % y)) S) {x y : Nat} (hy : y < 2 ^ 9000) :
    loopW F c whileMax (env x y) S = .nx (env (Nat.gcd x y) 0) S := by
  refine gcd_loop (fun x => RS.nx (env x 0) S) (fun f x y => loopW F c f (env x y) S) (fun f x => ?_) (fun f x y hy => ?_) 9000 x y whileMax hy (by unfold whileMax; omega)
  · show RS.of (c (env x 0) S) _ = _
    rw [hc]
    rfl
  · show RS.of (c (env x y) S) _ = _
    rw [hc, decide_eq_true hy]
    show (F (env x y) S).andThen _ = _
    rw [hF x y hy]
    rfl
def gcdA : List St := [.setp [0, 1] [(.var 1), (.bin .mod (.var 0) (.var 1))]]
def gcdB : List St := [.setp [2, 3] [(.var 3), (.bin .mod (.var 2) (.var 3))]]
theorem div_code : c_divisor_of = ⟨2, 2, [.setp [0, 1] [(.bi .abs (.var 0)), (.bi .abs (.var 1))], .whil (.val (.cmp .ne (.var 1) (.lit (.int 0)))) gcdA, .ret (.var 0)]⟩ := rfl
theorem low_code : c__law_lowest = ⟨2, 4, [.setp [2, 3] [(.bi .abs (.var 0)), (.bi .abs (.var 1))], .whil (.val (.cmp .ne (.var 3) (.lit (.int 0)))) gcdB, .ret (.ite (.val (.cmp .gt (.var 1) (.lit (.int 0)))) (.tup [(.bin .fdiv (.var 0) (.var 2)), (.bin .fdiv (.var 1) (.var 2))]) (.tup [(.bin .fdiv (.neg (.var 0)) (.var 2)), (.bin .fdiv (.neg (.var 1)) (.var 2))]))]⟩ := rfl
theorem f_divisor {n : Nat} {a b : Int} {S : Sto} (hb : b.natAbs < 2 ^ 9000) : (calls P (n + 1)).fn 0 [.d (.int a), .d (.int b)] S = .ok (.d (.int (Int.gcd a b : Nat))) S := by
  rw [fn_step (c := c_divisor_of) rfl rfl]
  rw [div_code]
  simp only [List.map_cons, List.map_nil, List.cons_append, List.nil_append, Nat.sub_self, List.replicate_zero]
  have key : evS (calls P n) (.whil (.val (.cmp .ne (.var 1) (.lit (.int 0)))) gcdA) [some (.d (.int (a.natAbs : Int))), some (.d (.int (b.natAbs : Int)))] S = .nx [some (.d (.int (Nat.gcd a.natAbs b.natAbs : Nat))), some (.d (.int ((0 : Nat) : Int)))] S := s_whil_.trans <| gcd_while (F := fun r S => evSs (calls P n) gcdA r S) (c := fun r S => evT (calls P n) (.val (.cmp .ne (.var 1) (.lit (.int 0)))) r S) (S := S) (fun x y => [some (.d (.int (x : Int))), some (.d (.int (y : Int)))]) (fun x y => by
      simp only [q_val, e_cmp, e_var, getV_s, getV_0, ofO_some, R.bind_ok, e_lit, bindD_ok, rdV_d, ne_ii, Option.map_some, truD_bl]
      congr 1
      by_cases z : y = 0
      · subst z; rfl
      · have : ¬ ((y : Int) = 0) := by omega
        simp [z, this]) (fun x y hy => by
      have hm : binD .mod (.int (x : Int)) (.int (y : Int)) = some (.int ((x % y : Nat) : Int)) := by rw [mod_ii (by omega)]; simp
      simp only [gcdA, gcdB, ss_cons_, s_setp_, vs_cons, vs_nil, e_bin, e_var, getV_s, getV_0, ofO_some, R.bind_ok, bindP_ok, hm, Option.map_some, rsof_ok, setPar_d, setPar_0, List.length_cons, List.length_nil, Nat.reduceAdd, Nat.reduceLT, if_true, List.set_cons_succ, List.set_cons_zero, rsofO_some, andThen_nx, ss_nil_]) (x := a.natAbs) (y := b.natAbs) hb
  simp only [ss_cons_, s_setp_, vs_cons, vs_nil, e_bi, e_var, getV_s, getV_0, ofO_some, bindP_ok, abs_i, Option.map_some, R.bind_ok, rsof_ok, setPar_d, setPar_0, List.length_cons, List.length_nil, Nat.reduceAdd, Nat.reduceLT, if_true, List.set_cons_succ, List.set_cons_zero, rsofO_some, andThen_nx, key, s_ret_, rsof_ok, andThen_ret, leave_d0]
  rfl
theorem log_lt {n : Nat} (h : n < 2 ^ 8999) : n.log2 < 9000 := by
  by_cases z : n = 0
  · subst z; decide
  · have := (Nat.log2_lt z).mpr h
    omega
theorem gcd_pos {a b : Int} (hb : 0 < b) : 0 < ((Int.gcd a b : Nat) : Int) ∧ Int.gcd a b ≤ b.natAbs := by
  have h1 : 0 < b.natAbs := by omega
  have h2 : Int.gcd a b ≤ b.natAbs := Nat.le_of_dvd h1 (Nat.gcd_dvd_right _ _)
  have h3 : 0 < Int.gcd a b := Nat.gcd_pos_of_pos_right _ h1
  exact ⟨by omega, h2⟩
theorem f_lowest {n : Nat} {a b : Int} {S : Sto} (hb : 0 < b) (hB : b.natAbs < 2 ^ 8999) : (calls P (n + 1)).fn 26 [.d (.int a), .d (.int b)] S = .ok (.d (.tup [.int (a / (Int.gcd a b : Nat)), .int (b / (Int.gcd a b : Nat))])) S := by
  rw [fn_step (c := c__law_lowest) rfl rfl]
  rw [low_code]
  simp only [List.map_cons, List.map_nil, List.cons_append, List.nil_append, Nat.sub_self, List.replicate_zero, List.replicate_succ, Nat.reduceSub]
  have up : b.natAbs < 2 ^ 9000 := Nat.lt_of_lt_of_le hB (Nat.pow_le_pow_right (by decide) (by decide))
  have key : evS (calls P n) (.whil (.val (.cmp .ne (.var 3) (.lit (.int 0)))) gcdB) [some (.d (.int a)), some (.d (.int b)), some (.d (.int (a.natAbs : Int))), some (.d (.int (b.natAbs : Int)))] S = .nx [some (.d (.int a)), some (.d (.int b)), some (.d (.int (Nat.gcd a.natAbs b.natAbs : Nat))), some (.d (.int ((0 : Nat) : Int)))] S := s_whil_.trans <| gcd_while (F := fun r S => evSs (calls P n) gcdB r S) (c := fun r S => evT (calls P n) (.val (.cmp .ne (.var 3) (.lit (.int 0)))) r S) (S := S) (fun x y => [some (.d (.int a)), some (.d (.int b)), some (.d (.int (x : Int))), some (.d (.int (y : Int)))]) (fun x y => by
      simp only [q_val, e_cmp, e_var, getV_s, getV_0, ofO_some, R.bind_ok, e_lit, bindD_ok, rdV_d, ne_ii, Option.map_some, truD_bl]
      congr 1
      by_cases z : y = 0
      · subst z; rfl
      · have : ¬ ((y : Int) = 0) := by omega
        simp [z, this]) (fun x y hy => by
      have hm : binD .mod (.int (x : Int)) (.int (y : Int)) = some (.int ((x % y : Nat) : Int)) := by rw [mod_ii (by omega)]; simp
      simp only [gcdA, gcdB, ss_cons_, s_setp_, vs_cons, vs_nil, e_bin, e_var, getV_s, getV_0, ofO_some, R.bind_ok, bindP_ok, hm, Option.map_some, rsof_ok, setPar_d, setPar_0, List.length_cons, List.length_nil, Nat.reduceAdd, Nat.reduceLT, if_true, List.set_cons_succ, List.set_cons_zero, rsofO_some, andThen_nx, ss_nil_]) (x := a.natAbs) (y := b.natAbs) up
  obtain ⟨g1, g2⟩ := gcd_pos (a := a) hb
  have gl : ((Int.gcd a b : Nat) : Int).natAbs.log2 < 9000 := log_lt (Nat.lt_of_le_of_lt (by simpa using g2) hB)
  have d1 := fdiv_ii (i := a) g1 gl
  have d2 := fdiv_ii (i := b) g1 gl
  simp only [ss_cons_, s_setp_, vs_cons, vs_nil, e_bi, e_var, getV_s, getV_0, ofO_some, bindP_ok, abs_i, Option.map_some, R.bind_ok, rsof_ok, setPar_d, setPar_0, List.length_cons, List.length_nil, Nat.reduceAdd, Nat.reduceLT, if_true, List.set_cons_succ, List.set_cons_zero, rsofO_some, andThen_nx, key]
  have eg : Nat.gcd a.natAbs b.natAbs = Int.gcd a b := rfl
  simp only [andThen_nx, s_ret_, e_ite, q_val, e_cmp, e_var, getV_s, getV_0, ofO_some, R.bind_ok, e_lit, bindD_ok, rdV_d, gt_ii, hb, decide_true, Option.map_some, truD_bl, if_true, e_tup, ds_cons, ds_nil, e_bin, bindP_ok, eg, d1, d2, rsof_ok, andThen_ret, leave_d0]
theorem mul_big {i j : Int} {x y : Nat} (h1 : i.natAbs < 2 ^ x) (h2 : j.natAbs < 2 ^ y) (h : x + y < 1000000) : binD .mul (.int i) (.int j) = some (.int (i * j)) := by
  refine mul_ii ?_
  unfold mulOk
  have key : ∀ n z : Nat, n < 2 ^ z → n.log2 ≤ z := fun n z h => by
    by_cases q : n = 0
    · subst q; simp
    · have := (Nat.log2_lt q).mpr h
      omega
  have a := key _ _ h1
  have b := key _ _ h2
  exact decide_eq_true (by omega)
theorem f_less {n : Nat} {a b c d : Int} {S : Sto} (h1 : binD .mul (.int a) (.int d) = some (.int (a * d))) (h2 : binD .mul (.int c) (.int b) = some (.int (c * b))) : (calls P (n + 1)).fn 27 [.d (.tup [.int a, .int b]), .d (.tup [.int c, .int d])] S = .ok (.d (.bl (decide (a * d < c * b)))) S := by
  rw [fn_step (c := c__law_less) rfl rfl]
  unfold c__law_less
  simp only [List.map_cons, List.map_nil, List.cons_append, List.nil_append, Nat.sub_self, List.replicate_zero]
  simp only [R.bind_ok, R.bind_exc, bindP_ok, bindP_exc, bindD_ok, bindD_exc, ofO_some, rsof_ok, rsof_exc, rsofO_some, andThen_nx, andThen_ret, andThen_exc, e_var, e_lit, e_tup, e_lst, e_neg, e_not, e_bin, e_cmp, e_chain, e_bool, e_ite, e_idx, e_cut, e_rev, e_back, e_call, e_bi, e_len, e_isi, e_fmt, e_split, e_join, q_val, q_not, q_and, q_or, and_nil, and_cons, or_nil, or_cons, ds_nil, ds_cons, vs_nil, vs_cons, bool_one, bool_cons, s_set_, s_setp_, s_ret_, s_ifs_, s_rais_, s_append_, s_expr_, s_frz_, ss_nil_, ss_cons_, getV_0, getV_s, truD_bl, truD_int, truD_lst, rdV_d, optI_0, optI_1, setV_d, setV_box, setV_t, setT_v, setT_t, setTs_0, setTs_c, setPar_0, setPar_d, setPar_box, wipe_0, wipe_c, obind_some, noFn_non, noFn_bl, noFn_int, noFn_str, noFn_lst, noFn_tup, add_ii, sub_ii, lt_ii, le_ii, gt_ii, ge_ii, idx_t, idx_l, at_0, at_1, at_2, at_3, at_4, cut_l, cut_t, cutL_1, cutL_3, cutL_t3, len_l, len_t, tup_l, list_t, int_i, leave_d0, leave_n0, leave_x0, h1, h2]
  simp only [Option.map_some, ofO_some, bindP_ok, bindD_ok, rdV_d, lt_ii, R.bind_ok, rsof_ok, andThen_ret, leave_d0, h1, h2]
theorem calls_glob {n : Nat} : (calls P n).glob = P.glob := by cases n <;> rfl
theorem glob1 : P.glob 1 = some (.int 1000000) := rfl
theorem f_is_fraction {n : Nat} {v : D} {S : Sto} (hv : okn 1 v = true) : (calls P (n + 2)).fn 6 [.d v] S = .ok (.d (.bl (isF v))) S := by
  rw [fn_step (c := c_is_fraction) rfl rfl]
  unfold c_is_fraction
  simp only [List.map_cons, List.map_nil, List.cons_append, List.nil_append, Nat.sub_self, List.replicate_zero]
  have h2 : isR v 2 2 = true → ∃ a b, v = .tup [a, b] := by
    intro h
    cases v <;> simp [isR] at h
    rename_i xs
    match xs, h with
    | [a, b], _ => exact ⟨a, b, rfl⟩
    | [], h => simp at h
    | [_], h => simp at h
    | _ :: _ :: _ :: _, h => simp at h; omega
  cases hr : isR v 2 2 with
  | false =>
    have hl : isF v = false := by
      unfold isF
      split
      · simp [isR] at hr
      · rfl
    simp [R.bind_ok, R.bind_exc, bindP_ok, bindP_exc, bindD_ok, bindD_exc, ofO_some, rsof_ok, rsof_exc, rsofO_some, andThen_nx, andThen_ret, andThen_exc, e_var, e_lit, e_tup, e_lst, e_neg, e_not, e_bin, e_cmp, e_chain, e_bool, e_ite, e_idx, e_cut, e_rev, e_back, e_call, e_bi, e_len, e_isi, e_fmt, e_split, e_join, q_val, q_not, q_and, q_or, and_nil, and_cons, or_nil, or_cons, ds_nil, ds_cons, vs_nil, vs_cons, bool_one, bool_cons, s_set_, s_setp_, s_ret_, s_ifs_, s_rais_, s_append_, s_expr_, s_frz_, ss_nil_, ss_cons_, getV_0, getV_s, truD_bl, truD_int, truD_lst, rdV_d, optI_0, optI_1, setV_d, setV_box, setV_t, setT_v, setT_t, setTs_0, setTs_c, setPar_0, setPar_d, setPar_box, wipe_0, wipe_c, obind_some, noFn_non, noFn_bl, noFn_int, noFn_str, noFn_lst, noFn_tup, add_ii, sub_ii, lt_ii, le_ii, gt_ii, ge_ii, idx_t, idx_l, at_0, at_1, at_2, at_3, at_4, cut_l, cut_t, cutL_1, cutL_3, cutL_t3, len_l, len_t, tup_l, list_t, int_i, leave_d0, leave_n0, leave_x0, f_is_row (n := n) (okn_no hv), hr, hl]
  | true =>
    obtain ⟨a, b, rfl⟩ := h2 hr
    have ho := okn_tup hv
    have na : noFn a = true := okn_no (ho a (by simp))
    have nb : noFn b = true := okn_no (ho b (by simp))
    have fa := fun {S : Sto} => f_is_whole (n := n) (lo := -1000000) (hi := 1000000) (S := S) na
    have fb := fun {S : Sto} => f_is_whole (n := n) (lo := 1) (hi := 1000000) (S := S) nb
    cases h1 : isW a (-1000000) 1000000 with
    | false => simp [R.bind_ok, R.bind_exc, bindP_ok, bindP_exc, bindD_ok, bindD_exc, ofO_some, rsof_ok, rsof_exc, rsofO_some, andThen_nx, andThen_ret, andThen_exc, e_var, e_lit, e_tup, e_lst, e_neg, e_not, e_bin, e_cmp, e_chain, e_bool, e_ite, e_idx, e_cut, e_rev, e_back, e_call, e_bi, e_len, e_isi, e_fmt, e_split, e_join, q_val, q_not, q_and, q_or, and_nil, and_cons, or_nil, or_cons, ds_nil, ds_cons, vs_nil, vs_cons, bool_one, bool_cons, s_set_, s_setp_, s_ret_, s_ifs_, s_rais_, s_append_, s_expr_, s_frz_, ss_nil_, ss_cons_, getV_0, getV_s, truD_bl, truD_int, truD_lst, rdV_d, optI_0, optI_1, setV_d, setV_box, setV_t, setT_v, setT_t, setTs_0, setTs_c, setPar_0, setPar_d, setPar_box, wipe_0, wipe_c, obind_some, noFn_non, noFn_bl, noFn_int, noFn_str, noFn_lst, noFn_tup, add_ii, sub_ii, lt_ii, le_ii, gt_ii, ge_ii, idx_t, idx_l, at_0, at_1, at_2, at_3, at_4, cut_l, cut_t, cutL_1, cutL_3, cutL_t3, len_l, len_t, tup_l, list_t, int_i, leave_d0, leave_n0, leave_x0, f_is_row (n := n) (okn_no hv), hr, e_glob, calls_glob, glob1, fa, h1, isF]
    | true => cases h3 : isW b 1 1000000 with
      | false => simp [R.bind_ok, R.bind_exc, bindP_ok, bindP_exc, bindD_ok, bindD_exc, ofO_some, rsof_ok, rsof_exc, rsofO_some, andThen_nx, andThen_ret, andThen_exc, e_var, e_lit, e_tup, e_lst, e_neg, e_not, e_bin, e_cmp, e_chain, e_bool, e_ite, e_idx, e_cut, e_rev, e_back, e_call, e_bi, e_len, e_isi, e_fmt, e_split, e_join, q_val, q_not, q_and, q_or, and_nil, and_cons, or_nil, or_cons, ds_nil, ds_cons, vs_nil, vs_cons, bool_one, bool_cons, s_set_, s_setp_, s_ret_, s_ifs_, s_rais_, s_append_, s_expr_, s_frz_, ss_nil_, ss_cons_, getV_0, getV_s, truD_bl, truD_int, truD_lst, rdV_d, optI_0, optI_1, setV_d, setV_box, setV_t, setT_v, setT_t, setTs_0, setTs_c, setPar_0, setPar_d, setPar_box, wipe_0, wipe_c, obind_some, noFn_non, noFn_bl, noFn_int, noFn_str, noFn_lst, noFn_tup, add_ii, sub_ii, lt_ii, le_ii, gt_ii, ge_ii, idx_t, idx_l, at_0, at_1, at_2, at_3, at_4, cut_l, cut_t, cutL_1, cutL_3, cutL_t3, len_l, len_t, tup_l, list_t, int_i, leave_d0, leave_n0, leave_x0, f_is_row (n := n) (okn_no hv), hr, e_glob, calls_glob, glob1, fa, fb, h1, h3, isF]
      | true =>
        have wa := isW_int h1
        have wb := isW_int h3
        obtain ⟨i, rfl⟩ : ∃ i, a = .int i := ⟨_, wa.1⟩
        obtain ⟨j, rfl⟩ : ∃ j, b = .int j := ⟨_, wb.1⟩
        have hj : 1 ≤ j ∧ j ≤ 1000000 := wb.2
        have hj2 : j.natAbs < 2 ^ 9000 := by
          have a1 : (2 : Nat) ^ 20 = 1048576 := by decide
          have a2 : (2 : Nat) ^ 20 ≤ 2 ^ 9000 := Nat.pow_le_pow_right (by decide) (by decide)
          omega
        have fd := fun {S : Sto} => f_divisor (n := n) (a := i) (b := j) (S := S) hj2
        have hd : decide ((((Int.gcd i j : Nat) : Int)) = 1) = decide (Int.gcd i j = 1) := decide_eq_decide.mpr (by omega)
        have hq : cmpD .eq (.int ((Int.gcd i j : Nat) : Int)) (.int 1) = some (decide (Int.gcd i j = 1)) := by rw [eq_ii, hd]
        simp [R.bind_ok, R.bind_exc, bindP_ok, bindP_exc, bindD_ok, bindD_exc, ofO_some, rsof_ok, rsof_exc, rsofO_some, andThen_nx, andThen_ret, andThen_exc, e_var, e_lit, e_tup, e_lst, e_neg, e_not, e_bin, e_cmp, e_chain, e_bool, e_ite, e_idx, e_cut, e_rev, e_back, e_call, e_bi, e_len, e_isi, e_fmt, e_split, e_join, q_val, q_not, q_and, q_or, and_nil, and_cons, or_nil, or_cons, ds_nil, ds_cons, vs_nil, vs_cons, bool_one, bool_cons, s_set_, s_setp_, s_ret_, s_ifs_, s_rais_, s_append_, s_expr_, s_frz_, ss_nil_, ss_cons_, getV_0, getV_s, truD_bl, truD_int, truD_lst, rdV_d, optI_0, optI_1, setV_d, setV_box, setV_t, setT_v, setT_t, setTs_0, setTs_c, setPar_0, setPar_d, setPar_box, wipe_0, wipe_c, obind_some, noFn_non, noFn_bl, noFn_int, noFn_str, noFn_lst, noFn_tup, add_ii, sub_ii, lt_ii, le_ii, gt_ii, ge_ii, idx_t, idx_l, at_0, at_1, at_2, at_3, at_4, cut_l, cut_t, cutL_1, cutL_3, cutL_t3, len_l, len_t, tup_l, list_t, int_i, leave_d0, leave_n0, leave_x0, f_is_row (n := n) (okn_no hv), hr, e_glob, calls_glob, glob1, fa, fb, h1, h3, fd, hq, isF, intV]
        rfl
end E02

set_option Elab.async false
set_option linter.all false
set_option autoImplicit false
set_option maxRecDepth 100000
set_option maxHeartbeats 4000000
/-! Walkers and words, by the evaluator. Own work. -/
namespace E02
open PySem Ev C02 M15 M01 Tx
theorem isF_ok {v : D} (h : isF v = true) : ∃ a b : Int, v = .tup [.int a, .int b] ∧ (-1000000 ≤ a ∧ a ≤ 1000000) ∧ (1 ≤ b ∧ b ≤ 1000000) ∧ Int.gcd a b = 1 := by
  unfold isF at h
  split at h
  · rename_i x y
    simp only [Bool.and_eq_true, decide_eq_true_eq] at h
    obtain ⟨⟨h1, h2⟩, h3⟩ := h
    have a1 := isW_int h1
    have a2 := isW_int h2
    obtain ⟨i, rfl⟩ : ∃ i, x = .int i := ⟨_, a1.1⟩
    obtain ⟨j, rfl⟩ : ∃ j, y = .int j := ⟨_, a2.1⟩
    exact ⟨i, j, rfl, a1.2, a2.2, h3⟩
  · cases h
theorem p20 : (2 : Nat) ^ 20 = 1048576 := by decide
theorem p7 : (2 : Nat) ^ 7 = 128 := by decide
theorem f_is_within {n : Nat} {ls : List (List Int)} {e l q s t b m p : Int} {S : Sto} (hs : isS (sD ls e l q s) = true) (ht : -1000000 ≤ t ∧ t ≤ 1000000) (hb : 1 ≤ b ∧ b ≤ 1000000) (hm : -1000000 ≤ m ∧ m ≤ 1000000) (hp : 1 ≤ p ∧ p ≤ 1000000) :
    (calls P (n + 1)).fn 7 [.d (sD ls e l q s), .d (.tup [.tup [.int t, .int b], .tup [.int m, .int p]])] S = .ok (.d (.bl (decide (0 ≤ t) && decide (t ≤ l * b) && decide (q * p ≤ m) && decide (m ≤ s * p)))) S := by
  have sm := sm_of hs
  have hl := sm [l] (by simp) l (by simp)
  have hq := sm [q, s] (by simp) q (by simp)
  have hz := sm [q, s] (by simp) s (by simp)
  have m1 : binD .mul (.int l) (.int b) = some (.int (l * b)) := mul_big (x := 7) (y := 20) (by rw [p7]; omega) (by rw [p20]; omega) (by omega)
  have m2 : binD .mul (.int q) (.int p) = some (.int (q * p)) := mul_big (x := 7) (y := 20) (by rw [p7]; omega) (by rw [p20]; omega) (by omega)
  have m3 : binD .mul (.int s) (.int p) = some (.int (s * p)) := mul_big (x := 7) (y := 20) (by rw [p7]; omega) (by rw [p20]; omega) (by omega)
  rw [fn_step (c := c_is_within) rfl rfl]
  unfold c_is_within sD
  simp only [List.map_cons, List.map_nil, List.cons_append, List.nil_append, Nat.sub_self, List.replicate_zero, List.replicate_succ, Nat.reduceSub]
  by_cases h1 : 0 ≤ t
  · by_cases h2 : t ≤ l * b
    · by_cases h3 : q * p ≤ m
      · by_cases h4 : m ≤ s * p <;> simp [R.bind_ok, R.bind_exc, bindP_ok, bindP_exc, bindD_ok, bindD_exc, ofO_some, rsof_ok, rsof_exc, rsofO_some, andThen_nx, andThen_ret, andThen_exc, e_var, e_lit, e_tup, e_lst, e_neg, e_not, e_bin, e_cmp, e_chain, e_bool, e_ite, e_idx, e_cut, e_rev, e_back, e_call, e_bi, e_len, e_isi, e_fmt, e_split, e_join, q_val, q_not, q_and, q_or, and_nil, and_cons, or_nil, or_cons, ds_nil, ds_cons, vs_nil, vs_cons, bool_one, bool_cons, s_set_, s_setp_, s_ret_, s_ifs_, s_rais_, s_append_, s_expr_, s_frz_, ss_nil_, ss_cons_, getV_0, getV_s, truD_bl, truD_int, truD_lst, rdV_d, optI_0, optI_1, setV_d, setV_box, setV_t, setT_v, setT_t, setTs_0, setTs_c, setPar_0, setPar_d, setPar_box, wipe_0, wipe_c, obind_some, noFn_non, noFn_bl, noFn_int, noFn_str, noFn_lst, noFn_tup, add_ii, sub_ii, lt_ii, le_ii, gt_ii, ge_ii, idx_t, idx_l, at_0, at_1, at_2, at_3, at_4, cut_l, cut_t, cutL_1, cutL_3, cutL_t3, len_l, len_t, tup_l, list_t, int_i, leave_d0, leave_n0, leave_x0, m1, m2, m3, h1, h2, h3, h4]
      · simp [R.bind_ok, R.bind_exc, bindP_ok, bindP_exc, bindD_ok, bindD_exc, ofO_some, rsof_ok, rsof_exc, rsofO_some, andThen_nx, andThen_ret, andThen_exc, e_var, e_lit, e_tup, e_lst, e_neg, e_not, e_bin, e_cmp, e_chain, e_bool, e_ite, e_idx, e_cut, e_rev, e_back, e_call, e_bi, e_len, e_isi, e_fmt, e_split, e_join, q_val, q_not, q_and, q_or, and_nil, and_cons, or_nil, or_cons, ds_nil, ds_cons, vs_nil, vs_cons, bool_one, bool_cons, s_set_, s_setp_, s_ret_, s_ifs_, s_rais_, s_append_, s_expr_, s_frz_, ss_nil_, ss_cons_, getV_0, getV_s, truD_bl, truD_int, truD_lst, rdV_d, optI_0, optI_1, setV_d, setV_box, setV_t, setT_v, setT_t, setTs_0, setTs_c, setPar_0, setPar_d, setPar_box, wipe_0, wipe_c, obind_some, noFn_non, noFn_bl, noFn_int, noFn_str, noFn_lst, noFn_tup, add_ii, sub_ii, lt_ii, le_ii, gt_ii, ge_ii, idx_t, idx_l, at_0, at_1, at_2, at_3, at_4, cut_l, cut_t, cutL_1, cutL_3, cutL_t3, len_l, len_t, tup_l, list_t, int_i, leave_d0, leave_n0, leave_x0, m1, m2, m3, h1, h2, h3]
    · simp [R.bind_ok, R.bind_exc, bindP_ok, bindP_exc, bindD_ok, bindD_exc, ofO_some, rsof_ok, rsof_exc, rsofO_some, andThen_nx, andThen_ret, andThen_exc, e_var, e_lit, e_tup, e_lst, e_neg, e_not, e_bin, e_cmp, e_chain, e_bool, e_ite, e_idx, e_cut, e_rev, e_back, e_call, e_bi, e_len, e_isi, e_fmt, e_split, e_join, q_val, q_not, q_and, q_or, and_nil, and_cons, or_nil, or_cons, ds_nil, ds_cons, vs_nil, vs_cons, bool_one, bool_cons, s_set_, s_setp_, s_ret_, s_ifs_, s_rais_, s_append_, s_expr_, s_frz_, ss_nil_, ss_cons_, getV_0, getV_s, truD_bl, truD_int, truD_lst, rdV_d, optI_0, optI_1, setV_d, setV_box, setV_t, setT_v, setT_t, setTs_0, setTs_c, setPar_0, setPar_d, setPar_box, wipe_0, wipe_c, obind_some, noFn_non, noFn_bl, noFn_int, noFn_str, noFn_lst, noFn_tup, add_ii, sub_ii, lt_ii, le_ii, gt_ii, ge_ii, idx_t, idx_l, at_0, at_1, at_2, at_3, at_4, cut_l, cut_t, cutL_1, cutL_3, cutL_t3, len_l, len_t, tup_l, list_t, int_i, leave_d0, leave_n0, leave_x0, m1, m2, m3, h1, h2]
  · simp [R.bind_ok, R.bind_exc, bindP_ok, bindP_exc, bindD_ok, bindD_exc, ofO_some, rsof_ok, rsof_exc, rsofO_some, andThen_nx, andThen_ret, andThen_exc, e_var, e_lit, e_tup, e_lst, e_neg, e_not, e_bin, e_cmp, e_chain, e_bool, e_ite, e_idx, e_cut, e_rev, e_back, e_call, e_bi, e_len, e_isi, e_fmt, e_split, e_join, q_val, q_not, q_and, q_or, and_nil, and_cons, or_nil, or_cons, ds_nil, ds_cons, vs_nil, vs_cons, bool_one, bool_cons, s_set_, s_setp_, s_ret_, s_ifs_, s_rais_, s_append_, s_expr_, s_frz_, ss_nil_, ss_cons_, getV_0, getV_s, truD_bl, truD_int, truD_lst, rdV_d, optI_0, optI_1, setV_d, setV_box, setV_t, setT_v, setT_t, setTs_0, setTs_c, setPar_0, setPar_d, setPar_box, wipe_0, wipe_c, obind_some, noFn_non, noFn_bl, noFn_int, noFn_str, noFn_lst, noFn_tup, add_ii, sub_ii, lt_ii, le_ii, gt_ii, ge_ii, idx_t, idx_l, at_0, at_1, at_2, at_3, at_4, cut_l, cut_t, cutL_1, cutL_3, cutL_t3, len_l, len_t, tup_l, list_t, int_i, leave_d0, leave_n0, leave_x0, m1, m2, m3, h1]
theorem row2 {v : D} (h : isR v 2 2 = true) : ∃ a b, v = .tup [a, b] := by
  cases v <;> simp [isR] at h
  rename_i xs
  match xs, h with
  | [a, b], _ => exact ⟨a, b, rfl⟩
  | [], h => simp at h
  | [_], h => simp at h
  | _ :: _ :: _ :: _, h => simp at h; omega
theorem f_fits_walker {n : Nat} {ls : List (List Int)} {e l q s : Int} {v : D} {S : Sto} (hs : isS (sD ls e l q s) = true) (hv : okn 2 v = true) : (calls P (n + 3)).fn 8 [.d (sD ls e l q s), .d v] S = .ok (.d (.bl (isK l q s v))) S := by
  rw [fn_step (c := c_fits_walker) rfl rfl]
  unfold c_fits_walker
  simp only [List.map_cons, List.map_nil, List.cons_append, List.nil_append, Nat.sub_self, List.replicate_zero]
  cases hr : isR v 2 2 with
  | false =>
    have hl : isK l q s v = false := by
      unfold isK
      split
      · simp [isR] at hr
      · rfl
    simp [R.bind_ok, R.bind_exc, bindP_ok, bindP_exc, bindD_ok, bindD_exc, ofO_some, rsof_ok, rsof_exc, rsofO_some, andThen_nx, andThen_ret, andThen_exc, e_var, e_lit, e_tup, e_lst, e_neg, e_not, e_bin, e_cmp, e_chain, e_bool, e_ite, e_idx, e_cut, e_rev, e_back, e_call, e_bi, e_len, e_isi, e_fmt, e_split, e_join, q_val, q_not, q_and, q_or, and_nil, and_cons, or_nil, or_cons, ds_nil, ds_cons, vs_nil, vs_cons, bool_one, bool_cons, s_set_, s_setp_, s_ret_, s_ifs_, s_rais_, s_append_, s_expr_, s_frz_, ss_nil_, ss_cons_, getV_0, getV_s, truD_bl, truD_int, truD_lst, rdV_d, optI_0, optI_1, setV_d, setV_box, setV_t, setT_v, setT_t, setTs_0, setTs_c, setPar_0, setPar_d, setPar_box, wipe_0, wipe_c, obind_some, noFn_non, noFn_bl, noFn_int, noFn_str, noFn_lst, noFn_tup, add_ii, sub_ii, lt_ii, le_ii, gt_ii, ge_ii, idx_t, idx_l, at_0, at_1, at_2, at_3, at_4, cut_l, cut_t, cutL_1, cutL_3, cutL_t3, len_l, len_t, tup_l, list_t, int_i, leave_d0, leave_n0, leave_x0, f_is_row (n := n + 1) (okn_no hv), hr, hl]
  | true =>
    obtain ⟨x, y, rfl⟩ := row2 hr
    have ho := okn_tup hv
    have fx := fun {S : Sto} => f_is_fraction (n := n) (S := S) (ho x (by simp))
    have fy := fun {S : Sto} => f_is_fraction (n := n) (S := S) (ho y (by simp))
    cases h1 : isF x with
    | false => simp [R.bind_ok, R.bind_exc, bindP_ok, bindP_exc, bindD_ok, bindD_exc, ofO_some, rsof_ok, rsof_exc, rsofO_some, andThen_nx, andThen_ret, andThen_exc, e_var, e_lit, e_tup, e_lst, e_neg, e_not, e_bin, e_cmp, e_chain, e_bool, e_ite, e_idx, e_cut, e_rev, e_back, e_call, e_bi, e_len, e_isi, e_fmt, e_split, e_join, q_val, q_not, q_and, q_or, and_nil, and_cons, or_nil, or_cons, ds_nil, ds_cons, vs_nil, vs_cons, bool_one, bool_cons, s_set_, s_setp_, s_ret_, s_ifs_, s_rais_, s_append_, s_expr_, s_frz_, ss_nil_, ss_cons_, getV_0, getV_s, truD_bl, truD_int, truD_lst, rdV_d, optI_0, optI_1, setV_d, setV_box, setV_t, setT_v, setT_t, setTs_0, setTs_c, setPar_0, setPar_d, setPar_box, wipe_0, wipe_c, obind_some, noFn_non, noFn_bl, noFn_int, noFn_str, noFn_lst, noFn_tup, add_ii, sub_ii, lt_ii, le_ii, gt_ii, ge_ii, idx_t, idx_l, at_0, at_1, at_2, at_3, at_4, cut_l, cut_t, cutL_1, cutL_3, cutL_t3, len_l, len_t, tup_l, list_t, int_i, leave_d0, leave_n0, leave_x0, f_is_row (n := n + 1) (okn_no hv), hr, fx, h1, isK]
    | true => cases h2 : isF y with
      | false => simp [R.bind_ok, R.bind_exc, bindP_ok, bindP_exc, bindD_ok, bindD_exc, ofO_some, rsof_ok, rsof_exc, rsofO_some, andThen_nx, andThen_ret, andThen_exc, e_var, e_lit, e_tup, e_lst, e_neg, e_not, e_bin, e_cmp, e_chain, e_bool, e_ite, e_idx, e_cut, e_rev, e_back, e_call, e_bi, e_len, e_isi, e_fmt, e_split, e_join, q_val, q_not, q_and, q_or, and_nil, and_cons, or_nil, or_cons, ds_nil, ds_cons, vs_nil, vs_cons, bool_one, bool_cons, s_set_, s_setp_, s_ret_, s_ifs_, s_rais_, s_append_, s_expr_, s_frz_, ss_nil_, ss_cons_, getV_0, getV_s, truD_bl, truD_int, truD_lst, rdV_d, optI_0, optI_1, setV_d, setV_box, setV_t, setT_v, setT_t, setTs_0, setTs_c, setPar_0, setPar_d, setPar_box, wipe_0, wipe_c, obind_some, noFn_non, noFn_bl, noFn_int, noFn_str, noFn_lst, noFn_tup, add_ii, sub_ii, lt_ii, le_ii, gt_ii, ge_ii, idx_t, idx_l, at_0, at_1, at_2, at_3, at_4, cut_l, cut_t, cutL_1, cutL_3, cutL_t3, len_l, len_t, tup_l, list_t, int_i, leave_d0, leave_n0, leave_x0, f_is_row (n := n + 1) (okn_no hv), hr, fx, fy, h1, h2, isK]
      | true =>
        obtain ⟨t, b, rfl, ht, hb, _⟩ := isF_ok h1
        obtain ⟨m, p, rfl, hm, hp, _⟩ := isF_ok h2
        have hk : isK l q s (.tup [.tup [.int t, .int b], .tup [.int m, .int p]]) = (decide (0 ≤ t) && decide (t ≤ l * b) && decide (q * p ≤ m) && decide (m ≤ s * p)) := by
          unfold isK
          simp only [h1, h2, Bool.true_and]
          rfl
        rw [hk]
        simp [R.bind_ok, R.bind_exc, bindP_ok, bindP_exc, bindD_ok, bindD_exc, ofO_some, rsof_ok, rsof_exc, rsofO_some, andThen_nx, andThen_ret, andThen_exc, e_var, e_lit, e_tup, e_lst, e_neg, e_not, e_bin, e_cmp, e_chain, e_bool, e_ite, e_idx, e_cut, e_rev, e_back, e_call, e_bi, e_len, e_isi, e_fmt, e_split, e_join, q_val, q_not, q_and, q_or, and_nil, and_cons, or_nil, or_cons, ds_nil, ds_cons, vs_nil, vs_cons, bool_one, bool_cons, s_set_, s_setp_, s_ret_, s_ifs_, s_rais_, s_append_, s_expr_, s_frz_, ss_nil_, ss_cons_, getV_0, getV_s, truD_bl, truD_int, truD_lst, rdV_d, optI_0, optI_1, setV_d, setV_box, setV_t, setT_v, setT_t, setTs_0, setTs_c, setPar_0, setPar_d, setPar_box, wipe_0, wipe_c, obind_some, noFn_non, noFn_bl, noFn_int, noFn_str, noFn_lst, noFn_tup, add_ii, sub_ii, lt_ii, le_ii, gt_ii, ge_ii, idx_t, idx_l, at_0, at_1, at_2, at_3, at_4, cut_l, cut_t, cutL_1, cutL_3, cutL_t3, len_l, len_t, tup_l, list_t, int_i, leave_d0, leave_n0, leave_x0, f_is_row (n := n + 1) (okn_no hv), hr, fx, fy, h1, h2, f_is_within (n := n + 1) hs ht hb hm hp]
theorem notin_go {s : Str} : cmpD .notin (.str s) (.tup [.str "go", .str "wait"]) = some (!isGo (.str s)) := by
  unfold cmpD
  simp only [flatD, List.all_cons, List.all_nil, Bool.and_self, if_true, List.any_cons, List.any_nil, Bool.or_false, eqD, isGo]
  rw [Bool.beq_comm (a := ("go" : Str)), Bool.beq_comm (a := ("wait" : Str))]
theorem f_is_event {n : Nat} {v : D} {S : Sto} (hv : okn 1 v = true) : (calls P (n + 2)).fn 9 [.d v] S = .ok (.d (.bl (isE v))) S := by
  rw [fn_step (c := c_is_event) rfl rfl]
  unfold c_is_event
  simp only [List.map_cons, List.map_nil, List.cons_append, List.nil_append, Nat.sub_self, List.replicate_zero]
  cases hr : isR v 2 2 with
  | false =>
    have hl : isE v = false := by
      unfold isE
      split
      · simp [isR] at hr
      · rfl
    simp [R.bind_ok, R.bind_exc, bindP_ok, bindP_exc, bindD_ok, bindD_exc, ofO_some, rsof_ok, rsof_exc, rsofO_some, andThen_nx, andThen_ret, andThen_exc, e_var, e_lit, e_tup, e_lst, e_neg, e_not, e_bin, e_cmp, e_chain, e_bool, e_ite, e_idx, e_cut, e_rev, e_back, e_call, e_bi, e_len, e_isi, e_fmt, e_split, e_join, q_val, q_not, q_and, q_or, and_nil, and_cons, or_nil, or_cons, ds_nil, ds_cons, vs_nil, vs_cons, bool_one, bool_cons, s_set_, s_setp_, s_ret_, s_ifs_, s_rais_, s_append_, s_expr_, s_frz_, ss_nil_, ss_cons_, getV_0, getV_s, truD_bl, truD_int, truD_lst, rdV_d, optI_0, optI_1, setV_d, setV_box, setV_t, setT_v, setT_t, setTs_0, setTs_c, setPar_0, setPar_d, setPar_box, wipe_0, wipe_c, obind_some, noFn_non, noFn_bl, noFn_int, noFn_str, noFn_lst, noFn_tup, add_ii, sub_ii, lt_ii, le_ii, gt_ii, ge_ii, idx_t, idx_l, at_0, at_1, at_2, at_3, at_4, cut_l, cut_t, cutL_1, cutL_3, cutL_t3, len_l, len_t, tup_l, list_t, int_i, leave_d0, leave_n0, leave_x0, f_is_row (n := n) (okn_no hv), hr, hl]
  | true =>
    obtain ⟨a, b, rfl⟩ := row2 hr
    have ho := okn_tup hv
    have na : noFn a = true := okn_no (ho a (by simp))
    have nb : noFn b = true := okn_no (ho b (by simp))
    have fb := fun {S : Sto} => f_is_whole (n := n) (lo := -9) (hi := 99) (S := S) nb
    cases a with
    | str s =>
      cases hg : isGo (.str s) with
      | false => simp [R.bind_ok, R.bind_exc, bindP_ok, bindP_exc, bindD_ok, bindD_exc, ofO_some, rsof_ok, rsof_exc, rsofO_some, andThen_nx, andThen_ret, andThen_exc, e_var, e_lit, e_tup, e_lst, e_neg, e_not, e_bin, e_cmp, e_chain, e_bool, e_ite, e_idx, e_cut, e_rev, e_back, e_call, e_bi, e_len, e_isi, e_fmt, e_split, e_join, q_val, q_not, q_and, q_or, and_nil, and_cons, or_nil, or_cons, ds_nil, ds_cons, vs_nil, vs_cons, bool_one, bool_cons, s_set_, s_setp_, s_ret_, s_ifs_, s_rais_, s_append_, s_expr_, s_frz_, ss_nil_, ss_cons_, getV_0, getV_s, truD_bl, truD_int, truD_lst, rdV_d, optI_0, optI_1, setV_d, setV_box, setV_t, setT_v, setT_t, setTs_0, setTs_c, setPar_0, setPar_d, setPar_box, wipe_0, wipe_c, obind_some, noFn_non, noFn_bl, noFn_int, noFn_str, noFn_lst, noFn_tup, add_ii, sub_ii, lt_ii, le_ii, gt_ii, ge_ii, idx_t, idx_l, at_0, at_1, at_2, at_3, at_4, cut_l, cut_t, cutL_1, cutL_3, cutL_t3, len_l, len_t, tup_l, list_t, int_i, leave_d0, leave_n0, leave_x0, D.cls, f_is_row (n := n) (okn_no hv), hr, notin_go, hg, isE]
      | true => simp [R.bind_ok, R.bind_exc, bindP_ok, bindP_exc, bindD_ok, bindD_exc, ofO_some, rsof_ok, rsof_exc, rsofO_some, andThen_nx, andThen_ret, andThen_exc, e_var, e_lit, e_tup, e_lst, e_neg, e_not, e_bin, e_cmp, e_chain, e_bool, e_ite, e_idx, e_cut, e_rev, e_back, e_call, e_bi, e_len, e_isi, e_fmt, e_split, e_join, q_val, q_not, q_and, q_or, and_nil, and_cons, or_nil, or_cons, ds_nil, ds_cons, vs_nil, vs_cons, bool_one, bool_cons, s_set_, s_setp_, s_ret_, s_ifs_, s_rais_, s_append_, s_expr_, s_frz_, ss_nil_, ss_cons_, getV_0, getV_s, truD_bl, truD_int, truD_lst, rdV_d, optI_0, optI_1, setV_d, setV_box, setV_t, setT_v, setT_t, setTs_0, setTs_c, setPar_0, setPar_d, setPar_box, wipe_0, wipe_c, obind_some, noFn_non, noFn_bl, noFn_int, noFn_str, noFn_lst, noFn_tup, add_ii, sub_ii, lt_ii, le_ii, gt_ii, ge_ii, idx_t, idx_l, at_0, at_1, at_2, at_3, at_4, cut_l, cut_t, cutL_1, cutL_3, cutL_t3, len_l, len_t, tup_l, list_t, int_i, leave_d0, leave_n0, leave_x0, D.cls, f_is_row (n := n) (okn_no hv), hr, notin_go, hg, fb, isE]
    | fn _ => simp [noFn] at na
    | scr _ => simp [noFn] at na
    | _ => simp [R.bind_ok, R.bind_exc, bindP_ok, bindP_exc, bindD_ok, bindD_exc, ofO_some, rsof_ok, rsof_exc, rsofO_some, andThen_nx, andThen_ret, andThen_exc, e_var, e_lit, e_tup, e_lst, e_neg, e_not, e_bin, e_cmp, e_chain, e_bool, e_ite, e_idx, e_cut, e_rev, e_back, e_call, e_bi, e_len, e_isi, e_fmt, e_split, e_join, q_val, q_not, q_and, q_or, and_nil, and_cons, or_nil, or_cons, ds_nil, ds_cons, vs_nil, vs_cons, bool_one, bool_cons, s_set_, s_setp_, s_ret_, s_ifs_, s_rais_, s_append_, s_expr_, s_frz_, ss_nil_, ss_cons_, getV_0, getV_s, truD_bl, truD_int, truD_lst, rdV_d, optI_0, optI_1, setV_d, setV_box, setV_t, setT_v, setT_t, setTs_0, setTs_c, setPar_0, setPar_d, setPar_box, wipe_0, wipe_c, obind_some, noFn_non, noFn_bl, noFn_int, noFn_str, noFn_lst, noFn_tup, add_ii, sub_ii, lt_ii, le_ii, gt_ii, ge_ii, idx_t, idx_l, at_0, at_1, at_2, at_3, at_4, cut_l, cut_t, cutL_1, cutL_3, cutL_t3, len_l, len_t, tup_l, list_t, int_i, leave_d0, leave_n0, leave_x0, D.cls, f_is_row (n := n) (okn_no hv), hr, isE, isGo]
theorem f_fits_word {n : Nat} {ls : List (List Int)} {e l q s : Int} {v : D} {S : Sto} (hv : okn 2 v = true) (hw : ∀ xs, v = .tup xs → xs.length ≤ 1000) : (calls P (n + 3)).fn 10 [.d (sD ls e l q s), .d v] S = .ok (.d (.bl (isD ls.length v))) S := by
  rw [fn_step (c := c_fits_word) rfl rfl]
  unfold c_fits_word sD
  simp only [List.map_cons, List.map_nil, List.cons_append, List.nil_append, Nat.sub_self, List.replicate_zero, List.replicate_succ, Nat.reduceSub]
  have hlen : biD .len (.tup (ls.map fun r => .tup (r.map .int))) = some (.int (ls.length : Int)) := by rw [len_t, List.length_map]
  cases hr : isR v ls.length ls.length with
  | false =>
    have hl : isD ls.length v = false := by
      cases v <;> simp [isR] at hr <;> simp [isD]
      intro h
      omega
    simp [R.bind_ok, R.bind_exc, bindP_ok, bindP_exc, bindD_ok, bindD_exc, ofO_some, rsof_ok, rsof_exc, rsofO_some, andThen_nx, andThen_ret, andThen_exc, e_var, e_lit, e_tup, e_lst, e_neg, e_not, e_bin, e_cmp, e_chain, e_bool, e_ite, e_idx, e_cut, e_rev, e_back, e_call, e_bi, e_len, e_isi, e_fmt, e_split, e_join, q_val, q_not, q_and, q_or, and_nil, and_cons, or_nil, or_cons, ds_nil, ds_cons, vs_nil, vs_cons, bool_one, bool_cons, s_set_, s_setp_, s_ret_, s_ifs_, s_rais_, s_append_, s_expr_, s_frz_, ss_nil_, ss_cons_, getV_0, getV_s, truD_bl, truD_int, truD_lst, rdV_d, optI_0, optI_1, setV_d, setV_box, setV_t, setT_v, setT_t, setTs_0, setTs_c, setPar_0, setPar_d, setPar_box, wipe_0, wipe_c, obind_some, noFn_non, noFn_bl, noFn_int, noFn_str, noFn_lst, noFn_tup, add_ii, sub_ii, lt_ii, le_ii, gt_ii, ge_ii, idx_t, idx_l, at_0, at_1, at_2, at_3, at_4, cut_l, cut_t, cutL_1, cutL_3, cutL_t3, len_l, len_t, tup_l, list_t, int_i, leave_d0, leave_n0, leave_x0, hlen, f_is_row (n := n + 1) (okn_no hv), hr, hl]
  | true =>
    obtain ⟨xs, rfl, hx⟩ : ∃ xs, v = .tup xs ∧ xs.length = ls.length := by
      cases v <;> simp [isR] at hr
      exact ⟨_, rfl, by omega⟩
    have ho := okn_tup hv
    have c1 : ∀ T : Sto, evE (calls P (n + 2)) (.comp .val [(.var 1)] (.v 3) [] (.call 9 [(.var 3)]) [3]) [some (.d (.tup [.tup (ls.map fun r => .tup (r.map .int)), .int e, .int l, .int q, .int s])), some (.d (.tup xs)), some (.d (.int (ls.length : Int))), none] T = .ok (.d (.lst ((xs.map isE).map D.bl))) T := by
      intro T
      rw [List.map_map]
      refine e_compm (k := .val) (vs := [.tup xs]) (its := xs) (fun x => .bl (isE x)) ?_ rfl (by have := hw xs rfl; unfold sizeMax; omega) fun x hx T => ?_
      · simp [R.bind_ok, R.bind_exc, bindP_ok, bindP_exc, bindD_ok, bindD_exc, ofO_some, rsof_ok, rsof_exc, rsofO_some, andThen_nx, andThen_ret, andThen_exc, e_var, e_lit, e_tup, e_lst, e_neg, e_not, e_bin, e_cmp, e_chain, e_bool, e_ite, e_idx, e_cut, e_rev, e_back, e_call, e_bi, e_len, e_isi, e_fmt, e_split, e_join, q_val, q_not, q_and, q_or, and_nil, and_cons, or_nil, or_cons, ds_nil, ds_cons, vs_nil, vs_cons, bool_one, bool_cons, s_set_, s_setp_, s_ret_, s_ifs_, s_rais_, s_append_, s_expr_, s_frz_, ss_nil_, ss_cons_, getV_0, getV_s, truD_bl, truD_int, truD_lst, rdV_d, optI_0, optI_1, setV_d, setV_box, setV_t, setT_v, setT_t, setTs_0, setTs_c, setPar_0, setPar_d, setPar_box, wipe_0, wipe_c, obind_some, noFn_non, noFn_bl, noFn_int, noFn_str, noFn_lst, noFn_tup, add_ii, sub_ii, lt_ii, le_ii, gt_ii, ge_ii, idx_t, idx_l, at_0, at_1, at_2, at_3, at_4, cut_l, cut_t, cutL_1, cutL_3, cutL_t3, len_l, len_t, tup_l, list_t, int_i, leave_d0, leave_n0, leave_x0]
      · exact ⟨[some (.d (.tup [.tup (ls.map fun r => .tup (r.map .int)), .int e, .int l, .int q, .int s])), some (.d (.tup xs)), some (.d (.int (ls.length : Int))), some (.d x)], by simp [R.bind_ok, R.bind_exc, bindP_ok, bindP_exc, bindD_ok, bindD_exc, ofO_some, rsof_ok, rsof_exc, rsofO_some, andThen_nx, andThen_ret, andThen_exc, e_var, e_lit, e_tup, e_lst, e_neg, e_not, e_bin, e_cmp, e_chain, e_bool, e_ite, e_idx, e_cut, e_rev, e_back, e_call, e_bi, e_len, e_isi, e_fmt, e_split, e_join, q_val, q_not, q_and, q_or, and_nil, and_cons, or_nil, or_cons, ds_nil, ds_cons, vs_nil, vs_cons, bool_one, bool_cons, s_set_, s_setp_, s_ret_, s_ifs_, s_rais_, s_append_, s_expr_, s_frz_, ss_nil_, ss_cons_, getV_0, getV_s, truD_bl, truD_int, truD_lst, rdV_d, optI_0, optI_1, setV_d, setV_box, setV_t, setT_v, setT_t, setTs_0, setTs_c, setPar_0, setPar_d, setPar_box, wipe_0, wipe_c, obind_some, noFn_non, noFn_bl, noFn_int, noFn_str, noFn_lst, noFn_tup, add_ii, sub_ii, lt_ii, le_ii, gt_ii, ge_ii, idx_t, idx_l, at_0, at_1, at_2, at_3, at_4, cut_l, cut_t, cutL_1, cutL_3, cutL_t3, len_l, len_t, tup_l, list_t, int_i, leave_d0, leave_n0, leave_x0], by simp [R.bind_ok, R.bind_exc, bindP_ok, bindP_exc, bindD_ok, bindD_exc, ofO_some, rsof_ok, rsof_exc, rsofO_some, andThen_nx, andThen_ret, andThen_exc, e_var, e_lit, e_tup, e_lst, e_neg, e_not, e_bin, e_cmp, e_chain, e_bool, e_ite, e_idx, e_cut, e_rev, e_back, e_call, e_bi, e_len, e_isi, e_fmt, e_split, e_join, q_val, q_not, q_and, q_or, and_nil, and_cons, or_nil, or_cons, ds_nil, ds_cons, vs_nil, vs_cons, bool_one, bool_cons, s_set_, s_setp_, s_ret_, s_ifs_, s_rais_, s_append_, s_expr_, s_frz_, ss_nil_, ss_cons_, getV_0, getV_s, truD_bl, truD_int, truD_lst, rdV_d, optI_0, optI_1, setV_d, setV_box, setV_t, setT_v, setT_t, setTs_0, setTs_c, setPar_0, setPar_d, setPar_box, wipe_0, wipe_c, obind_some, noFn_non, noFn_bl, noFn_int, noFn_str, noFn_lst, noFn_tup, add_ii, sub_ii, lt_ii, le_ii, gt_ii, ge_ii, idx_t, idx_l, at_0, at_1, at_2, at_3, at_4, cut_l, cut_t, cutL_1, cutL_3, cutL_t3, len_l, len_t, tup_l, list_t, int_i, leave_d0, leave_n0, leave_x0, f_is_event (n := n) (ho x hx)]⟩
    have hl : isD ls.length (.tup xs) = (xs.map isE).all id := by simp [isD, hx, List.all_map, Function.comp_def]
    rw [hl]
    simp [R.bind_ok, R.bind_exc, bindP_ok, bindP_exc, bindD_ok, bindD_exc, ofO_some, rsof_ok, rsof_exc, rsofO_some, andThen_nx, andThen_ret, andThen_exc, e_var, e_lit, e_tup, e_lst, e_neg, e_not, e_bin, e_cmp, e_chain, e_bool, e_ite, e_idx, e_cut, e_rev, e_back, e_call, e_bi, e_len, e_isi, e_fmt, e_split, e_join, q_val, q_not, q_and, q_or, and_nil, and_cons, or_nil, or_cons, ds_nil, ds_cons, vs_nil, vs_cons, bool_one, bool_cons, s_set_, s_setp_, s_ret_, s_ifs_, s_rais_, s_append_, s_expr_, s_frz_, ss_nil_, ss_cons_, getV_0, getV_s, truD_bl, truD_int, truD_lst, rdV_d, optI_0, optI_1, setV_d, setV_box, setV_t, setT_v, setT_t, setTs_0, setTs_c, setPar_0, setPar_d, setPar_box, wipe_0, wipe_c, obind_some, noFn_non, noFn_bl, noFn_int, noFn_str, noFn_lst, noFn_tup, add_ii, sub_ii, lt_ii, le_ii, gt_ii, ge_ii, idx_t, idx_l, at_0, at_1, at_2, at_3, at_4, cut_l, cut_t, cutL_1, cutL_3, cutL_t3, len_l, len_t, tup_l, list_t, int_i, leave_d0, leave_n0, leave_x0, hlen, f_is_row (n := n + 1) (okn_no hv), hr, c1, all_bl, -List.map_map]
theorem okn_sD {ls : List (List Int)} {e l q s : Int} : okn 3 (sD ls e l q s) = true := by simp [sD, okn, noFn]
theorem f_need_street {n : Nat} {v : D} {S : Sto} (hv : okn 3 v = true) : (calls P (n + 4)).fn 11 [.d v] S = if isS v = true then .ok (.d .non) S else .exc 1 S := by
  rw [fn_step (c := c_need_street) rfl rfl]
  unfold c_need_street
  simp only [List.map_cons, List.map_nil, List.cons_append, List.nil_append, Nat.sub_self, List.replicate_zero]
  cases h : isS v <;> simp [R.bind_ok, R.bind_exc, bindP_ok, bindP_exc, bindD_ok, bindD_exc, ofO_some, rsof_ok, rsof_exc, rsofO_some, andThen_nx, andThen_ret, andThen_exc, e_var, e_lit, e_tup, e_lst, e_neg, e_not, e_bin, e_cmp, e_chain, e_bool, e_ite, e_idx, e_cut, e_rev, e_back, e_call, e_bi, e_len, e_isi, e_fmt, e_split, e_join, q_val, q_not, q_and, q_or, and_nil, and_cons, or_nil, or_cons, ds_nil, ds_cons, vs_nil, vs_cons, bool_one, bool_cons, s_set_, s_setp_, s_ret_, s_ifs_, s_rais_, s_append_, s_expr_, s_frz_, ss_nil_, ss_cons_, getV_0, getV_s, truD_bl, truD_int, truD_lst, rdV_d, optI_0, optI_1, setV_d, setV_box, setV_t, setT_v, setT_t, setTs_0, setTs_c, setPar_0, setPar_d, setPar_box, wipe_0, wipe_c, obind_some, noFn_non, noFn_bl, noFn_int, noFn_str, noFn_lst, noFn_tup, add_ii, sub_ii, lt_ii, le_ii, gt_ii, ge_ii, idx_t, idx_l, at_0, at_1, at_2, at_3, at_4, cut_l, cut_t, cutL_1, cutL_3, cutL_t3, len_l, len_t, tup_l, list_t, int_i, leave_d0, leave_n0, leave_x0, f_is_street (n := n) hv, h]
end E02

set_option Elab.async false
set_option linter.all false
set_option autoImplicit false
set_option maxRecDepth 100000
set_option maxHeartbeats 4000000
/-! What the law itself asks of streets, walkers, words, by the evaluator. Own work. -/
namespace E02
open PySem Ev C02 M15 M01 Tx
/-! ### values that may stand anywhere -/
def flatOk : D → Bool
  | .non => true
  | .bl _ => true
  | .int _ => true
  | .str s => PyData.strOk s
  | _ => false
def sz : Nat → Nat → D → Bool
  | 0, _, v => flatOk v
  | d + 1, w, v => flatOk v || (match v with
    | .tup xs => decide (xs.length ≤ w) && xs.all (sz d w)
    | .lst xs => decide (xs.length ≤ w) && xs.all (sz d w)
    | _ => false)
theorem flat_no {v : D} (h : flatOk v = true) : noFn v = true ∧ (∀ k, okn k v = true) ∧ ∀ m, okD m v = true := by
  cases v <;> simp [flatOk] at h
  · exact ⟨rfl, fun k => by cases k <;> rfl, fun m => okD_non⟩
  · exact ⟨rfl, fun k => by cases k <;> rfl, fun m => okD_bl⟩
  · exact ⟨rfl, fun k => by cases k <;> rfl, fun m => okD_int⟩
  · exact ⟨rfl, fun k => by cases k <;> rfl, fun m => by cases m <;> exact h⟩
theorem sz_tup {d w : Nat} {xs : List D} (h : sz d w (.tup xs) = true) : ∃ d', d = d' + 1 ∧ xs.length ≤ w ∧ ∀ x ∈ xs, sz d' w x = true := by
  cases d with
  | zero => cases h
  | succ d =>
    simp only [sz, flatOk, Bool.false_or, Bool.and_eq_true, decide_eq_true_eq, List.all_eq_true] at h
    exact ⟨d, rfl, h.1, h.2⟩
theorem sz_lst {d w : Nat} {xs : List D} (h : sz d w (.lst xs) = true) : ∃ d', d = d' + 1 ∧ xs.length ≤ w ∧ ∀ x ∈ xs, sz d' w x = true := by
  cases d with
  | zero => cases h
  | succ d =>
    simp only [sz, flatOk, Bool.false_or, Bool.and_eq_true, decide_eq_true_eq, List.all_eq_true] at h
    exact ⟨d, rfl, h.1, h.2⟩
theorem mk_tup {d w : Nat} {xs : List D} (h1 : xs.length ≤ w) (h2 : ∀ x ∈ xs, sz d w x = true) : sz (d + 1) w (.tup xs) = true := by
  simp only [sz, flatOk, Bool.false_or, Bool.and_eq_true, decide_eq_true_eq, List.all_eq_true]
  exact ⟨h1, h2⟩
theorem mk_lst {d w : Nat} {xs : List D} (h1 : xs.length ≤ w) (h2 : ∀ x ∈ xs, sz d w x = true) : sz (d + 1) w (.lst xs) = true := by
  simp only [sz, flatOk, Bool.false_or, Bool.and_eq_true, decide_eq_true_eq, List.all_eq_true]
  exact ⟨h1, h2⟩
theorem sz_flat {d w : Nat} {v : D} (h : flatOk v = true) : sz d w v = true := by
  cases d with
  | zero => exact h
  | succ d => simp [sz, h]
theorem sz_mono {w w' : Nat} (hw : w ≤ w') : ∀ {d d' : Nat} {v : D}, d ≤ d' → sz d w v = true → sz d' w' v = true
  | 0, d', v, _, h => sz_flat h
  | d + 1, 0, v, hd, _ => by omega
  | d + 1, d' + 1, v, hd, h => by
    cases v with
    | tup xs =>
      obtain ⟨e, he, h1, h2⟩ := sz_tup h
      cases he
      exact mk_tup (by omega) fun x hx => sz_mono hw (by omega) (h2 x hx)
    | lst xs =>
      obtain ⟨e, he, h1, h2⟩ := sz_lst h
      cases he
      exact mk_lst (by omega) fun x hx => sz_mono hw (by omega) (h2 x hx)
    | _ => 
      refine sz_flat ?_
      simpa [sz] using h
theorem sz_ok : ∀ {d w : Nat} {v : D}, sz d w v = true → (∀ k, okn k v = true) ∧ ∀ m, d ≤ m → okD m v = true
  | 0, w, v, h => ⟨(flat_no h).2.1, fun m _ => (flat_no h).2.2 m⟩
  | d + 1, w, v, h => by
    by_cases hf : flatOk v = true
    · exact ⟨(flat_no hf).2.1, fun m _ => (flat_no hf).2.2 m⟩
    cases v with
    | tup xs =>
      obtain ⟨e, he, h1, h2⟩ := sz_tup h
      cases he
      refine ⟨fun k => ?_, fun m hm => ?_⟩
      · cases k with
        | zero => rfl
        | succ k =>
          simp only [okn, noFn_tup, Bool.true_and, List.all_eq_true]
          exact fun x hx => (sz_ok (h2 x hx)).1 k
      · obtain ⟨m, rfl⟩ : ∃ z, m = z + 1 := ⟨m - 1, by omega⟩
        exact okD_tup fun x hx => (sz_ok (h2 x hx)).2 m (by omega)
    | lst xs =>
      obtain ⟨e, he, h1, h2⟩ := sz_lst h
      cases he
      refine ⟨fun k => ?_, fun m hm => ?_⟩
      · cases k with
        | zero => rfl
        | succ k =>
          simp only [okn, noFn_lst, Bool.true_and, List.all_eq_true]
          exact fun x hx => (sz_ok (h2 x hx)).1 k
      · obtain ⟨m, rfl⟩ : ∃ z, m = z + 1 := ⟨m - 1, by omega⟩
        exact okD_lst fun x hx => (sz_ok (h2 x hx)).2 m (by omega)
    | _ => simp_all [sz, flatOk]
/-! ### small ones -/
theorem f_truly {n : Nat} {a b : Bool} {S : Sto} : (calls P (n + 1)).fn 34 [.d (.bl a), .d (.bl b)] S = .ok (.d (.bl (a == b))) S := by
  rw [fn_step (c := c__law_truly) rfl rfl]
  unfold c__law_truly
  simp only [List.map_cons, List.map_nil, List.cons_append, List.nil_append, Nat.sub_self, List.replicate_zero]
  have h : cmpD .eq (.bl a) (.bl b) = some (a == b) := eq_ok okD_bl okD_bl
  simp [R.bind_ok, R.bind_exc, bindP_ok, bindP_exc, bindD_ok, bindD_exc, ofO_some, rsof_ok, rsof_exc, rsofO_some, andThen_nx, andThen_ret, andThen_exc, e_var, e_lit, e_tup, e_lst, e_neg, e_not, e_bin, e_cmp, e_chain, e_bool, e_ite, e_idx, e_cut, e_rev, e_back, e_call, e_bi, e_len, e_isi, e_fmt, e_split, e_join, q_val, q_not, q_and, q_or, and_nil, and_cons, or_nil, or_cons, ds_nil, ds_cons, vs_nil, vs_cons, bool_one, bool_cons, s_set_, s_setp_, s_ret_, s_ifs_, s_rais_, s_append_, s_expr_, s_frz_, ss_nil_, ss_cons_, getV_0, getV_s, truD_bl, truD_int, truD_lst, rdV_d, optI_0, optI_1, setV_d, setV_box, setV_t, setT_v, setT_t, setTs_0, setTs_c, setPar_0, setPar_d, setPar_box, wipe_0, wipe_c, obind_some, noFn_non, noFn_bl, noFn_int, noFn_str, noFn_lst, noFn_tup, add_ii, sub_ii, lt_ii, le_ii, gt_ii, ge_ii, idx_t, idx_l, at_0, at_1, at_2, at_3, at_4, cut_l, cut_t, cutL_1, cutL_3, cutL_t3, len_l, len_t, tup_l, list_t, int_i, leave_d0, leave_n0, leave_x0, D.cls, h]
/-! ### a street -/
theorem tup4 {xs : List D} (h : xs.length = 4) : ∃ a b c d, xs = [a, b, c, d] := by
  match xs, h with
  | [a, b, c, d], _ => exact ⟨a, b, c, d, rfl⟩
theorem tup2 {xs : List D} (h : xs.length = 2) : ∃ a b, xs = [a, b] := by
  match xs, h with
  | [a, b], _ => exact ⟨a, b, rfl⟩
theorem tup5 {xs : List D} (h : xs.length = 5) : ∃ a b c d e, xs = [a, b, c, d, e] := by
  match xs, h with
  | [a, b, c, d, e], _ => exact ⟨a, b, c, d, e, rfl⟩
end E02

set_option Elab.async false
set_option linter.all false
set_option autoImplicit false
set_option maxRecDepth 100000
set_option maxHeartbeats 4000000
/-! What the law itself asks of walkers and words, by the evaluator. Own work. -/
namespace E02
open PySem Ev C02 M15 M01 Tx
theorem ediv_one {a b : Int} (hb : 1 ≤ b) : (decide (a / (Int.gcd a b : Nat) = a) && decide (b / (Int.gcd a b : Nat) = b)) = decide (Int.gcd a b = 1) := by
  obtain ⟨g1, g2⟩ := gcd_pos (a := a) (b := b) (by omega)
  by_cases h : Int.gcd a b = 1
  · rw [h]
    simp
  · have h2 : (2 : Int) ≤ ((Int.gcd a b : Nat) : Int) := by omega
    have h3 : b / (Int.gcd a b : Nat) < b := by
      refine Int.ediv_lt_of_lt_mul (by omega) ?_
      have : b * 2 ≤ b * ((Int.gcd a b : Nat) : Int) := Int.mul_le_mul_of_nonneg_left h2 (by omega)
      omega
    rw [decide_eq_false h, decide_eq_false (show ¬ b / (Int.gcd a b : Nat) = b by omega), Bool.and_false]
theorem pow6 : binD .pow (.int 10) (.int 6) = some (.int 1000000) := by
  show (if (0 : Int) ≤ 6 ∧ (6 : Int) ≤ 1000 ∧ (10 : Int).natAbs < 2 ^ 64 then some (D.int ((10 : Int) ^ (6 : Int).toNat)) else none) = _
  rw [if_pos (by decide)]
  rfl
/-! ### words -/
theorem notin_gol {s : Str} (h : PyData.strOk s = true) : cmpD .notin (.str s) (.lst [.str "go", .str "wait"]) = some (!isGo (.str s)) := by
  unfold cmpD
  have h1 : okD 60 (.str s) = true := h
  have h2 : okDs 59 [.str "go", .str "wait"] = true := by decide +kernel
  simp only [h1, h2, Bool.and_self, if_true, List.any_cons, List.any_nil, Bool.or_false, eqD, isGo]
  rw [Bool.beq_comm (a := ("go" : Str)), Bool.beq_comm (a := ("wait" : Str))]
end E02

set_option Elab.async false
set_option linter.all false
set_option autoImplicit false
set_option maxRecDepth 100000
set_option maxHeartbeats 4000000
set_option exponentiation.threshold 256
/-! A drawn walker, its way, by the evaluator. Own work. -/
namespace E02
open PySem Ev C02 M15 M01 Tx
def bd (K : Nat) (x : Int) : Prop := x.natAbs < 2 ^ K
theorem bd_mono {K L : Nat} {x : Int} (h : bd K x) (hl : K ≤ L) : bd L x := Nat.lt_of_lt_of_le h (Nat.pow_le_pow_right (by decide) hl)
theorem bd_mul {K L : Nat} {x y : Int} (h : bd K x) (g : bd L y) : bd (K + L) (x * y) := natAbs_mul_lt h g
theorem bd_add {K : Nat} {x y : Int} (h : bd K x) (g : bd K y) : bd (K + 1) (x + y) := by
  unfold bd at *
  have e : 2 ^ (K + 1) = 2 ^ K + 2 ^ K := by rw [Nat.pow_succ]; omega
  have := Int.natAbs_add_le x y
  omega
theorem bd_neg {K : Nat} {x : Int} (h : bd K x) : bd K (-x) := by unfold bd at *; rw [Int.natAbs_neg]; exact h
theorem bd_sub {K : Nat} {x y : Int} (h : bd K x) (g : bd K y) : bd (K + 1) (x - y) := by
  rw [Int.sub_eq_add_neg]
  exact bd_add h (bd_neg g)
theorem bd_7 {x : Int} (h : 0 ≤ x ∧ x < 128) : bd 7 x := by unfold bd; rw [p7]; omega
theorem div_abs {a g : Int} (hg : 0 < g) : (a / g).natAbs ≤ a.natAbs := by
  by_cases h : 0 ≤ a
  · have h1 : 0 ≤ a / g := Int.ediv_nonneg h (by omega)
    have h2 : a / g ≤ a := Int.ediv_le_self g h
    omega
  · have h1 : a ≤ a / g := by
      refine Int.le_ediv_of_mul_le hg ?_
      have : a * g ≤ a * 1 := Int.mul_le_mul_of_nonpos_left (by omega) (by omega)
      omega
    have h2 : a / g ≤ 0 := by
      refine Int.ediv_le_of_le_mul hg ?_
      omega
    omega
theorem bd_div {K : Nat} {a g : Int} (h : bd K a) (hg : 0 < g) : bd K (a / g) := Nat.lt_of_le_of_lt (div_abs hg) h
theorem f_together {n K1 d1 K2 d2 : Nat} {a b c d : Int} {S : Sto} (ha : bd K1 a) (hb : bd d1 b) (hb0 : 0 < b) (hc : bd K2 c) (hd : bd d2 d) (hd0 : 0 < d) (hk : K1 + d2 + K2 + d1 < 1000000) (hdd : d1 + d2 ≤ 8999) :
    ∃ x y : Int, (calls P (n + 2)).fn 28 [.d (.tup [.int a, .int b]), .d (.tup [.int c, .int d])] S = .ok (.d (.tup [.int x, .int y])) S ∧ bd (K1 + d2 + K2 + d1 + 1) x ∧ bd (d1 + d2) y ∧ 0 < y := by
  have m1 : binD .mul (.int a) (.int d) = some (.int (a * d)) := mul_big ha hd (by omega)
  have m2 : binD .mul (.int c) (.int b) = some (.int (c * b)) := mul_big hc hb (by omega)
  have m3 : binD .mul (.int b) (.int d) = some (.int (b * d)) := mul_big hb hd (by omega)
  have h0 : 0 < b * d := Int.mul_pos hb0 hd0
  have hB : bd (d1 + d2) (b * d) := bd_mul hb hd
  have fl := f_lowest (n := n) (a := a * d + c * b) (b := b * d) (S := S) h0 (bd_mono hB hdd)
  obtain ⟨g1, g2⟩ := gcd_pos (a := a * d + c * b) h0
  have hA : bd (K1 + d2 + K2 + d1 + 1) (a * d + c * b) := bd_add (bd_mono (bd_mul ha hd) (by omega)) (bd_mono (bd_mul hc hb) (by omega))
  refine ⟨_, _, ?_, bd_div hA g1, bd_div hB g1, ?_⟩
  · rw [fn_step (c := c__law_together) rfl rfl]
    unfold c__law_together
    simp only [List.map_cons, List.map_nil, List.cons_append, List.nil_append, Nat.sub_self, List.replicate_zero]
    simp [R.bind_ok, R.bind_exc, bindP_ok, bindP_exc, bindD_ok, bindD_exc, ofO_some, rsof_ok, rsof_exc, rsofO_some, andThen_nx, andThen_ret, andThen_exc, e_var, e_lit, e_tup, e_lst, e_neg, e_not, e_bin, e_cmp, e_chain, e_bool, e_ite, e_idx, e_cut, e_rev, e_back, e_call, e_bi, e_len, e_isi, e_fmt, e_split, e_join, q_val, q_not, q_and, q_or, and_nil, and_cons, or_nil, or_cons, ds_nil, ds_cons, vs_nil, vs_cons, bool_one, bool_cons, s_set_, s_setp_, s_ret_, s_ifs_, s_rais_, s_append_, s_expr_, s_frz_, ss_nil_, ss_cons_, getV_0, getV_s, truD_bl, truD_int, truD_lst, rdV_d, optI_0, optI_1, setV_d, setV_box, setV_t, setT_v, setT_t, setTs_0, setTs_c, setPar_0, setPar_d, setPar_box, wipe_0, wipe_c, obind_some, noFn_non, noFn_bl, noFn_int, noFn_str, noFn_lst, noFn_tup, add_ii, sub_ii, lt_ii, le_ii, gt_ii, ge_ii, idx_t, idx_l, at_0, at_1, at_2, at_3, at_4, cut_l, cut_t, cutL_1, cutL_3, cutL_t3, len_l, len_t, tup_l, list_t, int_i, leave_d0, leave_n0, leave_x0, m1, m2, m3, fl]
  · refine Int.ediv_pos_of_pos_of_dvd h0 (by omega) ?_
    exact Int.gcd_dvd_right ..
theorem low_scale {a b : Int} (hb : 0 < b) : ∃ x y g : Int, 0 < g ∧ a = g * x ∧ b = g * y ∧ a / (Int.gcd a b : Nat) = x ∧ b / (Int.gcd a b : Nat) = y := by
  obtain ⟨g1, _⟩ := gcd_pos (a := a) hb
  refine ⟨a / (Int.gcd a b : Nat), b / (Int.gcd a b : Nat), _, g1, ?_, ?_, rfl, rfl⟩
  · rw [Int.mul_ediv_cancel' (Int.gcd_dvd_left ..)]
  · rw [Int.mul_ediv_cancel' (Int.gcd_dvd_right ..)]
theorem low_F {a b : Int} (ha : 0 ≤ a ∧ a ≤ 1000000) (hb : 1 ≤ b ∧ b ≤ 1000000) : isF (.tup [.int (a / (Int.gcd a b : Nat)), .int (b / (Int.gcd a b : Nat))]) = true := by
  obtain ⟨g1, _⟩ := gcd_pos (a := a) (b := b) (by omega)
  have x0 : 0 ≤ a / (Int.gcd a b : Nat) := Int.ediv_nonneg ha.1 (by omega)
  have x1 : a / (Int.gcd a b : Nat) ≤ a := Int.ediv_le_self _ ha.1
  have y1 : b / (Int.gcd a b : Nat) ≤ b := Int.ediv_le_self _ (by omega)
  have y0 : 0 < b / (Int.gcd a b : Nat) := Int.ediv_pos_of_pos_of_dvd (by omega) (by omega) (Int.gcd_dvd_right ..)
  have hg : Int.gcd (a / (Int.gcd a b : Nat)) (b / (Int.gcd a b : Nat)) = 1 := by
    obtain ⟨x, rfl⟩ := Int.eq_ofNat_of_zero_le ha.1
    obtain ⟨y, rfl⟩ := Int.eq_ofNat_of_zero_le (show 0 ≤ b by omega)
    have := Nat.gcd_div_gcd_div_gcd_of_pos_right (n := x) (m := y) (by omega)
    show Nat.gcd (((x : Nat) : Int) / ((Int.gcd ((x : Nat) : Int) ((y : Nat) : Int) : Nat) : Int)).natAbs (((y : Nat) : Int) / ((Int.gcd ((x : Nat) : Int) ((y : Nat) : Int) : Nat) : Int)).natAbs = 1
    have e : Int.gcd ((x : Nat) : Int) ((y : Nat) : Int) = Nat.gcd x y := rfl
    rw [e, ← Int.natCast_ediv, ← Int.natCast_ediv, Int.natAbs_natCast, Int.natAbs_natCast]
    exact this
  unfold isF
  simp only [isW, intV, hg, Bool.and_eq_true, decide_eq_true_eq]
  refine ⟨⟨⟨by omega, by omega⟩, by omega, by omega⟩, trivial⟩
theorem f_walker {n : Nat} {ls : List (List Int)} {e l q s : Int} {A B : Sto} {L : List Int} (hs : isS (sD ls e l q s) = true) (hq1 : 1 ≤ q ∧ q ≤ s ∧ s ≤ 3 ∧ l ≤ 20) :
    ∃ (t b m p : Int) (L' : List Int), isK l q s (.tup [.tup [.int t, .int b], .tup [.int m, .int p]]) = true ∧ (bd 10 t ∧ bd 3 b ∧ 0 < b ∧ bd 10 m ∧ bd 3 p ∧ 0 < p) ∧
      (calls P (n + 2)).fn 30 [.box A.length, .d (sD ls e l q s)] (bagS A L B) = .ok (.d (.tup [.tup [.int t, .int b], .tup [.int m, .int p]])) (bagS A L' B) := by
  have sm := sm_of hs
  have hl := sm [l] (by simp) l (by simp)
  obtain ⟨t1, t2⟩ := tk_ok (L := L) (m := 4) (by decide)
  obtain ⟨u1, u2⟩ := tk_ok (L := L.tail) (m := 6) (by decide)
  have T1 := f_take (n := n) (A := A) (B := B) (L := L) (m := 4) (by decide)
  have T2 := f_take (n := n) (A := A) (B := B) (L := L.tail) (m := 6) (by decide)
  generalize hb : 1 + tk L 4 = b at *
  generalize hp : 1 + tk L.tail 6 = p at *
  have m1 : binD .mul (.int l) (.int b) = some (.int (l * b)) := mul_big (x := 7) (y := 7) (bd_7 (by omega)) (bd_7 (by omega)) (by omega)
  have m2 : binD .mul (.int q) (.int p) = some (.int (q * p)) := mul_big (x := 7) (y := 7) (bd_7 (by omega)) (bd_7 (by omega)) (by omega)
  have m3 : binD .mul (.int (s - q)) (.int p) = some (.int ((s - q) * p)) := mul_big (x := 7) (y := 7) (bd_7 (by omega)) (bd_7 (by omega)) (by omega)
  have n1 : 0 ≤ l * b := Int.mul_nonneg (by omega) (by omega)
  have n1' : l * b ≤ 20 * 4 := by
    have := Int.mul_le_mul (show l ≤ 20 by omega) (show b ≤ 4 by omega) (show 0 ≤ b by omega) (by omega)
    omega
  have n2 : 0 ≤ q * p := Int.mul_nonneg (by omega) (by omega)
  have n3 : 0 ≤ (s - q) * p := Int.mul_nonneg (by omega) (by omega)
  have n4 : q * p + (s - q) * p = s * p := by rw [← Int.add_mul]; congr 1; omega
  have n5 : s * p ≤ 3 * 6 := by
    have := Int.mul_le_mul (show s ≤ 3 by omega) (show p ≤ 6 by omega) (show 0 ≤ p by omega) (by omega)
    omega
  have T3 := f_take (n := n) (A := A) (B := B) (L := L.tail.tail) (m := l * b + 1) (by omega)
  obtain ⟨v1, v2⟩ := tk_ok (L := L.tail.tail) (m := l * b + 1) (by omega)
  have T4 := f_take (n := n) (A := A) (B := B) (L := L.tail.tail.tail) (m := (s - q) * p + 1) (by omega)
  obtain ⟨w1, w2⟩ := tk_ok (L := L.tail.tail.tail) (m := (s - q) * p + 1) (by omega)
  generalize ha : tk L.tail.tail (l * b + 1) = a at *
  generalize hc : tk L.tail.tail.tail ((s - q) * p + 1) = c at *
  have F1 := fun {S : Sto} => f_lowest (n := n) (a := a) (b := b) (S := S) (by omega) (bd_mono (bd_7 (by omega)) (by omega))
  have F2 := fun {S : Sto} => f_lowest (n := n) (a := q * p + c) (b := p) (S := S) (by omega) (bd_mono (bd_7 (by omega)) (by omega))
  have k1 := low_F (a := a) (b := b) (by omega) (by omega)
  have k2 := low_F (a := q * p + c) (b := p) (by omega) (by omega)
  obtain ⟨x, y, g, g0, ea, eb, ex, ey⟩ := low_scale (a := a) (b := b) (by omega)
  obtain ⟨x2, y2, g2, g20, ea2, eb2, ex2, ey2⟩ := low_scale (a := q * p + c) (b := p) (by omega)
  rw [ex, ey] at F1 k1
  rw [ex2, ey2] at F2 k2
  have x0 : 0 ≤ x := by
    by_cases h : 0 ≤ x
    · exact h
    · have := Int.mul_neg_of_pos_of_neg g0 (show x < 0 by omega)
      omega
  have ya : x ≤ l * y := by
    refine Int.le_of_mul_le_mul_left (a := g) ?_ g0
    rw [← ea, show g * (l * y) = l * (g * y) by rw [← Int.mul_assoc, ← Int.mul_assoc, Int.mul_comm g l], ← eb]
    omega
  have yb : q * y2 ≤ x2 := by
    refine Int.le_of_mul_le_mul_left (a := g2) ?_ g20
    rw [← ea2, show g2 * (q * y2) = q * (g2 * y2) by rw [← Int.mul_assoc, ← Int.mul_assoc, Int.mul_comm g2 q], ← eb2]
    omega
  have yc : x2 ≤ s * y2 := by
    refine Int.le_of_mul_le_mul_left (a := g2) ?_ g20
    rw [← ea2, show g2 * (s * y2) = s * (g2 * y2) by rw [← Int.mul_assoc, ← Int.mul_assoc, Int.mul_comm g2 s], ← eb2]
    omega
  obtain ⟨i1, j1, e1, i1a, j1a, _⟩ := isF_ok k1
  obtain ⟨i2, j2, e2, i2a, j2a, _⟩ := isF_ok k2
  cases e1
  cases e2
  have xl : x ≤ a := by rw [← ex]; exact Int.ediv_le_self _ (by omega)
  have yl : y ≤ b := by rw [← ey]; exact Int.ediv_le_self _ (by omega)
  have xl2 : x2 ≤ q * p + c := by rw [← ex2]; exact Int.ediv_le_self _ (by omega)
  have yl2 : y2 ≤ p := by rw [← ey2]; exact Int.ediv_le_self _ (by omega)
  have q0 : 0 ≤ q * y2 := Int.mul_nonneg (by omega) (by omega)
  refine ⟨x, y, x2, y2, L.tail.tail.tail.tail, ?_, ?_, ?_⟩
  · unfold isK
    simp only [k1, k2, frT, frB, intV, Bool.true_and, Bool.and_eq_true, decide_eq_true_eq]
    exact ⟨⟨⟨decide_eq_true x0, decide_eq_true ya⟩, decide_eq_true yb⟩, decide_eq_true yc⟩
  · have t10 : (2 : Nat) ^ 10 = 1024 := by decide
    have t3 : (2 : Nat) ^ 3 = 8 := by decide
    unfold bd
    rw [t10, t3]
    omega
  · rw [fn_stepk (c := c__law_walker) rfl rfl bag_len]
    unfold c__law_walker
    simp only [List.map_cons, List.map_nil, List.cons_append, List.nil_append, Nat.sub_self, List.replicate_zero, List.replicate_succ, Nat.reduceSub]
    have i2 : idxD (sD ls e l q s) (.int 2) = some (.int l) := by simp only [sD, idx_t, at_2]
    have i3 : idxD (sD ls e l q s) (.int 3) = some (.int q) := by simp only [sD, idx_t, at_3]
    have i4 : idxD (sD ls e l q s) (.int 4) = some (.int s) := by simp only [sD, idx_t, at_4]
    simp [R.bind_ok, R.bind_exc, bindP_ok, bindP_exc, bindD_ok, bindD_exc, ofO_some, rsof_ok, rsof_exc, rsofO_some, andThen_nx, andThen_ret, andThen_exc, e_var, e_lit, e_tup, e_lst, e_neg, e_not, e_bin, e_cmp, e_chain, e_bool, e_ite, e_idx, e_cut, e_rev, e_back, e_call, e_bi, e_len, e_isi, e_fmt, e_split, e_join, q_val, q_not, q_and, q_or, and_nil, and_cons, or_nil, or_cons, ds_nil, ds_cons, vs_nil, vs_cons, bool_one, bool_cons, s_set_, s_setp_, s_ret_, s_ifs_, s_rais_, s_append_, s_expr_, s_frz_, ss_nil_, ss_cons_, getV_0, getV_s, truD_bl, truD_int, truD_lst, rdV_d, optI_0, optI_1, setV_d, setV_box, setV_t, setT_v, setT_t, setTs_0, setTs_c, setPar_0, setPar_d, setPar_box, wipe_0, wipe_c, obind_some, noFn_non, noFn_bl, noFn_int, noFn_str, noFn_lst, noFn_tup, add_ii, sub_ii, lt_ii, le_ii, gt_ii, ge_ii, idx_t, idx_l, at_0, at_1, at_2, at_3, at_4, cut_l, cut_t, cutL_1, cutL_3, cutL_t3, len_l, len_t, tup_l, list_t, int_i, leave_d0, leave_n0, leave_x0, T1, T2, hb, hp, i2, i3, i4, m1, m2, m3, T3, T4, ha, hc, F1, F2, bag_leave]
end E02

set_option Elab.async false
set_option linter.all false
set_option autoImplicit false
set_option maxRecDepth 100000
set_option maxHeartbeats 4000000
set_option exponentiation.threshold 256
/-! Fractions, lights, the program's way of a walker, by the evaluator. Own work. -/
namespace E02
open PySem Ev C02 M15 M01 M02 Tx
def fD (x : Int × Int) : D := .tup [.int x.1, .int x.2]
theorem lw_bd1 {K : Nat} {a b : Int} (h : bd K a) (hb : 0 < b) : bd K (lw a b).1 := bd_div h (gpos hb)
theorem lw_bd2 {K : Nat} {a b : Int} (h : bd K b) (hb : 0 < b) : bd K (lw a b).2 := bd_div h (gpos hb)
theorem f_low {n : Nat} {a b : Int} {S : Sto} (hb : 0 < b) (hB : bd 8990 b) : (calls P (n + 2)).fn 1 [.d (.int a), .d (.int b)] S = .ok (.d (fD (lw a b))) S := by
  have hB' : bd 8999 b := bd_mono hB (by omega)
  have hB2 : b.natAbs < 2 ^ 9000 := bd_mono (K := 8999) (L := 9000) hB' (by omega)
  obtain ⟨g1, g2⟩ := gcd_pos (a := a) hb
  have hg : ((Int.gcd a b : Nat) : Int).natAbs < 2 ^ 8999 := by
    rw [Int.natAbs_natCast]
    exact Nat.lt_of_le_of_lt g2 hB'
  have d1 := fdiv_ii (i := a) g1 (log_lt hg)
  have d2 := fdiv_ii (i := b) g1 (log_lt hg)
  have fd := fun {S : Sto} => f_divisor (n := n) (a := a) (b := b) (S := S) hB2
  rw [fn_step (c := c_lowest) rfl rfl]
  unfold c_lowest
  simp only [List.map_cons, List.map_nil, List.cons_append, List.nil_append, Nat.sub_self, List.replicate_zero, List.replicate_succ, Nat.reduceSub]
  simp [R.bind_ok, R.bind_exc, bindP_ok, bindP_exc, bindD_ok, bindD_exc, ofO_some, rsof_ok, rsof_exc, rsofO_some, andThen_nx, andThen_ret, andThen_exc, e_var, e_lit, e_tup, e_lst, e_neg, e_not, e_bin, e_cmp, e_chain, e_bool, e_ite, e_idx, e_cut, e_rev, e_back, e_call, e_bi, e_len, e_isi, e_fmt, e_split, e_join, q_val, q_not, q_and, q_or, and_nil, and_cons, or_nil, or_cons, ds_nil, ds_cons, vs_nil, vs_cons, bool_one, bool_cons, s_set_, s_setp_, s_ret_, s_ifs_, s_rais_, s_append_, s_expr_, s_frz_, ss_nil_, ss_cons_, getV_0, getV_s, truD_bl, truD_int, truD_lst, rdV_d, optI_0, optI_1, setV_d, setV_box, setV_t, setT_v, setT_t, setTs_0, setTs_c, setPar_0, setPar_d, setPar_box, wipe_0, wipe_c, obind_some, noFn_non, noFn_bl, noFn_int, noFn_str, noFn_lst, noFn_tup, add_ii, sub_ii, lt_ii, le_ii, gt_ii, ge_ii, idx_t, idx_l, at_0, at_1, at_2, at_3, at_4, cut_l, cut_t, cutL_1, cutL_3, cutL_t3, len_l, len_t, tup_l, list_t, int_i, leave_d0, leave_n0, leave_x0, fd, d1, d2, fD, lw]
theorem f_tog {n K1 d1 K2 d2 : Nat} {x y : Int × Int} {S : Sto} (ha : bd K1 x.1) (hb : bd d1 x.2) (hb0 : 0 < x.2) (hc : bd K2 y.1) (hd : bd d2 y.2) (hd0 : 0 < y.2) (hk : K1 + d2 + K2 + d1 < 1000000) (hdd : d1 + d2 ≤ 8999) :
    (calls P (n + 2)).fn 28 [.d (fD x), .d (fD y)] S = .ok (.d (fD (tog x y))) S ∧ bd (K1 + d2 + K2 + d1 + 1) (tog x y).1 ∧ bd (d1 + d2) (tog x y).2 := by
  obtain ⟨a, b⟩ := x
  obtain ⟨c, d⟩ := y
  simp only at *
  have m1 : binD .mul (.int a) (.int d) = some (.int (a * d)) := mul_big ha hd (by omega)
  have m2 : binD .mul (.int c) (.int b) = some (.int (c * b)) := mul_big hc hb (by omega)
  have m3 : binD .mul (.int b) (.int d) = some (.int (b * d)) := mul_big hb hd (by omega)
  have h0 : 0 < b * d := Int.mul_pos hb0 hd0
  have hB : bd (d1 + d2) (b * d) := bd_mul hb hd
  have fl := fun {S : Sto} => f_lowest (n := n) (a := a * d + c * b) (b := b * d) (S := S) h0 (bd_mono hB hdd)
  have hA : bd (K1 + d2 + K2 + d1 + 1) (a * d + c * b) := bd_add (bd_mono (bd_mul ha hd) (by omega)) (bd_mono (bd_mul hc hb) (by omega))
  refine ⟨?_, lw_bd1 hA h0, lw_bd2 hB h0⟩
  rw [fn_step (c := c__law_together) rfl rfl]
  unfold c__law_together fD
  simp only [List.map_cons, List.map_nil, List.cons_append, List.nil_append, Nat.sub_self, List.replicate_zero]
  simp [R.bind_ok, R.bind_exc, bindP_ok, bindP_exc, bindD_ok, bindD_exc, ofO_some, rsof_ok, rsof_exc, rsofO_some, andThen_nx, andThen_ret, andThen_exc, e_var, e_lit, e_tup, e_lst, e_neg, e_not, e_bin, e_cmp, e_chain, e_bool, e_ite, e_idx, e_cut, e_rev, e_back, e_call, e_bi, e_len, e_isi, e_fmt, e_split, e_join, q_val, q_not, q_and, q_or, and_nil, and_cons, or_nil, or_cons, ds_nil, ds_cons, vs_nil, vs_cons, bool_one, bool_cons, s_set_, s_setp_, s_ret_, s_ifs_, s_rais_, s_append_, s_expr_, s_frz_, ss_nil_, ss_cons_, getV_0, getV_s, truD_bl, truD_int, truD_lst, rdV_d, optI_0, optI_1, setV_d, setV_box, setV_t, setT_v, setT_t, setTs_0, setTs_c, setPar_0, setPar_d, setPar_box, wipe_0, wipe_c, obind_some, noFn_non, noFn_bl, noFn_int, noFn_str, noFn_lst, noFn_tup, add_ii, sub_ii, lt_ii, le_ii, gt_ii, ge_ii, idx_t, idx_l, at_0, at_1, at_2, at_3, at_4, cut_l, cut_t, cutL_1, cutL_3, cutL_t3, len_l, len_t, tup_l, list_t, int_i, leave_d0, leave_n0, leave_x0, m1, m2, m3, fl, tog, lw]
theorem fur_bd {K d : Nat} {x w : Int × Int} {k : Int} (hx : bd K x.1) (hb : bd d x.2) (hb0 : 0 < x.2) (hm : bd 10 w.1) (hp : bd 8 w.2) (hp0 : 0 < w.2) (hk : 0 ≤ k ∧ k ≤ 20) (hKd : d + 9 ≤ K) : bd (K + 9) (fur x w k).1 ∧ bd (d + 8) (fur x w k).2 := by
  have h0 : 0 < x.2 * w.2 := Int.mul_pos hb0 hp0
  have bk : bd 7 k := bd_7 (by omega)
  have b1 : bd (K + 8) (x.1 * w.2) := bd_mul hx hp
  have b5 : bd 5 k := by
    unfold bd
    have : (2 : Nat) ^ 5 = 32 := by decide
    rw [this]; omega
  have b2 : bd (15 + d) (w.1 * k * x.2) := bd_mul (bd_mul hm b5) hb
  exact ⟨lw_bd1 (bd_add b1 (bd_mono b2 (by omega))) h0, lw_bd2 (bd_mul hb hp) h0⟩
theorem f_further {n K d : Nat} {x w : Int × Int} {k : Int} {S : Sto} (hx : bd K x.1) (hb : bd d x.2) (hb0 : 0 < x.2) (hm : bd 10 w.1) (hp : bd 8 w.2) (hp0 : 0 < w.2) (hk : 0 ≤ k ∧ k ≤ 20) (hK : K ≤ 10000) (hd : d ≤ 1000) :
    (calls P (n + 3)).fn 13 [.d (fD x), .d (fD w), .d (.int k)] S = .ok (.d (fD (fur x w k))) S := by
  obtain ⟨a, b⟩ := x
  obtain ⟨m, p⟩ := w
  simp only at *
  have bk : bd 7 k := bd_7 (by omega)
  have m1 : binD .mul (.int a) (.int p) = some (.int (a * p)) := mul_big hx hp (by omega)
  have m2 : binD .mul (.int m) (.int k) = some (.int (m * k)) := mul_big hm bk (by omega)
  have m3 : binD .mul (.int (m * k)) (.int b) = some (.int (m * k * b)) := mul_big (bd_mul hm bk) hb (by omega)
  have m4 : binD .mul (.int b) (.int p) = some (.int (b * p)) := mul_big hb hp (by omega)
  have h0 : 0 < b * p := Int.mul_pos hb0 hp0
  have fl := fun {S : Sto} => f_low (n := n) (a := a * p + m * k * b) (b := b * p) (S := S) h0 (bd_mono (bd_mul hb hp) (by omega))
  rw [fn_step (c := c_further) rfl rfl]
  unfold c_further fD
  simp only [List.map_cons, List.map_nil, List.cons_append, List.nil_append, Nat.sub_self, List.replicate_zero]
  simp [R.bind_ok, R.bind_exc, bindP_ok, bindP_exc, bindD_ok, bindD_exc, ofO_some, rsof_ok, rsof_exc, rsofO_some, andThen_nx, andThen_ret, andThen_exc, e_var, e_lit, e_tup, e_lst, e_neg, e_not, e_bin, e_cmp, e_chain, e_bool, e_ite, e_idx, e_cut, e_rev, e_back, e_call, e_bi, e_len, e_isi, e_fmt, e_split, e_join, q_val, q_not, q_and, q_or, and_nil, and_cons, or_nil, or_cons, ds_nil, ds_cons, vs_nil, vs_cons, bool_one, bool_cons, s_set_, s_setp_, s_ret_, s_ifs_, s_rais_, s_append_, s_expr_, s_frz_, ss_nil_, ss_cons_, getV_0, getV_s, truD_bl, truD_int, truD_lst, rdV_d, optI_0, optI_1, setV_d, setV_box, setV_t, setT_v, setT_t, setTs_0, setTs_c, setPar_0, setPar_d, setPar_box, wipe_0, wipe_c, obind_some, noFn_non, noFn_bl, noFn_int, noFn_str, noFn_lst, noFn_tup, add_ii, sub_ii, lt_ii, le_ii, gt_ii, ge_ii, idx_t, idx_l, at_0, at_1, at_2, at_3, at_4, cut_l, cut_t, cutL_1, cutL_3, cutL_t3, len_l, len_t, tup_l, list_t, int_i, leave_d0, leave_n0, leave_x0, m1, m2, m3, m4, fl, fur, lw, fD]
/-! ### a light -/
theorem bd_8 {x : Int} (h : 0 ≤ x ∧ x < 256) : bd 8 x := by
  unfold bd
  have : (2 : Nat) ^ 8 = 256 := by decide
  rw [this]; omega
theorem bd_one {K : Nat} : bd (K + 1) 1 := bd_mono (K := 1) (by unfold bd; decide) (by omega)
structure LOk (g r sh : Int) : Prop where
  r0 : 0 < r
  g0 : 0 ≤ g ∧ g < 100
  r1 : r < 100
  s0 : 0 ≤ sh ∧ sh < 100
theorem light_bd {K d : Nat} {g r sh : Int} {x : Int × Int} (L : LOk g r sh) (hx : bd K x.1) (hb : bd d x.2) (hb0 : 0 < x.2) (hKd : d + 7 ≤ K) :
    bd (K + 1) (x.1 - sh * x.2) ∧ bd (K + 1) (tms g r sh x) ∧ bd (K + 10) (bgn g r sh x) ∧ bd (K + 12) (bgn g r sh x + g + r) := by
  have b1 : bd 7 sh := bd_7 ⟨L.s0.1, by have := L.s0.2; omega⟩
  have b2 : bd 8 (g + r) := bd_8 (by have := L.g0; have := L.r0; have := L.r1; omega)
  have b3 : bd K (sh * x.2) := bd_mono (bd_mul b1 hb) (by omega)
  have b4 : bd (K + 1) (x.1 - sh * x.2) := bd_sub hx b3
  have p5 : 0 < x.2 * (g + r) := Int.mul_pos hb0 (by have := L.g0; have := L.r0; omega)
  have b6 : bd (K + 1) (tms g r sh x) := bd_div b4 p5
  have b7 : bd (K + 10) (bgn g r sh x) := bd_mono (bd_add (K := K + 9) (bd_mono b1 (by omega)) (bd_mono (bd_mul b6 b2) (by omega))) (by omega)
  exact ⟨b4, b6, b7, bd_add (bd_add b7 (bd_mono (bd_7 (x := g) (by have := L.g0; omega)) (by omega))) (bd_mono (bd_7 (x := r) (by have := L.r0; have := L.r1; omega)) (by omega))⟩
theorem f_event {n K d : Nat} {pl g r sh : Int} {x : Int × Int} {S : Sto} (L : LOk g r sh) (hx : bd K x.1) (hb : bd d x.2) (hb0 : 0 < x.2) (hKd : d + 7 ≤ K) (hK : K ≤ 10000) (hd : d ≤ 1000) :
    (calls P (n + 1)).fn 14 [.d (.tup [.int pl, .int g, .int r, .int sh]), .d (fD x)] S = .ok (.d (.tup [evD g r sh x, fD (onw g r sh x)])) S := by
  obtain ⟨c4, c6, c7, c9⟩ := light_bd L hx hb hb0 hKd
  obtain ⟨t, b⟩ := x
  simp only at *
  have b1 : bd 7 sh := bd_7 ⟨L.s0.1, by have := L.s0.2; omega⟩
  have b2 : bd 8 (g + r) := bd_8 (by have := L.g0; have := L.r0; have := L.r1; omega)
  have p5 : 0 < (g + r) * b := Int.mul_pos (by have := L.g0; have := L.r0; omega) hb0
  have m1 : binD .mul (.int sh) (.int b) = some (.int (sh * b)) := mul_big b1 hb (by omega)
  have m2 : binD .mul (.int (g + r)) (.int b) = some (.int ((g + r) * b)) := mul_big b2 hb (by omega)
  have f1 : binD .fdiv (.int (t - sh * b)) (.int ((g + r) * b)) = some (.int (tms g r sh (t, b))) := by
    rw [fdiv_ii p5 (log_lt (bd_mono (bd_mul b2 hb) (by omega)))]
    unfold tms
    simp only
    rw [Int.mul_comm b (g + r)]
  have eb : sh + tms g r sh (t, b) * (g + r) = bgn g r sh (t, b) := rfl
  have m3 : binD .mul (.int (tms g r sh (t, b))) (.int (g + r)) = some (.int (tms g r sh (t, b) * (g + r))) := mul_big c6 b2 (by omega)
  have c8 : bd (K + 11) (bgn g r sh (t, b) + g) := bd_add c7 (bd_mono (bd_7 (x := g) (by have := L.g0; omega)) (by omega))
  have m4 : binD .mul (.int (bgn g r sh (t, b) + g)) (.int b) = some (.int ((bgn g r sh (t, b) + g) * b)) := mul_big c8 hb (by omega)
  rw [fn_step (c := c_event_at) rfl rfl]
  unfold c_event_at fD
  simp only [List.map_cons, List.map_nil, List.cons_append, List.nil_append, Nat.sub_self, List.replicate_zero, List.replicate_succ, Nat.reduceSub]
  cases hg : goes g r sh (t, b) with
  | true =>
    have hlt : t < (bgn g r sh (t, b) + g) * b := by simpa [goes] using hg
    simp [R.bind_ok, R.bind_exc, bindP_ok, bindP_exc, bindD_ok, bindD_exc, ofO_some, rsof_ok, rsof_exc, rsofO_some, andThen_nx, andThen_ret, andThen_exc, e_var, e_lit, e_tup, e_lst, e_neg, e_not, e_bin, e_cmp, e_chain, e_bool, e_ite, e_idx, e_cut, e_rev, e_back, e_call, e_bi, e_len, e_isi, e_fmt, e_split, e_join, q_val, q_not, q_and, q_or, and_nil, and_cons, or_nil, or_cons, ds_nil, ds_cons, vs_nil, vs_cons, bool_one, bool_cons, s_set_, s_setp_, s_ret_, s_ifs_, s_rais_, s_append_, s_expr_, s_frz_, ss_nil_, ss_cons_, getV_0, getV_s, truD_bl, truD_int, truD_lst, rdV_d, optI_0, optI_1, setV_d, setV_box, setV_t, setT_v, setT_t, setTs_0, setTs_c, setPar_0, setPar_d, setPar_box, wipe_0, wipe_c, obind_some, noFn_non, noFn_bl, noFn_int, noFn_str, noFn_lst, noFn_tup, add_ii, sub_ii, lt_ii, le_ii, gt_ii, ge_ii, idx_t, idx_l, at_0, at_1, at_2, at_3, at_4, cut_l, cut_t, cutL_1, cutL_3, cutL_t3, len_l, len_t, tup_l, list_t, int_i, leave_d0, leave_n0, leave_x0, m1, m2, f1, m3, eb, m4, hlt, evD, onw, hg]
  | false =>
    have hlt : ¬ t < (bgn g r sh (t, b) + g) * b := by simpa [goes] using hg
    simp [R.bind_ok, R.bind_exc, bindP_ok, bindP_exc, bindD_ok, bindD_exc, ofO_some, rsof_ok, rsof_exc, rsofO_some, andThen_nx, andThen_ret, andThen_exc, e_var, e_lit, e_tup, e_lst, e_neg, e_not, e_bin, e_cmp, e_chain, e_bool, e_ite, e_idx, e_cut, e_rev, e_back, e_call, e_bi, e_len, e_isi, e_fmt, e_split, e_join, q_val, q_not, q_and, q_or, and_nil, and_cons, or_nil, or_cons, ds_nil, ds_cons, vs_nil, vs_cons, bool_one, bool_cons, s_set_, s_setp_, s_ret_, s_ifs_, s_rais_, s_append_, s_expr_, s_frz_, ss_nil_, ss_cons_, getV_0, getV_s, truD_bl, truD_int, truD_lst, rdV_d, optI_0, optI_1, setV_d, setV_box, setV_t, setT_v, setT_t, setTs_0, setTs_c, setPar_0, setPar_d, setPar_box, wipe_0, wipe_c, obind_some, noFn_non, noFn_bl, noFn_int, noFn_str, noFn_lst, noFn_tup, add_ii, sub_ii, lt_ii, le_ii, gt_ii, ge_ii, idx_t, idx_l, at_0, at_1, at_2, at_3, at_4, cut_l, cut_t, cutL_1, cutL_3, cutL_t3, len_l, len_t, tup_l, list_t, int_i, leave_d0, leave_n0, leave_x0, m1, m2, f1, m3, eb, m4, hlt, evD, onw, hg]
end E02

set_option Elab.async false
set_option linter.all false
set_option autoImplicit false
set_option maxRecDepth 100000
set_option maxHeartbeats 4000000
set_option exponentiation.threshold 256
/-! The two ways of a walker, by the evaluator. Own work. -/
namespace E02
open PySem Ev C02 M15 M01 M02 Tx
def evOk (v : D) : Prop := ∃ (s : Str) (i : Int), v = .tup [.str s, .int i] ∧ PyData.strOk s = true
theorem evD_ok {g r sh : Int} {x : Int × Int} : evOk (evD g r sh x) := by
  unfold evD
  split
  · exact ⟨_, _, rfl, by decide +kernel⟩
  · exact ⟨_, _, rfl, by decide +kernel⟩
structure Bd (i : Nat) (s : WS) : Prop where
  x1 : bd (16 + 100 * i) s.x.1
  x2 : bd (3 + 9 * i) s.x.2
  d1 : bd (1 + 2000 * i) s.dl.1
  d2 : bd (1 + 100 * i) s.dl.2
  el : s.ev.length = i
  ek : ∀ v ∈ s.ev, evOk v
structure WOk (w : Int × Int) : Prop where
  m : bd 10 w.1
  p : bd 8 w.2
  p0 : 0 < w.2
theorem dly_bd {K d M c : Nat} {g r sh : Int} {x dl : Int × Int} (L : LOk g r sh) (hx : bd K x.1) (hb : bd d x.2) (hb0 : 0 < x.2) (hKd : d + 7 ≤ K) (h1 : bd M dl.1) (h2 : bd c dl.2) (h0 : 0 < dl.2) :
    bd (M + c + K + 3 * d + 40 + K) (dly g r sh x dl).1 ∧ bd (c + d + 1) (dly g r sh x dl).2 ∧ 0 < (dly g r sh x dl).2 := by
  unfold dly
  split
  · exact ⟨bd_mono h1 (by omega), bd_mono h2 (by omega), h0⟩
  · obtain ⟨_, _, _, c9⟩ := light_bd L hx hb hb0 hKd
    have q0 : 0 < (1 : Int) * x.2 := by rw [Int.one_mul]; exact hb0
    have a1 : bd (K + 12 + d + K + 1 + 1) ((bgn g r sh x + g + r) * x.2 + -x.1 * 1) := bd_add (bd_mono (bd_mul c9 hb) (by omega)) (bd_mono (bd_mul (bd_neg hx) (bd_one (K := 0))) (by omega))
    have a2 : bd (1 + d) (1 * x.2) := bd_mul (bd_one (K := 0)) hb
    have b1 : bd (K + 12 + d + K + 1 + 1) (tog (bgn g r sh x + g + r, 1) (-x.1, x.2)).1 := lw_bd1 a1 q0
    have b2 : bd (1 + d) (tog (bgn g r sh x + g + r, 1) (-x.1, x.2)).2 := lw_bd2 a2 q0
    have b0 : 0 < (tog (bgn g r sh x + g + r, 1) (-x.1, x.2)).2 := lw_pos q0
    generalize tog (bgn g r sh x + g + r, 1) (-x.1, x.2) = y at *
    have p0 : 0 < dl.2 * y.2 := Int.mul_pos h0 b0
    have c1 : bd (M + (1 + d) + (K + 12 + d + K + 1 + 1 + c) + 1) (dl.1 * y.2 + y.1 * dl.2) := bd_add (bd_mono (bd_mul h1 b2) (by omega)) (bd_mono (bd_mul b1 h2) (by omega))
    have c2 : bd (c + (1 + d)) (dl.2 * y.2) := bd_mul h2 b2
    exact ⟨bd_mono (lw_bd1 c1 p0) (by omega), bd_mono (lw_bd2 c2 p0) (by omega), lw_pos p0⟩
theorem onw_bd {K d : Nat} {g r sh : Int} {x : Int × Int} (L : LOk g r sh) (hx : bd K x.1) (hb : bd d x.2) (hb0 : 0 < x.2) (hKd : d + 7 ≤ K) : bd (K + 12) (onw g r sh x).1 ∧ bd (d + 1) (onw g r sh x).2 := by
  unfold onw
  split
  · exact ⟨bd_mono hx (by omega), bd_mono hb (by omega)⟩
  · obtain ⟨_, _, _, c9⟩ := light_bd L hx hb hb0 hKd
    exact ⟨c9, bd_one⟩
theorem bd_step {i : Nat} {w : Int × Int} {s : WS} {pl g r sh : Int} (hi : i ≤ 3) (hw : WOk w) (L : LOk g r sh) (hk : 0 ≤ pl - s.h ∧ pl - s.h ≤ 20) (B : Bd i s) (hx : 0 < s.x.2) (hd : 0 < s.dl.2) : Bd (i + 1) (stepW w s [pl, g, r, sh]) := by
  obtain ⟨f1, f2⟩ := fur_bd B.x1 B.x2 hx hw.m hw.p hw.p0 hk (by omega)
  have c := (fur_cn (k := pl - s.h) hx hw.p0).1
  unfold stepW
  simp only
  generalize fur s.x w (pl - s.h) = x at *
  obtain ⟨o1, o2⟩ := onw_bd L f1 f2 c (by omega)
  obtain ⟨e1, e2, _⟩ := dly_bd L f1 f2 c (by omega) B.d1 B.d2 hd
  refine ⟨bd_mono o1 (by omega), bd_mono o2 (by omega), bd_mono e1 ?_, bd_mono e2 ?_, by simp [B.el], ?_⟩
  · omega
  · omega
  · intro v hv
    rcases List.mem_append.mp hv with h | h
    · exact B.ek v h
    · simp at h; subst h; exact evD_ok
/-- the lights ahead -/
theorem ahead2 {e h : Int} {row : List Int} {rest : List (List Int)} (he : e ≤ 20) (hh : 0 ≤ h) (k : lawL e h (rowD row :: rest.map rowD) = true) :
    ∃ pl g r sh, row = [pl, g, r, sh] ∧ h < pl ∧ pl < e ∧ LOk g r sh ∧ lawL e pl (rest.map rowD) = true ∧ GR g r sh := by
  unfold lawL at k
  simp only [Bool.and_eq_true] at k
  obtain ⟨k1, k2⟩ := k
  unfold lawO at k1
  split at k1
  · rename_i x y z u heq
    match row, heq with
    | [a, b, c, d], heq =>
      simp only [rowD, List.map_cons, List.map_nil, D.tup.injEq, List.cons.injEq, and_true] at heq
      obtain ⟨rfl, rfl, rfl, rfl⟩ := heq
      simp only [Bool.and_eq_true] at k1
      obtain ⟨⟨⟨i1, i2⟩, i3⟩, i4⟩ := k1
      have j1 : h + 1 ≤ a ∧ a ≤ e - 1 := (isW_int i1).2
      have j2 : 4 ≤ b ∧ b ≤ 30 := (isW_int i2).2
      have j3 : 4 ≤ c ∧ c ≤ 30 := (isW_int i3).2
      have j4 : 0 ≤ d ∧ d ≤ b + c - 1 := (isW_int i4).2
      exact ⟨a, b, c, d, rfl, by omega, by omega, ⟨by omega, by omega, by omega, by omega⟩, k2, ⟨by omega, by omega, by omega⟩⟩
    | [], heq => simp [rowD] at heq
    | [_], heq => simp [rowD] at heq
    | [_, _], heq => simp [rowD] at heq
    | [_, _, _], heq => simp [rowD] at heq
    | _ :: _ :: _ :: _ :: _ :: _, heq => simp [rowD] at heq
  · cases k1
theorem ahead {e h : Int} {row : List Int} {rest : List (List Int)} (he : e ≤ 20) (hh : 0 ≤ h) (k : lawL e h (rowD row :: rest.map rowD) = true) :
    ∃ pl g r sh, row = [pl, g, r, sh] ∧ h < pl ∧ pl < e ∧ LOk g r sh ∧ lawL e pl (rest.map rowD) = true := by
  obtain ⟨pl, g, r, sh, h1, h2, h3, h4, h5, _⟩ := ahead2 he hh k
  exact ⟨pl, g, r, sh, h1, h2, h3, h4, h5⟩
/-! ### the program's way -/
def pB : List St := [.set (.t [(.v 9), (.v 3)]) (.call 14 [(.var 2), (.call 13 [(.var 3), (.var 6), (.bin .sub (.idx (.var 2) (.lit (.int 0))) (.var 8))])]), .setp [7, 8] [(.bin .add (.var 7) (.tup [(.var 9)])), (.idx (.var 2) (.lit (.int 0)))]]
theorem p_turn {n i : Nat} {V W st : D} {w : Int × Int} {s : WS} {pl g r sh : Int} {x4 x9 : Option Val} {S : Sto} (hi : i ≤ 3) (hw : WOk w) (L : LOk g r sh) (hk : 0 ≤ pl - s.h ∧ pl - s.h ≤ 20) (B : Bd i s) (hx : 0 < s.x.2) :
    evSs (calls P (n + 3)) pB [some (.d V), some (.d W), some (.d (rowD [pl, g, r, sh])), some (.d (fD s.x)), x4, some (.d st), some (.d (fD w)), some (.d (.tup s.ev)), some (.d (.int s.h)), x9] S =
      .nx [some (.d V), some (.d W), some (.d (rowD [pl, g, r, sh])), some (.d (fD (stepW w s [pl, g, r, sh]).x)), x4, some (.d st), some (.d (fD w)), some (.d (.tup (stepW w s [pl, g, r, sh]).ev)), some (.d (.int (stepW w s [pl, g, r, sh]).h)), some (.d (evD g r sh (fur s.x w (pl - s.h))))] S := by
  obtain ⟨f1, f2⟩ := fur_bd B.x1 B.x2 hx hw.m hw.p hw.p0 hk (by omega)
  have c := (fur_cn (k := pl - s.h) hx hw.p0).1
  have F := fun {S : Sto} => f_further (n := n) (S := S) (k := pl - s.h) B.x1 B.x2 hx hw.m hw.p hw.p0 hk (by omega) (by omega)
  have E := fun {S : Sto} => f_event (n := n + 2) (pl := pl) (S := S) L f1 f2 c (by omega) (by omega) (by omega)
  have i0 : idxD (rowD [pl, g, r, sh]) (.int 0) = some (.int pl) := by simp only [rowD, List.map_cons, List.map_nil, idx_t, at_0]
  have er : rowD [pl, g, r, sh] = .tup [.int pl, .int g, .int r, .int sh] := rfl
  have ad : ∀ v : D, binD .add (.tup s.ev) (.tup [v]) = some (.tup (s.ev ++ [v])) := fun v => add_tt (by rw [sizeMax_eq', B.el]; simp; omega)
  unfold pB stepW
  simp only [ss_cons_, s_set_, e_call, vs_cons, vs_nil, e_var, getV_s, getV_0, ofO_some, R.bind_ok, e_bin, e_idx, e_lit, bindP_ok, rdV_d, i0, Option.map_some, sub_ii, F, er, E, rsof_ok, setV_t, setTs_c, setTs_0, setT_v, obind_some, List.length_cons, List.length_nil, Nat.reduceAdd, Nat.reduceLT, if_true, List.set_cons_succ, List.set_cons_zero, rsofO_some, andThen_nx, s_setp_, e_tup, ds_cons, ds_nil, ad, idx_t, at_0, setPar_d, setPar_0, ss_nil_]
theorem p_loop {n : Nat} {V W st : D} {t b m p e : Int} {S : Sto} (he : e ≤ 20) (hw : WOk (m, p)) : ∀ (rows : List (List Int)) (i : Nat) (s : WS) (x2 x4 x9 : Option Val), i + rows.length ≤ 3 → 0 ≤ s.h → s.h < e → WI t b m p s → Bd i s → lawL e s.h (rows.map rowD) = true →
    (∃ y2 y9 : Option Val, loopF (fun x r S => .ofO (setT (.v 2) x r) fun r => evSs (calls P (n + 3)) pB r S) (rows.map rowD) [some (.d V), some (.d W), x2, some (.d (fD s.x)), x4, some (.d st), some (.d (fD (m, p))), some (.d (.tup s.ev)), some (.d (.int s.h)), x9] S =
      .nx [some (.d V), some (.d W), y2, some (.d (fD (rows.foldl (stepW (m, p)) s).x)), x4, some (.d st), some (.d (fD (m, p))), some (.d (.tup (rows.foldl (stepW (m, p)) s).ev)), some (.d (.int (rows.foldl (stepW (m, p)) s).h)), y9] S) ∧
      WI t b m p (rows.foldl (stepW (m, p)) s) ∧ Bd (i + rows.length) (rows.foldl (stepW (m, p)) s) ∧ 0 ≤ (rows.foldl (stepW (m, p)) s).h ∧ (rows.foldl (stepW (m, p)) s).h < e
  | [], i, s, x2, x4, x9, _, h0, h1, I, B, _ => ⟨⟨x2, x9, rfl⟩, I, B, h0, h1⟩
  | row :: rows, i, s, x2, x4, x9, hl, h0, h1, I, B, k => by
    obtain ⟨pl, g, r, sh, rfl, a1, a2, L, k2⟩ := ahead he h0 k
    simp only [List.length_cons] at hl
    have T := p_turn (n := n) (pl := pl) (V := V) (W := W) (st := st) (x4 := x4) (x9 := x9) (S := S) (by omega) hw L (by omega) B I.cx.1
    have B2 := bd_step (pl := pl) (by omega) hw L (by omega) B I.cx.1 I.cd.1
    have I2 := step_ok (pl := pl) (g := g) (r := r) (sh := sh) hw.p0 I
    have e0 : (stepW (m, p) s [pl, g, r, sh]).h = pl := rfl
    obtain ⟨⟨y2, y9, ih⟩, ih2, ih3, ih4, ih5⟩ := p_loop (n := n) (V := V) (W := W) (st := st) (S := S) he hw rows (i + 1) (stepW (m, p) s [pl, g, r, sh]) (some (.d (rowD [pl, g, r, sh]))) x4 (some (.d (evD g r sh (fur s.x (m, p) (pl - s.h))))) (by omega) (by rw [e0]; omega) (by rw [e0]; omega) I2 B2 (by rw [e0]; exact k2)
    refine ⟨⟨y2, y9, ?_⟩, ih2, by rw [List.length_cons, show i + (rows.length + 1) = i + 1 + rows.length by omega]; exact ih3, ih4, ih5⟩
    rw [List.map_cons, List.foldl_cons]
    unfold loopF
    simp only [setT_v, List.length_cons, List.length_nil, Nat.reduceAdd, Nat.reduceLT, if_true, List.set_cons_succ, List.set_cons_zero, rsofO_some]
    rw [T, andThen_nx]
    exact ih
def w0 (x : Int × Int) : WS := ⟨0, x, [], (0, 1)⟩
theorem w0_ok {t b m p : Int} (hc : cn (t, b)) : WI t b m p (w0 (t, b)) := ⟨hc, ⟨Int.one_pos, (by decide : Int.gcd 0 1 = 1)⟩, by simp only [w0]; grind⟩
theorem w0_bd {t b : Int} (h1 : bd 10 t) (h2 : bd 3 b) : Bd 0 (w0 (t, b)) := ⟨bd_mono h1 (by omega), bd_mono h2 (by omega), Nat.two_pow_pos _, bd_one, rfl, fun v hv => by simp [w0] at hv⟩
/-- what a walker does -/
def wayW (ls : List (List Int)) (x w : Int × Int) : WS := ls.foldl (stepW w) (w0 x)
def comes (ls : List (List Int)) (e : Int) (x w : Int × Int) : Int × Int := fur (wayW ls x w).x w (e - (wayW ls x w).h)
theorem run_code' : c_run = ⟨2, 10, [.set (.t [(.v 5), (.v 6)]) (.var 1), .setp [7, 3, 8] [(.tup []), (.var 5), (.lit (.int 0))], .forr .val [(.idx (.var 0) (.lit (.int 0)))] (.v 2) pB, .set (.v 3) (.call 13 [(.var 3), (.var 6), (.bin .sub (.idx (.var 0) (.lit (.int 1))) (.var 8))]), .set (.v 4) (.call 13 [(.var 5), (.var 6), (.idx (.var 0) (.lit (.int 1)))]), .ret (.tup [(.var 7), (.var 3), (.call 1 [(.bin .sub (.bin .mul (.idx (.var 3) (.lit (.int 0))) (.idx (.var 4) (.lit (.int 1)))) (.bin .mul (.idx (.var 4) (.lit (.int 0))) (.idx (.var 3) (.lit (.int 1))))), (.bin .mul (.idx (.var 3) (.lit (.int 1))) (.idx (.var 4) (.lit (.int 1))))])])]⟩ := rfl
theorem f_prun {n : Nat} {ls : List (List Int)} {e l q s t b m p : Int} {S : Sto} (he : 1 ≤ e ∧ e ≤ 20) (hl : ls.length ≤ 3) (hs : lawL e 0 (ls.map rowD) = true) (h1 : bd 10 t) (h2 : bd 3 b) (hc : cn (t, b)) (hw : WOk (m, p)) :
    (calls P (n + 4)).fn 15 [.d (sD ls e l q s), .d (.tup [fD (t, b), fD (m, p)])] S = .ok (.d (.tup [.tup (wayW ls (t, b) (m, p)).ev, fD (comes ls e (t, b) (m, p)), fD (wayW ls (t, b) (m, p)).dl])) S := by
  obtain ⟨⟨y2, y9, lp⟩, I, B, g0, g1⟩ := p_loop (n := n) (V := sD ls e l q s) (W := .tup [fD (t, b), fD (m, p)]) (st := fD (t, b)) (S := S) he.2 hw ls 0 (w0 (t, b)) none none none (by omega) (by simp [w0]) (by simp only [w0]; omega) (w0_ok (m := m) (p := p) hc) (w0_bd h1 h2) hs
  have en := end_ok (e := e) hc.1 hw.p0 I
  change lw ((comes ls e (t, b) (m, p)).1 * (fur (t, b) (m, p) e).2 - (fur (t, b) (m, p) e).1 * (comes ls e (t, b) (m, p)).2) ((comes ls e (t, b) (m, p)).2 * (fur (t, b) (m, p) e).2) = (wayW ls (t, b) (m, p)).dl at en
  have hk : 0 ≤ e - (wayW ls (t, b) (m, p)).h ∧ e - (wayW ls (t, b) (m, p)).h ≤ 20 := by
    change 0 ≤ (wayW ls (t, b) (m, p)).h at g0
    change (wayW ls (t, b) (m, p)).h < e at g1
    omega
  change Bd (0 + ls.length) (wayW ls (t, b) (m, p)) at B
  have F1 := fun {S : Sto} => f_further (n := n) (S := S) (k := e - (wayW ls (t, b) (m, p)).h) B.x1 B.x2 I.cx.1 hw.m hw.p hw.p0 hk (by omega) (by omega)
  obtain ⟨o1, o2⟩ := fur_bd B.x1 B.x2 I.cx.1 hw.m hw.p hw.p0 hk (by omega)
  have F2 := fun {S : Sto} => f_further (n := n) (S := S) (x := (t, b)) (w := (m, p)) (k := e) (K := 13) (bd_mono h1 (by omega)) h2 hc.1 hw.m hw.p hw.p0 (by omega) (by omega) (by omega)
  obtain ⟨o3, o4⟩ := fur_bd (x := (t, b)) (w := (m, p)) (k := e) (K := 13) (bd_mono h1 (by omega)) h2 hc.1 hw.m hw.p hw.p0 (by omega) (by omega)
  have q1 := (fur_cn (x := (wayW ls (t, b) (m, p)).x) (w := (m, p)) (k := e - (wayW ls (t, b) (m, p)).h) I.cx.1 hw.p0).1
  have q2 := (fur_cn (x := (t, b)) (w := (m, p)) (k := e) hc.1 hw.p0).1
  change bd _ (comes ls e (t, b) (m, p)).1 at o1
  change bd _ (comes ls e (t, b) (m, p)).2 at o2
  change 0 < (comes ls e (t, b) (m, p)).2 at q1
  have F1' : ∀ {S : Sto}, (calls P (n + 3)).fn 13 [.d (fD (wayW ls (t, b) (m, p)).x), .d (fD (m, p)), .d (.int (e - (wayW ls (t, b) (m, p)).h))] S = .ok (.d (fD (comes ls e (t, b) (m, p)))) S := F1
  have lp' : loopF (fun x r S => .ofO (setT (.v 2) x r) fun r => evSs (calls P (n + 3)) pB r S) (ls.map rowD) [some (.d (sD ls e l q s)), some (.d (.tup [fD (t, b), fD (m, p)])), none, some (.d (fD (t, b))), none, some (.d (fD (t, b))), some (.d (fD (m, p))), some (.d (.tup [])), some (.d (.int 0)), none] S = .nx [some (.d (sD ls e l q s)), some (.d (.tup [fD (t, b), fD (m, p)])), y2, some (.d (fD (wayW ls (t, b) (m, p)).x)), none, some (.d (fD (t, b))), some (.d (fD (m, p))), some (.d (.tup (wayW ls (t, b) (m, p)).ev)), some (.d (.int (wayW ls (t, b) (m, p)).h)), y9] S := lp
  clear lp
  simp only [setT_v] at lp'
  generalize comes ls e (t, b) (m, p) = x at *
  generalize fur (t, b) (m, p) e = f at *
  have m1 : binD .mul (.int x.1) (.int f.2) = some (.int (x.1 * f.2)) := mul_big o1 o4 (by omega)
  have m2 : binD .mul (.int f.1) (.int x.2) = some (.int (f.1 * x.2)) := mul_big o3 o2 (by omega)
  have m3 : binD .mul (.int x.2) (.int f.2) = some (.int (x.2 * f.2)) := mul_big o2 o4 (by omega)
  have fl := fun {S : Sto} => f_low (n := n + 1) (a := x.1 * f.2 - f.1 * x.2) (b := x.2 * f.2) (S := S) (Int.mul_pos q1 q2) (bd_mono (bd_mul o2 o4) (by omega))
  rw [en] at fl
  have i0 : idxD (sD ls e l q s) (.int 0) = some (.tup (ls.map rowD)) := by simp only [sD, idx_t, at_0]; rfl
  have i1 : idxD (sD ls e l q s) (.int 1) = some (.int e) := by simp only [sD, idx_t, at_1]
  have hwk : walkD .val [.tup (ls.map rowD)] = some (ls.map rowD) := rfl
  have ix0 : idxD (fD x) (.int 0) = some (.int x.1) := by simp only [fD, idx_t, at_0]
  have ix1 : idxD (fD x) (.int 1) = some (.int x.2) := by simp only [fD, idx_t, at_1]
  have if0 : idxD (fD f) (.int 0) = some (.int f.1) := by simp only [fD, idx_t, at_0]
  have if1 : idxD (fD f) (.int 1) = some (.int f.2) := by simp only [fD, idx_t, at_1]
  rw [fn_step (c := c_run) rfl rfl, run_code']
  simp only [List.map_cons, List.map_nil, List.cons_append, List.nil_append, Nat.sub_self, List.replicate_zero, List.replicate_succ, Nat.reduceSub]
  simp only [ss_cons_, s_set_, s_setp_, vs_cons, vs_nil, e_idx, e_var, e_lit, e_tup, ds_cons, ds_nil, getV_s, getV_0, ofO_some, R.bind_ok, bindP_ok, rdV_d, Option.map_some, rsof_ok, setPar_d, setPar_0, setV_t, setTs_c, setTs_0, setT_v, obind_some, List.length_cons, List.length_nil, Nat.reduceAdd, Nat.reduceLT, if_true, List.set_cons_succ, List.set_cons_zero, rsofO_some, andThen_nx, s_forr_, i0, hwk]
  rw [lp']
  simp only [andThen_nx, ss_cons_, s_set_, e_call, vs_cons, vs_nil, e_var, getV_s, getV_0, ofO_some, R.bind_ok, e_bin, e_idx, e_lit, bindP_ok, rdV_d, i1, Option.map_some, sub_ii, F1', F2, rsof_ok, setV_d, List.length_cons, List.length_nil, Nat.reduceAdd, Nat.reduceLT, if_true, rsofO_some, List.set_cons_succ, List.set_cons_zero, s_ret_, e_tup, ds_cons, ds_nil, ix0, ix1, if0, if1, m1, m2, m3, fl, andThen_ret, leave_d0]
end E02

set_option Elab.async false
set_option linter.all false
set_option autoImplicit false
set_option maxRecDepth 100000
set_option maxHeartbeats 4000000
set_option exponentiation.threshold 256
/-! The law's way of a walker, by the evaluator. Own work. -/
namespace E02
open PySem Ev C02 M15 M01 M02 Tx
def stepB : List St := [.setp [2, 5] [(.call 28 [(.var 2), (.idx (.var 1) (.lit (.int 1)))]), (.bin .add (.var 5) (.lit (.int 1)))]]
def waitB : List St := [.set (.v 10) (.bin .fdiv (.bin .sub (.idx (.var 2) (.lit (.int 0))) (.bin .mul (.var 9) (.idx (.var 2) (.lit (.int 1))))) (.bin .mul (.idx (.var 2) (.lit (.int 1))) (.bin .add (.var 7) (.var 8)))), .set (.v 11) (.bin .add (.var 9) (.bin .mul (.var 10) (.bin .add (.var 7) (.var 8)))), .ifs (.val (.call 27 [(.var 2), (.tup [(.bin .add (.var 11) (.var 7)), (.lit (.int 1))])])) [.set (.v 4) (.bin .add (.var 4) (.tup [(.tup [(.lit (.str "go")), (.var 10)])]))] [.set (.v 12) (.tup [(.bin .add (.bin .add (.var 11) (.var 7)) (.var 8)), (.lit (.int 1))]), .set (.v 3) (.call 28 [(.var 3), (.call 28 [(.var 12), (.tup [(.neg (.idx (.var 2) (.lit (.int 0)))), (.idx (.var 2) (.lit (.int 1)))])])]), .setp [2, 4] [(.var 12), (.bin .add (.var 4) (.tup [(.tup [(.lit (.str "wait")), (.bin .add (.var 10) (.lit (.int 1)))])]))]]]
def runB : List St := [.whil (.val (.cmp .lt (.var 5) (.var 6))) stepB, .ifs (.val (.cmp .gt (.var 8) (.lit (.int 0)))) waitB []]
theorem run_code : c__law_run = ⟨2, 13, [.setp [2, 3, 4, 5] [(.idx (.var 1) (.lit (.int 0))), (.tup [(.lit (.int 0)), (.lit (.int 1))]), (.tup []), (.lit (.int 0))], .forr .val [(.bin .add (.idx (.var 0) (.lit (.int 0))) (.tup [(.tup [(.idx (.var 0) (.lit (.int 1))), (.lit (.int 1)), (.lit (.int 0)), (.lit (.int 0))])]))] (.t [(.v 6), (.v 7), (.v 8), (.v 9)]) runB, .ret (.tup [(.var 4), (.var 2), (.var 3)])]⟩ := rfl
theorem l_while {n K d : Nat} {V X : D} {x w : Int × Int} {h0 place : Int} {x3 x4 x7 x8 x9 x10 x11 x12 : Option Val} {S : Sto} (hw : WOk w) (hx : bd K x.1) (hb : bd d x.2) (hb0 : 0 < x.2) (hKd : d + 9 ≤ K) (hK : K ≤ 10000) (hd : d ≤ 1000) (hp : place - h0 ≤ 20) :
    ∀ (k f : Nat) (h : Int), (place - h).toNat = k → h ≤ place → h0 ≤ h → k + 1 ≤ f →
    loopW (fun r S => evSs (calls P (n + 3)) stepB r S) (fun r S => evT (calls P (n + 3)) (.val (.cmp .lt (.var 5) (.var 6))) r S) f [some (.d V), some (.d (.tup [X, fD w])), some (.d (fD (fur x w (h - h0)))), x3, x4, some (.d (.int h)), some (.d (.int place)), x7, x8, x9, x10, x11, x12] S =
      .nx [some (.d V), some (.d (.tup [X, fD w])), some (.d (fD (fur x w (place - h0)))), x3, x4, some (.d (.int place)), some (.d (.int place)), x7, x8, x9, x10, x11, x12] S := by
  intro k
  induction k with
  | zero =>
    intro f h h1 h2 h3 h4
    obtain ⟨f, rfl⟩ : ∃ g, f = g + 1 := ⟨f - 1, by omega⟩
    have e : h = place := by omega
    subst e
    have hc : ¬ h < h := by omega
    unfold loopW
    simp only [q_val, e_cmp, e_var, getV_s, getV_0, ofO_some, R.bind_ok, bindD_ok, rdV_d, lt_ii, hc, decide_false, Option.map_some, truD_bl, rsof_ok, Bool.false_eq_true, if_false]
  | succ k ih =>
    intro f h h1 h2 h3 h4
    obtain ⟨f, rfl⟩ : ∃ g, f = g + 1 := ⟨f - 1, by omega⟩
    have hc : h < place := by omega
    obtain ⟨f1, f2⟩ := fur_bd (k := h - h0) hx hb hb0 hw.m hw.p hw.p0 (by omega) hKd
    have c := (fur_cn (x := x) (w := w) (k := h - h0) hb0 hw.p0).1
    obtain ⟨e1, _⟩ := f_tog (n := n + 1) (S := S) f1 f2 c hw.m hw.p hw.p0 (by omega) (by omega)
    rw [fur_s hb0 hw.p0, show h - h0 + 1 = h + 1 - h0 by omega] at e1
    have e2 := ih f (h + 1) (by omega) (by omega) (by omega) (by omega)
    unfold loopW
    simp only [q_val, e_cmp, e_var, getV_s, getV_0, ofO_some, R.bind_ok, bindD_ok, rdV_d, lt_ii, hc, decide_true, Option.map_some, truD_bl, rsof_ok, if_true]
    have st : evSs (calls P (n + 3)) stepB [some (.d V), some (.d (.tup [X, fD w])), some (.d (fD (fur x w (h - h0)))), x3, x4, some (.d (.int h)), some (.d (.int place)), x7, x8, x9, x10, x11, x12] S = .nx [some (.d V), some (.d (.tup [X, fD w])), some (.d (fD (fur x w (h + 1 - h0)))), x3, x4, some (.d (.int (h + 1))), some (.d (.int place)), x7, x8, x9, x10, x11, x12] S := by
      unfold stepB
      simp only [ss_cons_, s_setp_, vs_cons, vs_nil, e_call, e_idx, e_bin, e_var, e_lit, getV_s, getV_0, ofO_some, R.bind_ok, bindP_ok, rdV_d, idx_t, at_1, Option.map_some, e1, add_ii, rsof_ok, setPar_d, setPar_0, List.length_cons, List.length_nil, Nat.reduceAdd, Nat.reduceLT, if_true, List.set_cons_succ, List.set_cons_zero, rsofO_some, andThen_nx, ss_nil_]
    rw [st, andThen_nx]
    exact e2
theorem l_wait {n K d M c : Nat} {V W : D} {h place g r sh : Int} {x dl : Int × Int} {evs : List D} {x10 x11 x12 : Option Val} {S : Sto} (L : LOk g r sh) (hK : K ≤ 10000) (hd : d ≤ 1000) (hM : M ≤ 100000) (hc : c ≤ 2000) (hKd : d + 7 ≤ K) (ht : bd K x.1) (hb : bd d x.2) (hb0 : 0 < x.2) (hdt : bd M dl.1) (hdb : bd c dl.2) (hdb0 : 0 < dl.2) (hev : evs.length ≤ 100) :
    ∃ (y10 y11 y12 : Option Val), evSs (calls P (n + 3)) waitB [some (.d V), some (.d W), some (.d (fD x)), some (.d (fD dl)), some (.d (.tup evs)), some (.d (.int h)), some (.d (.int place)), some (.d (.int g)), some (.d (.int r)), some (.d (.int sh)), x10, x11, x12] S =
      .nx [some (.d V), some (.d W), some (.d (fD (onw g r sh x))), some (.d (fD (dly g r sh x dl))), some (.d (.tup (evs ++ [evD g r sh x]))), some (.d (.int h)), some (.d (.int place)), some (.d (.int g)), some (.d (.int r)), some (.d (.int sh)), y10, y11, y12] S := by
  obtain ⟨c4, c6, c7, c9⟩ := light_bd L ht hb hb0 hKd
  obtain ⟨t, b⟩ := x
  simp only at *
  have b1 : bd 7 sh := bd_7 ⟨L.s0.1, by have := L.s0.2; omega⟩
  have b2 : bd 8 (g + r) := bd_8 (by have := L.g0; have := L.r0; have := L.r1; omega)
  have p5 : 0 < b * (g + r) := Int.mul_pos hb0 (by have := L.g0; have := L.r0; omega)
  have m1 : binD .mul (.int sh) (.int b) = some (.int (sh * b)) := mul_big b1 hb (by omega)
  have m2 : binD .mul (.int b) (.int (g + r)) = some (.int (b * (g + r))) := mul_big hb b2 (by omega)
  have f1 : binD .fdiv (.int (t - sh * b)) (.int (b * (g + r))) = some (.int (tms g r sh (t, b))) := fdiv_ii p5 (log_lt (bd_mono (bd_mul hb b2) (by omega)))
  have eb : sh + tms g r sh (t, b) * (g + r) = bgn g r sh (t, b) := rfl
  have m3 : binD .mul (.int (tms g r sh (t, b))) (.int (g + r)) = some (.int (tms g r sh (t, b) * (g + r))) := mul_big c6 b2 (by omega)
  have c8 : bd (K + 11) (bgn g r sh (t, b) + g) := bd_add c7 (bd_mono (bd_7 (x := g) (by have := L.g0; omega)) (by omega))
  have one : bd 1 1 := by unfold bd; decide
  have L1 := fun {S : Sto} => f_less (n := n + 2) (a := t) (b := b) (c := bgn g r sh (t, b) + g) (d := 1) (S := S) (mul_big ht one (by omega)) (mul_big c8 hb (by omega))
  have ad : ∀ v : D, binD .add (.tup evs) (.tup [v]) = some (.tup (evs ++ [v])) := fun v => add_tt (by rw [sizeMax_eq']; simp; omega)
  have ex : fD (t, b) = .tup [.int t, .int b] := rfl
  cases hg : goes g r sh (t, b) with
  | true =>
    have hlt : t * 1 < (bgn g r sh (t, b) + g) * b := by simpa [goes] using hg
    refine ⟨some (.d (.int (tms g r sh (t, b)))), some (.d (.int (bgn g r sh (t, b)))), x12, ?_⟩
    unfold waitB
    simp only [ex, ss_cons_, s_set_, e_bin, e_idx, e_var, e_lit, getV_s, getV_0, ofO_some, R.bind_ok, bindP_ok, rdV_d, idx_t, at_0, at_1, Option.map_some, m1, sub_ii, add_ii, m2, f1, rsof_ok, setV_d, List.length_cons, List.length_nil, Nat.reduceAdd, Nat.reduceLT, if_true, rsofO_some, List.set_cons_succ, List.set_cons_zero, andThen_nx, m3, eb, s_ifs_, q_val, e_call, vs_cons, vs_nil, e_tup, ds_cons, ds_nil, L1, hlt, decide_true, bindD_ok, truD_bl, ad, ss_nil_, onw, dly, evD, hg]
  | false =>
    have hlt : ¬ t * 1 < (bgn g r sh (t, b) + g) * b := by simpa [goes] using hg
    obtain ⟨e1, q1, q2⟩ := f_tog (n := n + 1) (x := (bgn g r sh (t, b) + g + r, 1)) (y := (-t, b)) (S := S) c9 one Int.one_pos (bd_neg ht) hb hb0 (by omega) (by omega)
    have c0 := (tog_cn (x := (bgn g r sh (t, b) + g + r, 1)) (y := (-t, b)) Int.one_pos hb0).1
    obtain ⟨e2, _⟩ := f_tog (n := n + 1) (x := dl) (S := S) hdt hdb hdb0 q1 q2 c0 (by omega) (by omega)
    have ex1 : fD (bgn g r sh (t, b) + g + r, 1) = .tup [.int (bgn g r sh (t, b) + g + r), .int 1] := rfl
    have ex2 : fD (-t, b) = .tup [.int (-t), .int b] := rfl
    rw [ex1, ex2] at e1
    refine ⟨some (.d (.int (tms g r sh (t, b)))), some (.d (.int (bgn g r sh (t, b)))), some (.d (.tup [.int (bgn g r sh (t, b) + g + r), .int 1])), ?_⟩
    unfold waitB
    simp only [ex, ss_cons_, s_set_, e_bin, e_idx, e_var, e_lit, e_neg, getV_s, getV_0, ofO_some, R.bind_ok, bindP_ok, rdV_d, idx_t, at_0, at_1, Option.map_some, m1, sub_ii, add_ii, m2, f1, rsof_ok, setV_d, List.length_cons, List.length_nil, Nat.reduceAdd, Nat.reduceLT, if_true, rsofO_some, List.set_cons_succ, List.set_cons_zero, andThen_nx, m3, eb, s_ifs_, q_val, e_call, vs_cons, vs_nil, e_tup, ds_cons, ds_nil, L1, hlt, decide_false, Bool.false_eq_true, if_false, bindD_ok, truD_bl, e1, e2, s_setp_, setPar_d, setPar_0, ad, ss_nil_, onw, dly, evD, hg, ex1]
theorem l_loop {n : Nat} {V X : D} {t b m p e : Int} {S : Sto} (he : 1 ≤ e ∧ e ≤ 20) (hw : WOk (m, p)) : ∀ (rows : List (List Int)) (i : Nat) (s : WS) (x6 x7 x8 x9 x10 x11 x12 : Option Val), i + rows.length ≤ 3 → 0 ≤ s.h → s.h < e → WI t b m p s → Bd i s → lawL e s.h (rows.map rowD) = true →
    ∃ r : Ev.Env, loopF (fun x r S => .ofO (setT (.t [(.v 6), (.v 7), (.v 8), (.v 9)]) x r) fun r => evSs (calls P (n + 3)) runB r S) (rows.map rowD ++ [.tup [.int e, .int 1, .int 0, .int 0]]) [some (.d V), some (.d (.tup [X, fD (m, p)])), some (.d (fD s.x)), some (.d (fD s.dl)), some (.d (.tup s.ev)), some (.d (.int s.h)), x6, x7, x8, x9, x10, x11, x12] S =
      .nx r S ∧ ∃ y5 y6 y7 y8 y9 y10 y11 y12 : Option Val, r = [some (.d V), some (.d (.tup [X, fD (m, p)])), some (.d (fD (fur (rows.foldl (stepW (m, p)) s).x (m, p) (e - (rows.foldl (stepW (m, p)) s).h)))), some (.d (fD (rows.foldl (stepW (m, p)) s).dl)), some (.d (.tup (rows.foldl (stepW (m, p)) s).ev)), y5, y6, y7, y8, y9, y10, y11, y12]
  | [], i, s, x6, x7, x8, x9, x10, x11, x12, hl, h0, h1, I, B, _ => by
    have W := l_while (n := n) (V := V) (X := X) (x := s.x) (w := (m, p)) (h0 := s.h) (place := e) (x3 := some (.d (fD s.dl))) (x4 := some (.d (.tup s.ev))) (x7 := some (.d (.int 1))) (x8 := some (.d (.int 0))) (x9 := some (.d (.int 0))) (x10 := x10) (x11 := x11) (x12 := x12) (S := S) hw B.x1 B.x2 I.cx.1 (by omega) (by omega) (by omega) (by omega) (e - s.h).toNat whileMax s.h rfl (by omega) (Int.le_refl _) (by unfold whileMax; omega)
    rw [show s.h - s.h = 0 by omega, fur_0 I.cx hw.p0] at W
    have W2 := s_whil_.trans W
    refine ⟨_, ?_, some (.d (.int e)), some (.d (.int e)), some (.d (.int 1)), some (.d (.int 0)), some (.d (.int 0)), x10, x11, x12, rfl⟩
    have hset : setT (.t [(.v 6), (.v 7), (.v 8), (.v 9)]) (.tup [.int e, .int 1, .int 0, .int 0]) [some (.d V), some (.d (.tup [X, fD (m, p)])), some (.d (fD s.x)), some (.d (fD s.dl)), some (.d (.tup s.ev)), some (.d (.int s.h)), x6, x7, x8, x9, x10, x11, x12] = some [some (.d V), some (.d (.tup [X, fD (m, p)])), some (.d (fD s.x)), some (.d (fD s.dl)), some (.d (.tup s.ev)), some (.d (.int s.h)), some (.d (.int e)), some (.d (.int 1)), some (.d (.int 0)), some (.d (.int 0)), x10, x11, x12] := by
      simp [setT_t, setTs_c, setTs_0, setT_v]
    simp only [List.map_nil, List.nil_append, loopF, hset, rsofO_some]
    unfold runB
    rw [ss_cons_, W2, andThen_nx, ss_cons_]
    have hr0 : ¬ (0 : Int) < 0 := by omega
    simp only [s_ifs_, q_val, e_cmp, e_var, e_lit, getV_s, getV_0, ofO_some, R.bind_ok, bindD_ok, rdV_d, gt_ii, hr0, decide_false, Option.map_some, truD_bl, rsof_ok, Bool.false_eq_true, if_false, andThen_nx, ss_nil_, List.foldl_nil]
  | row :: rows, i, s, x6, x7, x8, x9, x10, x11, x12, hl, h0, h1, I, B, k => by
    obtain ⟨pl, g, r, sh, rfl, a1, a2, L, k2⟩ := ahead he.2 h0 k
    simp only [List.length_cons] at hl
    have W := l_while (n := n) (V := V) (X := X) (x := s.x) (w := (m, p)) (h0 := s.h) (place := pl) (x3 := some (.d (fD s.dl))) (x4 := some (.d (.tup s.ev))) (x7 := some (.d (.int g))) (x8 := some (.d (.int r))) (x9 := some (.d (.int sh))) (x10 := x10) (x11 := x11) (x12 := x12) (S := S) hw B.x1 B.x2 I.cx.1 (by omega) (by omega) (by omega) (by omega) (pl - s.h).toNat whileMax s.h rfl (by omega) (Int.le_refl _) (by unfold whileMax; omega)
    rw [show s.h - s.h = 0 by omega, fur_0 I.cx hw.p0] at W
    have W2 := s_whil_.trans W
    obtain ⟨f1, f2⟩ := fur_bd (k := pl - s.h) B.x1 B.x2 I.cx.1 hw.m hw.p hw.p0 (by omega) (by omega)
    have c := (fur_cn (k := pl - s.h) I.cx.1 hw.p0).1
    obtain ⟨y10, y11, y12, T⟩ := l_wait (n := n) (V := V) (W := .tup [X, fD (m, p)]) (h := pl) (place := pl) (x10 := x10) (x11 := x11) (x12 := x12) (evs := s.ev) (S := S) L (by omega) (by omega) (by omega) (by omega) (by omega) f1 f2 c B.d1 B.d2 I.cd.1 (by rw [B.el]; omega)
    have B2 := bd_step (pl := pl) (by omega) hw L (by omega) B I.cx.1 I.cd.1
    have I2 := step_ok (pl := pl) (g := g) (r := r) (sh := sh) hw.p0 I
    have e0 : (stepW (m, p) s [pl, g, r, sh]).h = pl := rfl
    obtain ⟨re, ih, ih2⟩ := l_loop (n := n) (V := V) (X := X) (S := S) he hw rows (i + 1) (stepW (m, p) s [pl, g, r, sh]) (some (.d (.int pl))) (some (.d (.int g))) (some (.d (.int r))) (some (.d (.int sh))) y10 y11 y12 (by omega) (by rw [e0]; omega) (by rw [e0]; omega) I2 B2 (by rw [e0]; exact k2)
    refine ⟨re, ?_, ih2⟩
    have hset : setT (.t [(.v 6), (.v 7), (.v 8), (.v 9)]) (rowD [pl, g, r, sh]) [some (.d V), some (.d (.tup [X, fD (m, p)])), some (.d (fD s.x)), some (.d (fD s.dl)), some (.d (.tup s.ev)), some (.d (.int s.h)), x6, x7, x8, x9, x10, x11, x12] = some [some (.d V), some (.d (.tup [X, fD (m, p)])), some (.d (fD s.x)), some (.d (fD s.dl)), some (.d (.tup s.ev)), some (.d (.int s.h)), some (.d (.int pl)), some (.d (.int g)), some (.d (.int r)), some (.d (.int sh)), x10, x11, x12] := by
      simp [rowD, setT_t, setTs_c, setTs_0, setT_v]
    rw [List.map_cons, List.cons_append]
    unfold loopF
    simp only [hset, rsofO_some]
    have hb : evSs (calls P (n + 3)) runB [some (.d V), some (.d (.tup [X, fD (m, p)])), some (.d (fD s.x)), some (.d (fD s.dl)), some (.d (.tup s.ev)), some (.d (.int s.h)), some (.d (.int pl)), some (.d (.int g)), some (.d (.int r)), some (.d (.int sh)), x10, x11, x12] S =
        .nx [some (.d V), some (.d (.tup [X, fD (m, p)])), some (.d (fD (stepW (m, p) s [pl, g, r, sh]).x)), some (.d (fD (stepW (m, p) s [pl, g, r, sh]).dl)), some (.d (.tup (stepW (m, p) s [pl, g, r, sh]).ev)), some (.d (.int (stepW (m, p) s [pl, g, r, sh]).h)), some (.d (.int pl)), some (.d (.int g)), some (.d (.int r)), some (.d (.int sh)), y10, y11, y12] S := by
      unfold runB
      rw [ss_cons_, W2, andThen_nx, ss_cons_]
      have hr0 := L.r0
      simp only [s_ifs_, q_val, e_cmp, e_var, e_lit, getV_s, getV_0, ofO_some, R.bind_ok, bindD_ok, rdV_d, gt_ii, hr0, decide_true, Option.map_some, truD_bl, rsof_ok, if_true, T, andThen_nx, ss_nil_, stepW]
    rw [hb, andThen_nx]
    exact ih
theorem f_lrun {n : Nat} {ls : List (List Int)} {e l q s t b m p : Int} {S : Sto} (he : 1 ≤ e ∧ e ≤ 20) (hl : ls.length ≤ 3) (hs : lawL e 0 (ls.map rowD) = true) (h1 : bd 10 t) (h2 : bd 3 b) (hc : cn (t, b)) (hw : WOk (m, p)) :
    (calls P (n + 4)).fn 31 [.d (sD ls e l q s), .d (.tup [fD (t, b), fD (m, p)])] S = .ok (.d (.tup [.tup (wayW ls (t, b) (m, p)).ev, fD (comes ls e (t, b) (m, p)), fD (wayW ls (t, b) (m, p)).dl])) S := by
  obtain ⟨r, e1, y5, y6, y7, y8, y9, y10, y11, y12, rfl⟩ := l_loop (n := n) (V := sD ls e l q s) (X := fD (t, b)) (S := S) he hw ls 0 (w0 (t, b)) none none none none none none none (by omega) (by simp [w0]) (by simp only [w0]; omega) (w0_ok (m := m) (p := p) hc) (w0_bd h1 h2) hs
  have lp : loopF (fun x r S => .ofO (setT (.t [(.v 6), (.v 7), (.v 8), (.v 9)]) x r) fun r => evSs (calls P (n + 3)) runB r S) (ls.map rowD ++ [.tup [.int e, .int 1, .int 0, .int 0]]) [some (.d (sD ls e l q s)), some (.d (.tup [fD (t, b), fD (m, p)])), some (.d (fD (t, b))), some (.d (.tup [.int 0, .int 1])), some (.d (.tup [])), some (.d (.int 0)), none, none, none, none, none, none, none] S =
    .nx [some (.d (sD ls e l q s)), some (.d (.tup [fD (t, b), fD (m, p)])), some (.d (fD (comes ls e (t, b) (m, p)))), some (.d (fD (wayW ls (t, b) (m, p)).dl)), some (.d (.tup (wayW ls (t, b) (m, p)).ev)), y5, y6, y7, y8, y9, y10, y11, y12] S := e1
  clear e1
  rw [fn_step (c := c__law_run) rfl rfl, run_code]
  simp only [List.map_cons, List.map_nil, List.cons_append, List.nil_append, Nat.sub_self, List.replicate_zero, List.replicate_succ, Nat.reduceSub]
  have i0 : idxD (sD ls e l q s) (.int 0) = some (.tup (ls.map rowD)) := by simp only [sD, idx_t, at_0]; rfl
  have i1 : idxD (sD ls e l q s) (.int 1) = some (.int e) := by simp only [sD, idx_t, at_1]
  have ad : binD .add (.tup (ls.map rowD)) (.tup [.tup [.int e, .int 1, .int 0, .int 0]]) = some (.tup (ls.map rowD ++ [.tup [.int e, .int 1, .int 0, .int 0]])) := add_tt (by rw [sizeMax_eq']; simp; omega)
  have hwk : ∀ its : List D, walkD .val [.tup its] = some its := fun _ => rfl
  simp only [ss_cons_, s_setp_, vs_cons, vs_nil, e_idx, e_var, e_lit, e_tup, ds_cons, ds_nil, getV_s, getV_0, ofO_some, R.bind_ok, bindP_ok, rdV_d, idx_t, at_0, Option.map_some, rsof_ok, setPar_d, setPar_0, List.length_cons, List.length_nil, Nat.reduceAdd, Nat.reduceLT, if_true, List.set_cons_succ, List.set_cons_zero, rsofO_some, andThen_nx, s_forr_, e_bin, i0, i1, ad, hwk]
  rw [lp]
  simp only [andThen_nx, s_ret_, e_tup, ds_cons, ds_nil, e_var, getV_s, getV_0, ofO_some, bindP_ok, R.bind_ok, rsof_ok, andThen_ret, leave_d0]
end E02

set_option Elab.async false
set_option linter.all false
set_option autoImplicit false
set_option maxRecDepth 100000
set_option maxHeartbeats 4000000
set_option exponentiation.threshold 256
/-! The told walkers' defs, by the evaluator. Own work. -/
namespace E02
open PySem Ev C02 M15 M01 M02 Tx
/-- a walker of a street, small -/
structure KOk (l q z t b m p : Int) : Prop where
  k : isK l q z (.tup [fD (t, b), fD (m, p)]) = true
  t10 : bd 10 t
  b3 : bd 3 b
  w : WOk (m, p)
theorem KOk.parts {l q z t b m p : Int} (K : KOk l q z t b m p) : cn (t, b) ∧ (0 ≤ t ∧ t ≤ l * b) ∧ (q * p ≤ m ∧ m ≤ z * p) ∧ cn (m, p) := by
  have h := K.k
  unfold isK fD at h
  simp only [Bool.and_eq_true, decide_eq_true_eq] at h
  obtain ⟨⟨⟨⟨⟨h1, h2⟩, h3⟩, h4⟩, h5⟩, h6⟩ := h
  obtain ⟨a, c, e, _, hc, hg⟩ := isF_ok h1
  simp only [D.tup.injEq, List.cons.injEq, D.int.injEq, and_true] at e
  obtain ⟨rfl, rfl⟩ := e
  obtain ⟨a2, c2, e2, _, hc2, hg2⟩ := isF_ok h2
  simp only [D.tup.injEq, List.cons.injEq, D.int.injEq, and_true] at e2
  obtain ⟨rfl, rfl⟩ := e2
  exact ⟨⟨by simp only; omega, hg⟩, ⟨h3, h4⟩, ⟨h5, h6⟩, ⟨by simp only; omega, hg2⟩⟩
/-- a street, told -/
structure SOk (ls : List (List Int)) (e l q z : Int) : Prop where
  st : isS (sD ls e l q z) = true
  e1 : 1 ≤ e ∧ e ≤ 20
  q1 : 1 ≤ q ∧ q ≤ z ∧ z ≤ 3
  l1 : 0 ≤ l ∧ l ≤ 20
  n3 : ls.length ≤ 3
  way : lawL e 0 (ls.map rowD) = true
theorem SOk.of {ls : List (List Int)} {e l q z : Int} (h : isS (sD ls e l q z) = true) : SOk ls e l q z := by
  have h0 := h
  unfold sD isS at h0
  simp only [Bool.and_eq_true, decide_eq_true_eq, List.length_map] at h0
  obtain ⟨⟨⟨⟨h1, h2⟩, h3⟩, h4⟩, ⟨h5, h6⟩, h7⟩ := h0
  have e1 : 1 ≤ e ∧ e ≤ 20 := (isW_int h1).2
  have e2 : 0 ≤ l ∧ l ≤ 20 := (isW_int h2).2
  have e3 : 1 ≤ z ∧ z ≤ 3 := (isW_int h3).2
  have e4 : 1 ≤ q ∧ q ≤ z := (isW_int h4).2
  refine ⟨h, e1, by omega, e2, h5, ?_⟩
  rw [lawL_0]
  have h6' : (ls.map rowD).all (isL e) = true := h6
  have h7' : ascD (ls.map rowD) = true := h7
  rw [h6', h7']
  rfl
theorem wn_all {sl m p e : Int} (he : e ≤ 20) (hsl : 0 ≤ sl ∧ sl ≤ 3) (hm : 0 ≤ m ∧ m ≤ sl * p) (hp : 0 < p) {t b : Int} : ∀ (rows : List (List Int)) (i : Nat) (s : WS), i + rows.length ≤ 3 → 0 ≤ s.h → WI t b m p s → lawL e s.h (rows.map rowD) = true → WN sl i s → WN sl (i + rows.length) (rows.foldl (stepW (m, p)) s) ∧ (rows.foldl (stepW (m, p)) s).ev.length = s.ev.length + rows.length
  | [], i, s, hl, h0, I, _, N => ⟨N, rfl⟩
  | row :: rows, i, s, hl, h0, I, k, N => by
    obtain ⟨pl, g, r, sh, rfl, a1, a2, L, k2, G⟩ := ahead2 he h0 k
    simp only [List.length_cons] at hl
    have I2 := step_ok (pl := pl) (g := g) (r := r) (sh := sh) hp I
    have N2 := wn_step (pl := pl) G hsl hm hp (by omega) (by omega) N I.cx.1
    have e0 : (stepW (m, p) s [pl, g, r, sh]).h = pl := rfl
    have e1 : (stepW (m, p) s [pl, g, r, sh]).ev.length = s.ev.length + 1 := by simp [stepW]
    obtain ⟨ih, ih2⟩ := wn_all he hsl hm hp rows (i + 1) (stepW (m, p) s [pl, g, r, sh]) (by omega) (by rw [e0]; omega) I2 (by rw [e0]; exact k2) N2
    rw [List.foldl_cons, List.length_cons, show i + (rows.length + 1) = i + 1 + rows.length by omega]
    exact ⟨ih, by rw [ih2, e1]; omega⟩
/-- the word of a walker -/
theorem word_ok {ls : List (List Int)} {e l q z t b m p : Int} (H : SOk ls e l q z) (K : KOk l q z t b m p) : (wayW ls (t, b) (m, p)).ev.length = ls.length ∧ ∀ v ∈ (wayW ls (t, b) (m, p)).ev, evN v := by
  obtain ⟨k1, k2, k3, k4⟩ := K.parts
  have b0 : 0 < b := k1.1
  have p0 : 0 < p := k4.1
  have n0 : nb (20 + z * (w0 (t, b)).h + 60 * ((0 : Nat) : Int)) (w0 (t, b)).x := by
    have q1 : l * b ≤ 20 * b := mul_le H.l1.2 (by omega)
    simp only [w0, nb]
    exact ⟨k2.1, by have e : 20 + z * 0 + 60 * ((0 : Nat) : Int) = 20 := by simp
                    rw [e]; omega⟩
  have q0 : 0 ≤ q * p := Int.mul_nonneg (by have := H.q1; omega) (by omega)
  have m0 : 0 ≤ m ∧ m ≤ z * p := by omega
  obtain ⟨h1, h2⟩ := wn_all (t := t) (b := b) (sl := z) H.e1.2 (by have := H.q1; omega) m0 p0 ls 0 (w0 (t, b)) (by have := H.n3; omega) (by simp [w0]) (w0_ok k1) H.way ⟨n0, by simp [w0]⟩
  exact ⟨by show (ls.foldl (stepW (m, p)) (w0 (t, b))).ev.length = _; rw [h2]; simp [w0], h1.ev⟩
theorem evN_E {v : D} (h : evN v) : isE v = true := by
  rcases h with ⟨i, rfl, h1, h2⟩ | ⟨i, rfl, h1, h2⟩
  · show (isGo (.str "go") && (decide (-9 ≤ i) && decide (i ≤ 99))) = true
    rw [decide_eq_true h1, decide_eq_true (by omega : i ≤ 99)]
    decide +kernel
  · show (isGo (.str "wait") && (decide (-9 ≤ i) && decide (i ≤ 99))) = true
    rw [decide_eq_true h1, decide_eq_true (by omega : i ≤ 99)]
    decide +kernel
theorem evN_sz {v : D} {d : Nat} (h : evN v) : sz (d + 1) 10 v = true := by
  rcases h with ⟨i, rfl, _⟩ | ⟨i, rfl, _⟩ <;> (refine mk_tup (by simp) fun x hx => ?_; simp only [List.mem_cons, List.not_mem_nil, or_false] at hx; rcases hx with rfl | rfl)
  · exact sz_flat (by decide +kernel)
  · exact sz_flat rfl
  · exact sz_flat (by decide +kernel)
  · exact sz_flat rfl
/-! ### the defs -/
theorem f_need_walker {n : Nat} {ls : List (List Int)} {e l q z : Int} {v : D} {S : Sto} (hs : isS (sD ls e l q z) = true) (hv : okn 2 v = true) : (calls P (n + 4)).fn 12 [.d (sD ls e l q z), .d v] S = if isK l q z v = true then .ok (.d .non) S else .exc 2 S := by
  rw [fn_step (c := c_need_walker) rfl rfl]
  unfold c_need_walker
  simp only [List.map_cons, List.map_nil, List.cons_append, List.nil_append, Nat.sub_self, List.replicate_zero]
  have F := fun {S : Sto} => f_fits_walker (n := n) (S := S) hs hv
  cases h : isK l q z v <;> simp [R.bind_ok, R.bind_exc, bindP_ok, bindP_exc, bindD_ok, bindD_exc, ofO_some, rsof_ok, rsof_exc, rsofO_some, andThen_nx, andThen_ret, andThen_exc, e_var, e_lit, e_tup, e_lst, e_neg, e_not, e_bin, e_cmp, e_chain, e_bool, e_ite, e_idx, e_cut, e_rev, e_back, e_call, e_bi, e_len, e_isi, e_fmt, e_split, e_join, q_val, q_not, q_and, q_or, and_nil, and_cons, or_nil, or_cons, ds_nil, ds_cons, vs_nil, vs_cons, bool_one, bool_cons, s_set_, s_setp_, s_ret_, s_ifs_, s_rais_, s_append_, s_expr_, s_frz_, ss_nil_, ss_cons_, getV_0, getV_s, truD_bl, truD_int, truD_lst, rdV_d, optI_0, optI_1, setV_d, setV_box, setV_t, setT_v, setT_t, setTs_0, setTs_c, setPar_0, setPar_d, setPar_box, wipe_0, wipe_c, obind_some, noFn_non, noFn_bl, noFn_int, noFn_str, noFn_lst, noFn_tup, add_ii, sub_ii, lt_ii, le_ii, gt_ii, ge_ii, idx_t, idx_l, at_0, at_1, at_2, at_3, at_4, cut_l, cut_t, cutL_1, cutL_3, cutL_t3, len_l, len_t, tup_l, list_t, int_i, leave_d0, leave_n0, leave_x0, F, h]
theorem f_need_told {n : Nat} {ls : List (List Int)} {e l q z : Int} {v : D} {S : Sto} (hs : isS (sD ls e l q z) = true) (hv : okn 2 v = true) : (calls P (n + 5)).fn 16 [.d (sD ls e l q z), .d v] S = if isK l q z v = true then .ok (.d .non) S else .exc 2 S := by
  rw [fn_step (c := c_need_told) rfl rfl]
  unfold c_need_told
  simp only [List.map_cons, List.map_nil, List.cons_append, List.nil_append, Nat.sub_self, List.replicate_zero]
  have F1 := fun {S : Sto} => f_need_street (n := n) (v := sD ls e l q z) (S := S) okn_sD
  have F2 := fun {S : Sto} => f_need_walker (n := n) (S := S) hs hv
  simp only [hs, if_true] at F1
  cases h : isK l q z v <;> simp [R.bind_ok, R.bind_exc, bindP_ok, bindP_exc, bindD_ok, bindD_exc, ofO_some, rsof_ok, rsof_exc, rsofO_some, andThen_nx, andThen_ret, andThen_exc, e_var, e_lit, e_tup, e_lst, e_neg, e_not, e_bin, e_cmp, e_chain, e_bool, e_ite, e_idx, e_cut, e_rev, e_back, e_call, e_bi, e_len, e_isi, e_fmt, e_split, e_join, q_val, q_not, q_and, q_or, and_nil, and_cons, or_nil, or_cons, ds_nil, ds_cons, vs_nil, vs_cons, bool_one, bool_cons, s_set_, s_setp_, s_ret_, s_ifs_, s_rais_, s_append_, s_expr_, s_frz_, ss_nil_, ss_cons_, getV_0, getV_s, truD_bl, truD_int, truD_lst, rdV_d, optI_0, optI_1, setV_d, setV_box, setV_t, setT_v, setT_t, setTs_0, setTs_c, setPar_0, setPar_d, setPar_box, wipe_0, wipe_c, obind_some, noFn_non, noFn_bl, noFn_int, noFn_str, noFn_lst, noFn_tup, add_ii, sub_ii, lt_ii, le_ii, gt_ii, ge_ii, idx_t, idx_l, at_0, at_1, at_2, at_3, at_4, cut_l, cut_t, cutL_1, cutL_3, cutL_t3, len_l, len_t, tup_l, list_t, int_i, leave_d0, leave_n0, leave_x0, F1, F2, h]
theorem f_told_list {n : Nat} {v w : D} {S : Sto} (hv : okn 3 v = true) (h : isS v = false) : (calls P (n + 5)).fn 16 [.d v, .d w] S = .exc 1 S := by
  rw [fn_step (c := c_need_told) rfl rfl]
  unfold c_need_told
  simp only [List.map_cons, List.map_nil, List.cons_append, List.nil_append, Nat.sub_self, List.replicate_zero]
  have F1 := fun {S : Sto} => f_need_street (n := n) (v := v) (S := S) hv
  simp only [h, Bool.false_eq_true, if_false] at F1
  simp [R.bind_ok, R.bind_exc, bindP_ok, bindP_exc, bindD_ok, bindD_exc, ofO_some, rsof_ok, rsof_exc, rsofO_some, andThen_nx, andThen_ret, andThen_exc, e_var, e_lit, e_tup, e_lst, e_neg, e_not, e_bin, e_cmp, e_chain, e_bool, e_ite, e_idx, e_cut, e_rev, e_back, e_call, e_bi, e_len, e_isi, e_fmt, e_split, e_join, q_val, q_not, q_and, q_or, and_nil, and_cons, or_nil, or_cons, ds_nil, ds_cons, vs_nil, vs_cons, bool_one, bool_cons, s_set_, s_setp_, s_ret_, s_ifs_, s_rais_, s_append_, s_expr_, s_frz_, ss_nil_, ss_cons_, getV_0, getV_s, truD_bl, truD_int, truD_lst, rdV_d, optI_0, optI_1, setV_d, setV_box, setV_t, setT_v, setT_t, setTs_0, setTs_c, setPar_0, setPar_d, setPar_box, wipe_0, wipe_c, obind_some, noFn_non, noFn_bl, noFn_int, noFn_str, noFn_lst, noFn_tup, add_ii, sub_ii, lt_ii, le_ii, gt_ii, ge_ii, idx_t, idx_l, at_0, at_1, at_2, at_3, at_4, cut_l, cut_t, cutL_1, cutL_3, cutL_t3, len_l, len_t, tup_l, list_t, int_i, leave_d0, leave_n0, leave_x0, F1]
/-- what the three defs tell -/
def told3 (f : Nat) (ls : List (List Int)) (e : Int) (x w : Int × Int) : D := if f = 17 then .tup (wayW ls x w).ev else if f = 18 then fD (comes ls e x w) else fD (wayW ls x w).dl
theorem f_three {n f : Nat} {ls : List (List Int)} {e l q z t b m p : Int} {S : Sto} (hf : f = 17 ∨ f = 18 ∨ f = 19) (H : SOk ls e l q z) (K : KOk l q z t b m p) : (calls P (n + 6)).fn f [.d (sD ls e l q z), .d (.tup [fD (t, b), fD (m, p)])] S = .ok (.d (told3 f ls e (t, b) (m, p))) S := by
  obtain ⟨k1, k2, k3, k4⟩ := K.parts
  have F1 := fun {S : Sto} => f_need_told (n := n) (v := .tup [fD (t, b), fD (m, p)]) (S := S) H.st (by simp [okn, noFn, fD])
  simp only [K.k, if_true] at F1
  have F2 := fun {S : Sto} => f_prun (n := n + 1) (l := l) (q := q) (s := z) (S := S) H.e1 H.n3 H.way K.t10 K.b3 k1 K.w
  rcases hf with rfl | rfl | rfl
  · rw [fn_step (c := c_word_of) rfl rfl]
    unfold c_word_of
    simp only [List.map_cons, List.map_nil, List.cons_append, List.nil_append, Nat.sub_self, List.replicate_zero]
    simp [R.bind_ok, R.bind_exc, bindP_ok, bindP_exc, bindD_ok, bindD_exc, ofO_some, rsof_ok, rsof_exc, rsofO_some, andThen_nx, andThen_ret, andThen_exc, e_var, e_lit, e_tup, e_lst, e_neg, e_not, e_bin, e_cmp, e_chain, e_bool, e_ite, e_idx, e_cut, e_rev, e_back, e_call, e_bi, e_len, e_isi, e_fmt, e_split, e_join, q_val, q_not, q_and, q_or, and_nil, and_cons, or_nil, or_cons, ds_nil, ds_cons, vs_nil, vs_cons, bool_one, bool_cons, s_set_, s_setp_, s_ret_, s_ifs_, s_rais_, s_append_, s_expr_, s_frz_, ss_nil_, ss_cons_, getV_0, getV_s, truD_bl, truD_int, truD_lst, rdV_d, optI_0, optI_1, setV_d, setV_box, setV_t, setT_v, setT_t, setTs_0, setTs_c, setPar_0, setPar_d, setPar_box, wipe_0, wipe_c, obind_some, noFn_non, noFn_bl, noFn_int, noFn_str, noFn_lst, noFn_tup, add_ii, sub_ii, lt_ii, le_ii, gt_ii, ge_ii, idx_t, idx_l, at_0, at_1, at_2, at_3, at_4, cut_l, cut_t, cutL_1, cutL_3, cutL_t3, len_l, len_t, tup_l, list_t, int_i, leave_d0, leave_n0, leave_x0, F1, F2, told3]
  · rw [fn_step (c := c_coming) rfl rfl]
    unfold c_coming
    simp only [List.map_cons, List.map_nil, List.cons_append, List.nil_append, Nat.sub_self, List.replicate_zero]
    simp [R.bind_ok, R.bind_exc, bindP_ok, bindP_exc, bindD_ok, bindD_exc, ofO_some, rsof_ok, rsof_exc, rsofO_some, andThen_nx, andThen_ret, andThen_exc, e_var, e_lit, e_tup, e_lst, e_neg, e_not, e_bin, e_cmp, e_chain, e_bool, e_ite, e_idx, e_cut, e_rev, e_back, e_call, e_bi, e_len, e_isi, e_fmt, e_split, e_join, q_val, q_not, q_and, q_or, and_nil, and_cons, or_nil, or_cons, ds_nil, ds_cons, vs_nil, vs_cons, bool_one, bool_cons, s_set_, s_setp_, s_ret_, s_ifs_, s_rais_, s_append_, s_expr_, s_frz_, ss_nil_, ss_cons_, getV_0, getV_s, truD_bl, truD_int, truD_lst, rdV_d, optI_0, optI_1, setV_d, setV_box, setV_t, setT_v, setT_t, setTs_0, setTs_c, setPar_0, setPar_d, setPar_box, wipe_0, wipe_c, obind_some, noFn_non, noFn_bl, noFn_int, noFn_str, noFn_lst, noFn_tup, add_ii, sub_ii, lt_ii, le_ii, gt_ii, ge_ii, idx_t, idx_l, at_0, at_1, at_2, at_3, at_4, cut_l, cut_t, cutL_1, cutL_3, cutL_t3, len_l, len_t, tup_l, list_t, int_i, leave_d0, leave_n0, leave_x0, F1, F2, told3]
  · rw [fn_step (c := c_waited) rfl rfl]
    unfold c_waited
    simp only [List.map_cons, List.map_nil, List.cons_append, List.nil_append, Nat.sub_self, List.replicate_zero]
    simp [R.bind_ok, R.bind_exc, bindP_ok, bindP_exc, bindD_ok, bindD_exc, ofO_some, rsof_ok, rsof_exc, rsofO_some, andThen_nx, andThen_ret, andThen_exc, e_var, e_lit, e_tup, e_lst, e_neg, e_not, e_bin, e_cmp, e_chain, e_bool, e_ite, e_idx, e_cut, e_rev, e_back, e_call, e_bi, e_len, e_isi, e_fmt, e_split, e_join, q_val, q_not, q_and, q_or, and_nil, and_cons, or_nil, or_cons, ds_nil, ds_cons, vs_nil, vs_cons, bool_one, bool_cons, s_set_, s_setp_, s_ret_, s_ifs_, s_rais_, s_append_, s_expr_, s_frz_, ss_nil_, ss_cons_, getV_0, getV_s, truD_bl, truD_int, truD_lst, rdV_d, optI_0, optI_1, setV_d, setV_box, setV_t, setT_v, setT_t, setTs_0, setTs_c, setPar_0, setPar_d, setPar_box, wipe_0, wipe_c, obind_some, noFn_non, noFn_bl, noFn_int, noFn_str, noFn_lst, noFn_tup, add_ii, sub_ii, lt_ii, le_ii, gt_ii, ge_ii, idx_t, idx_l, at_0, at_1, at_2, at_3, at_4, cut_l, cut_t, cutL_1, cutL_3, cutL_t3, len_l, len_t, tup_l, list_t, int_i, leave_d0, leave_n0, leave_x0, F1, F2, told3]
theorem f_three_x {n f : Nat} {ls : List (List Int)} {e l q z : Int} {v : D} {S : Sto} (hf : f = 17 ∨ f = 18 ∨ f = 19) (H : SOk ls e l q z) (hv : okn 2 v = true) (hk : isK l q z v = false) : (calls P (n + 6)).fn f [.d (sD ls e l q z), .d v] S = .exc 2 S := by
  have F1 := fun {S : Sto} => f_need_told (n := n) (v := v) (S := S) H.st hv
  simp only [hk, Bool.false_eq_true, if_false] at F1
  rcases hf with rfl | rfl | rfl
  · rw [fn_step (c := c_word_of) rfl rfl]
    unfold c_word_of
    simp only [List.map_cons, List.map_nil, List.cons_append, List.nil_append, Nat.sub_self, List.replicate_zero]
    simp [R.bind_ok, R.bind_exc, bindP_ok, bindP_exc, bindD_ok, bindD_exc, ofO_some, rsof_ok, rsof_exc, rsofO_some, andThen_nx, andThen_ret, andThen_exc, e_var, e_lit, e_tup, e_lst, e_neg, e_not, e_bin, e_cmp, e_chain, e_bool, e_ite, e_idx, e_cut, e_rev, e_back, e_call, e_bi, e_len, e_isi, e_fmt, e_split, e_join, q_val, q_not, q_and, q_or, and_nil, and_cons, or_nil, or_cons, ds_nil, ds_cons, vs_nil, vs_cons, bool_one, bool_cons, s_set_, s_setp_, s_ret_, s_ifs_, s_rais_, s_append_, s_expr_, s_frz_, ss_nil_, ss_cons_, getV_0, getV_s, truD_bl, truD_int, truD_lst, rdV_d, optI_0, optI_1, setV_d, setV_box, setV_t, setT_v, setT_t, setTs_0, setTs_c, setPar_0, setPar_d, setPar_box, wipe_0, wipe_c, obind_some, noFn_non, noFn_bl, noFn_int, noFn_str, noFn_lst, noFn_tup, add_ii, sub_ii, lt_ii, le_ii, gt_ii, ge_ii, idx_t, idx_l, at_0, at_1, at_2, at_3, at_4, cut_l, cut_t, cutL_1, cutL_3, cutL_t3, len_l, len_t, tup_l, list_t, int_i, leave_d0, leave_n0, leave_x0, F1]
  · rw [fn_step (c := c_coming) rfl rfl]
    unfold c_coming
    simp only [List.map_cons, List.map_nil, List.cons_append, List.nil_append, Nat.sub_self, List.replicate_zero]
    simp [R.bind_ok, R.bind_exc, bindP_ok, bindP_exc, bindD_ok, bindD_exc, ofO_some, rsof_ok, rsof_exc, rsofO_some, andThen_nx, andThen_ret, andThen_exc, e_var, e_lit, e_tup, e_lst, e_neg, e_not, e_bin, e_cmp, e_chain, e_bool, e_ite, e_idx, e_cut, e_rev, e_back, e_call, e_bi, e_len, e_isi, e_fmt, e_split, e_join, q_val, q_not, q_and, q_or, and_nil, and_cons, or_nil, or_cons, ds_nil, ds_cons, vs_nil, vs_cons, bool_one, bool_cons, s_set_, s_setp_, s_ret_, s_ifs_, s_rais_, s_append_, s_expr_, s_frz_, ss_nil_, ss_cons_, getV_0, getV_s, truD_bl, truD_int, truD_lst, rdV_d, optI_0, optI_1, setV_d, setV_box, setV_t, setT_v, setT_t, setTs_0, setTs_c, setPar_0, setPar_d, setPar_box, wipe_0, wipe_c, obind_some, noFn_non, noFn_bl, noFn_int, noFn_str, noFn_lst, noFn_tup, add_ii, sub_ii, lt_ii, le_ii, gt_ii, ge_ii, idx_t, idx_l, at_0, at_1, at_2, at_3, at_4, cut_l, cut_t, cutL_1, cutL_3, cutL_t3, len_l, len_t, tup_l, list_t, int_i, leave_d0, leave_n0, leave_x0, F1]
  · rw [fn_step (c := c_waited) rfl rfl]
    unfold c_waited
    simp only [List.map_cons, List.map_nil, List.cons_append, List.nil_append, Nat.sub_self, List.replicate_zero]
    simp [R.bind_ok, R.bind_exc, bindP_ok, bindP_exc, bindD_ok, bindD_exc, ofO_some, rsof_ok, rsof_exc, rsofO_some, andThen_nx, andThen_ret, andThen_exc, e_var, e_lit, e_tup, e_lst, e_neg, e_not, e_bin, e_cmp, e_chain, e_bool, e_ite, e_idx, e_cut, e_rev, e_back, e_call, e_bi, e_len, e_isi, e_fmt, e_split, e_join, q_val, q_not, q_and, q_or, and_nil, and_cons, or_nil, or_cons, ds_nil, ds_cons, vs_nil, vs_cons, bool_one, bool_cons, s_set_, s_setp_, s_ret_, s_ifs_, s_rais_, s_append_, s_expr_, s_frz_, ss_nil_, ss_cons_, getV_0, getV_s, truD_bl, truD_int, truD_lst, rdV_d, optI_0, optI_1, setV_d, setV_box, setV_t, setT_v, setT_t, setTs_0, setTs_c, setPar_0, setPar_d, setPar_box, wipe_0, wipe_c, obind_some, noFn_non, noFn_bl, noFn_int, noFn_str, noFn_lst, noFn_tup, add_ii, sub_ii, lt_ii, le_ii, gt_ii, ge_ii, idx_t, idx_l, at_0, at_1, at_2, at_3, at_4, cut_l, cut_t, cutL_1, cutL_3, cutL_t3, len_l, len_t, tup_l, list_t, int_i, leave_d0, leave_n0, leave_x0, F1]
theorem f_three_l {n f : Nat} {v w : D} {S : Sto} (hf : f = 17 ∨ f = 18 ∨ f = 19) (hv : okn 3 v = true) (h : isS v = false) : (calls P (n + 6)).fn f [.d v, .d w] S = .exc 1 S := by
  have F1 := fun {S : Sto} => f_told_list (n := n) (v := v) (w := w) (S := S) hv h
  rcases hf with rfl | rfl | rfl
  · rw [fn_step (c := c_word_of) rfl rfl]
    unfold c_word_of
    simp only [List.map_cons, List.map_nil, List.cons_append, List.nil_append, Nat.sub_self, List.replicate_zero]
    simp [R.bind_ok, R.bind_exc, bindP_ok, bindP_exc, bindD_ok, bindD_exc, ofO_some, rsof_ok, rsof_exc, rsofO_some, andThen_nx, andThen_ret, andThen_exc, e_var, e_lit, e_tup, e_lst, e_neg, e_not, e_bin, e_cmp, e_chain, e_bool, e_ite, e_idx, e_cut, e_rev, e_back, e_call, e_bi, e_len, e_isi, e_fmt, e_split, e_join, q_val, q_not, q_and, q_or, and_nil, and_cons, or_nil, or_cons, ds_nil, ds_cons, vs_nil, vs_cons, bool_one, bool_cons, s_set_, s_setp_, s_ret_, s_ifs_, s_rais_, s_append_, s_expr_, s_frz_, ss_nil_, ss_cons_, getV_0, getV_s, truD_bl, truD_int, truD_lst, rdV_d, optI_0, optI_1, setV_d, setV_box, setV_t, setT_v, setT_t, setTs_0, setTs_c, setPar_0, setPar_d, setPar_box, wipe_0, wipe_c, obind_some, noFn_non, noFn_bl, noFn_int, noFn_str, noFn_lst, noFn_tup, add_ii, sub_ii, lt_ii, le_ii, gt_ii, ge_ii, idx_t, idx_l, at_0, at_1, at_2, at_3, at_4, cut_l, cut_t, cutL_1, cutL_3, cutL_t3, len_l, len_t, tup_l, list_t, int_i, leave_d0, leave_n0, leave_x0, F1]
  · rw [fn_step (c := c_coming) rfl rfl]
    unfold c_coming
    simp only [List.map_cons, List.map_nil, List.cons_append, List.nil_append, Nat.sub_self, List.replicate_zero]
    simp [R.bind_ok, R.bind_exc, bindP_ok, bindP_exc, bindD_ok, bindD_exc, ofO_some, rsof_ok, rsof_exc, rsofO_some, andThen_nx, andThen_ret, andThen_exc, e_var, e_lit, e_tup, e_lst, e_neg, e_not, e_bin, e_cmp, e_chain, e_bool, e_ite, e_idx, e_cut, e_rev, e_back, e_call, e_bi, e_len, e_isi, e_fmt, e_split, e_join, q_val, q_not, q_and, q_or, and_nil, and_cons, or_nil, or_cons, ds_nil, ds_cons, vs_nil, vs_cons, bool_one, bool_cons, s_set_, s_setp_, s_ret_, s_ifs_, s_rais_, s_append_, s_expr_, s_frz_, ss_nil_, ss_cons_, getV_0, getV_s, truD_bl, truD_int, truD_lst, rdV_d, optI_0, optI_1, setV_d, setV_box, setV_t, setT_v, setT_t, setTs_0, setTs_c, setPar_0, setPar_d, setPar_box, wipe_0, wipe_c, obind_some, noFn_non, noFn_bl, noFn_int, noFn_str, noFn_lst, noFn_tup, add_ii, sub_ii, lt_ii, le_ii, gt_ii, ge_ii, idx_t, idx_l, at_0, at_1, at_2, at_3, at_4, cut_l, cut_t, cutL_1, cutL_3, cutL_t3, len_l, len_t, tup_l, list_t, int_i, leave_d0, leave_n0, leave_x0, F1]
  · rw [fn_step (c := c_waited) rfl rfl]
    unfold c_waited
    simp only [List.map_cons, List.map_nil, List.cons_append, List.nil_append, Nat.sub_self, List.replicate_zero]
    simp [R.bind_ok, R.bind_exc, bindP_ok, bindP_exc, bindD_ok, bindD_exc, ofO_some, rsof_ok, rsof_exc, rsofO_some, andThen_nx, andThen_ret, andThen_exc, e_var, e_lit, e_tup, e_lst, e_neg, e_not, e_bin, e_cmp, e_chain, e_bool, e_ite, e_idx, e_cut, e_rev, e_back, e_call, e_bi, e_len, e_isi, e_fmt, e_split, e_join, q_val, q_not, q_and, q_or, and_nil, and_cons, or_nil, or_cons, ds_nil, ds_cons, vs_nil, vs_cons, bool_one, bool_cons, s_set_, s_setp_, s_ret_, s_ifs_, s_rais_, s_append_, s_expr_, s_frz_, ss_nil_, ss_cons_, getV_0, getV_s, truD_bl, truD_int, truD_lst, rdV_d, optI_0, optI_1, setV_d, setV_box, setV_t, setT_v, setT_t, setTs_0, setTs_c, setPar_0, setPar_d, setPar_box, wipe_0, wipe_c, obind_some, noFn_non, noFn_bl, noFn_int, noFn_str, noFn_lst, noFn_tup, add_ii, sub_ii, lt_ii, le_ii, gt_ii, ge_ii, idx_t, idx_l, at_0, at_1, at_2, at_3, at_4, cut_l, cut_t, cutL_1, cutL_3, cutL_t3, len_l, len_t, tup_l, list_t, int_i, leave_d0, leave_n0, leave_x0, F1]
theorem f_does {n : Nat} {ls : List (List Int)} {e l q z t b m p : Int} {v : D} {S : Sto} (H : SOk ls e l q z) (K : KOk l q z t b m p) (hv : okn 2 v = true) (hw : ∀ xs, v = .tup xs → xs.length ≤ 1000) (ho : okD 60 v = true) :
    (calls P (n + 6)).fn 20 [.d (sD ls e l q z), .d (.tup [fD (t, b), fD (m, p)]), .d v] S = if isD ls.length v = true then .ok (.d (.bl (eqD (.tup (wayW ls (t, b) (m, p)).ev) v))) S else .exc 3 S := by
  obtain ⟨k1, k2, k3, k4⟩ := K.parts
  have F1 := fun {S : Sto} => f_need_told (n := n) (v := .tup [fD (t, b), fD (m, p)]) (S := S) H.st (by simp [okn, noFn, fD])
  simp only [K.k, if_true] at F1
  have F2 := fun {S : Sto} => f_prun (n := n + 1) (l := l) (q := q) (s := z) (S := S) H.e1 H.n3 H.way K.t10 K.b3 k1 K.w
  have F3 := fun {S : Sto} => f_fits_word (n := n + 2) (ls := ls) (e := e) (l := l) (q := q) (s := z) (S := S) hv hw
  obtain ⟨w1, w2⟩ := word_ok H K
  have oe : okD 60 (.tup (wayW ls (t, b) (m, p)).ev) = true := okD_tup fun x hx => (sz_ok (evN_sz (d := 4) (w2 x hx))).2 59 (by omega)
  have ceq := eq_ok oe ho
  rw [fn_step (c := c_does) rfl rfl]
  unfold c_does
  simp only [List.map_cons, List.map_nil, List.cons_append, List.nil_append, Nat.sub_self, List.replicate_zero]
  cases h : isD ls.length v with
  | true => simp [R.bind_ok, R.bind_exc, bindP_ok, bindP_exc, bindD_ok, bindD_exc, ofO_some, rsof_ok, rsof_exc, rsofO_some, andThen_nx, andThen_ret, andThen_exc, e_var, e_lit, e_tup, e_lst, e_neg, e_not, e_bin, e_cmp, e_chain, e_bool, e_ite, e_idx, e_cut, e_rev, e_back, e_call, e_bi, e_len, e_isi, e_fmt, e_split, e_join, q_val, q_not, q_and, q_or, and_nil, and_cons, or_nil, or_cons, ds_nil, ds_cons, vs_nil, vs_cons, bool_one, bool_cons, s_set_, s_setp_, s_ret_, s_ifs_, s_rais_, s_append_, s_expr_, s_frz_, ss_nil_, ss_cons_, getV_0, getV_s, truD_bl, truD_int, truD_lst, rdV_d, optI_0, optI_1, setV_d, setV_box, setV_t, setT_v, setT_t, setTs_0, setTs_c, setPar_0, setPar_d, setPar_box, wipe_0, wipe_c, obind_some, noFn_non, noFn_bl, noFn_int, noFn_str, noFn_lst, noFn_tup, add_ii, sub_ii, lt_ii, le_ii, gt_ii, ge_ii, idx_t, idx_l, at_0, at_1, at_2, at_3, at_4, cut_l, cut_t, cutL_1, cutL_3, cutL_t3, len_l, len_t, tup_l, list_t, int_i, leave_d0, leave_n0, leave_x0, F1, F2, F3, h, ceq]
  | false => simp [R.bind_ok, R.bind_exc, bindP_ok, bindP_exc, bindD_ok, bindD_exc, ofO_some, rsof_ok, rsof_exc, rsofO_some, andThen_nx, andThen_ret, andThen_exc, e_var, e_lit, e_tup, e_lst, e_neg, e_not, e_bin, e_cmp, e_chain, e_bool, e_ite, e_idx, e_cut, e_rev, e_back, e_call, e_bi, e_len, e_isi, e_fmt, e_split, e_join, q_val, q_not, q_and, q_or, and_nil, and_cons, or_nil, or_cons, ds_nil, ds_cons, vs_nil, vs_cons, bool_one, bool_cons, s_set_, s_setp_, s_ret_, s_ifs_, s_rais_, s_append_, s_expr_, s_frz_, ss_nil_, ss_cons_, getV_0, getV_s, truD_bl, truD_int, truD_lst, rdV_d, optI_0, optI_1, setV_d, setV_box, setV_t, setT_v, setT_t, setTs_0, setTs_c, setPar_0, setPar_d, setPar_box, wipe_0, wipe_c, obind_some, noFn_non, noFn_bl, noFn_int, noFn_str, noFn_lst, noFn_tup, add_ii, sub_ii, lt_ii, le_ii, gt_ii, ge_ii, idx_t, idx_l, at_0, at_1, at_2, at_3, at_4, cut_l, cut_t, cutL_1, cutL_3, cutL_t3, len_l, len_t, tup_l, list_t, int_i, leave_d0, leave_n0, leave_x0, F1, F2, F3, h]
theorem f_does_x {n : Nat} {ls : List (List Int)} {e l q z : Int} {v u : D} {S : Sto} (H : SOk ls e l q z) (hv : okn 2 v = true) (hk : isK l q z v = false) : (calls P (n + 6)).fn 20 [.d (sD ls e l q z), .d v, .d u] S = .exc 2 S := by
  have F1 := fun {S : Sto} => f_need_told (n := n) (v := v) (S := S) H.st hv
  simp only [hk, Bool.false_eq_true, if_false] at F1
  rw [fn_step (c := c_does) rfl rfl]
  unfold c_does
  simp only [List.map_cons, List.map_nil, List.cons_append, List.nil_append, Nat.sub_self, List.replicate_zero]
  simp [R.bind_ok, R.bind_exc, bindP_ok, bindP_exc, bindD_ok, bindD_exc, ofO_some, rsof_ok, rsof_exc, rsofO_some, andThen_nx, andThen_ret, andThen_exc, e_var, e_lit, e_tup, e_lst, e_neg, e_not, e_bin, e_cmp, e_chain, e_bool, e_ite, e_idx, e_cut, e_rev, e_back, e_call, e_bi, e_len, e_isi, e_fmt, e_split, e_join, q_val, q_not, q_and, q_or, and_nil, and_cons, or_nil, or_cons, ds_nil, ds_cons, vs_nil, vs_cons, bool_one, bool_cons, s_set_, s_setp_, s_ret_, s_ifs_, s_rais_, s_append_, s_expr_, s_frz_, ss_nil_, ss_cons_, getV_0, getV_s, truD_bl, truD_int, truD_lst, rdV_d, optI_0, optI_1, setV_d, setV_box, setV_t, setT_v, setT_t, setTs_0, setTs_c, setPar_0, setPar_d, setPar_box, wipe_0, wipe_c, obind_some, noFn_non, noFn_bl, noFn_int, noFn_str, noFn_lst, noFn_tup, add_ii, sub_ii, lt_ii, le_ii, gt_ii, ge_ii, idx_t, idx_l, at_0, at_1, at_2, at_3, at_4, cut_l, cut_t, cutL_1, cutL_3, cutL_t3, len_l, len_t, tup_l, list_t, int_i, leave_d0, leave_n0, leave_x0, F1]
end E02

set_option Elab.async false
set_option linter.all false
set_option autoImplicit false
set_option maxRecDepth 100000
set_option maxHeartbeats 4000000
set_option exponentiation.threshold 256
/-! Drawn walkers, also at a light's edge; what is refused, by the evaluator. Own work. -/
namespace E02
open PySem Ev C02 M15 M01 M02 Tx
theorem k_walker {n : Nat} {ls : List (List Int)} {e l q z : Int} {A B : Sto} {L : List Int} (H : SOk ls e l q z) :
    ∃ (t b m p : Int) (L' : List Int), KOk l q z t b m p ∧ (calls P (n + 2)).fn 30 [.box A.length, .d (sD ls e l q z)] (bagS A L B) = .ok (.d (.tup [fD (t, b), fD (m, p)])) (bagS A L' B) := by
  obtain ⟨t, b, m, p, L', hK, ⟨h1, h2, h3, h4, h5, h6⟩, hw⟩ := f_walker (n := n) (A := A) (B := B) (L := L) H.st (by have := H.q1; have := H.l1; omega)
  exact ⟨t, b, m, p, L', ⟨hK, h1, h2, ⟨h4, bd_mono h5 (by omega), h6⟩⟩, hw⟩
theorem light_in {e : Int} (he : e ≤ 20) : ∀ (rows : List (List Int)) (h : Int), 0 ≤ h → lawL e h (rows.map rowD) = true → ∀ row ∈ rows, ∃ pl g r sh, row = [pl, g, r, sh] ∧ 1 ≤ pl ∧ pl < e ∧ GR g r sh
  | [], h, _, _, row, hr => by cases hr
  | r0 :: rows, h, h0, k, row, hr => by
    obtain ⟨pl, g, r, sh, rfl, a1, a2, L, k2, G⟩ := ahead2 he h0 k
    rcases List.mem_cons.mp hr with e1 | e1
    · exact ⟨pl, g, r, sh, e1, by omega, a2, G⟩
    · exact light_in he rows pl (by omega) k2 row e1
theorem f_edge {n : Nat} {ls : List (List Int)} {e l q z : Int} {A B : Sto} {L : List Int} (H : SOk ls e l q z) :
    ∃ (t b m p : Int) (L' : List Int), KOk l q z t b m p ∧ (calls P (n + 3)).fn 36 [.box A.length, .d (sD ls e l q z)] (bagS A L B) = .ok (.d (.tup [fD (t, b), fD (m, p)])) (bagS A L' B) := by
  have i0 : idxD (sD ls e l q z) (.int 0) = some (.tup (ls.map rowD)) := by simp only [sD, idx_t, at_0]; rfl
  have i3 : idxD (sD ls e l q z) (.int 3) = some (.int q) := by simp only [sD, idx_t, at_3]
  have i4 : idxD (sD ls e l q z) (.int 4) = some (.int z) := by simp only [sD, idx_t, at_4]
  have ok0 : okD 60 (.tup (ls.map rowD)) = true := okD_tup fun x hx => by
    obtain ⟨r, hr, rfl⟩ := List.mem_map.mp hx
    exact okD_tup fun y hy => by
      obtain ⟨i, _, rfl⟩ := List.mem_map.mp hy
      exact okD_int
  have ceq : cmpD .eq (.tup (ls.map rowD)) (.tup []) = some (eqD (.tup (ls.map rowD)) (.tup [])) := eq_ok ok0 (by decide +kernel)
  by_cases hls : ls = []
  · subst hls
    obtain ⟨t, b, m, p, L', K, hw⟩ := k_walker (n := n) (A := A) (B := B) (L := L) H
    refine ⟨t, b, m, p, L', K, ?_⟩
    have ce : eqD (.tup (([] : List (List Int)).map rowD)) (.tup []) = true := rfl
    rw [ce] at ceq
    rw [fn_stepk (c := c__law_edge_walker) rfl rfl bag_len]
    unfold c__law_edge_walker
    simp only [List.map_cons, List.map_nil, List.cons_append, List.nil_append, Nat.sub_self, List.replicate_zero, List.replicate_succ, Nat.reduceSub]
    simp only [List.map_nil] at i0 ceq
    simp [R.bind_ok, R.bind_exc, bindP_ok, bindP_exc, bindD_ok, bindD_exc, ofO_some, rsof_ok, rsof_exc, rsofO_some, andThen_nx, andThen_ret, andThen_exc, e_var, e_lit, e_tup, e_lst, e_neg, e_not, e_bin, e_cmp, e_chain, e_bool, e_ite, e_idx, e_cut, e_rev, e_back, e_call, e_bi, e_len, e_isi, e_fmt, e_split, e_join, q_val, q_not, q_and, q_or, and_nil, and_cons, or_nil, or_cons, ds_nil, ds_cons, vs_nil, vs_cons, bool_one, bool_cons, s_set_, s_setp_, s_ret_, s_ifs_, s_rais_, s_append_, s_expr_, s_frz_, ss_nil_, ss_cons_, getV_0, getV_s, truD_bl, truD_int, truD_lst, rdV_d, optI_0, optI_1, setV_d, setV_box, setV_t, setT_v, setT_t, setTs_0, setTs_c, setPar_0, setPar_d, setPar_box, wipe_0, wipe_c, obind_some, noFn_non, noFn_bl, noFn_int, noFn_str, noFn_lst, noFn_tup, add_ii, sub_ii, lt_ii, le_ii, gt_ii, ge_ii, idx_t, idx_l, at_0, at_1, at_2, at_3, at_4, cut_l, cut_t, cutL_1, cutL_3, cutL_t3, len_l, len_t, tup_l, list_t, int_i, leave_d0, leave_n0, leave_x0, i0, ceq, hw, bag_leave]
  · have ce : eqD (.tup (ls.map rowD)) (.tup []) = false := by
      cases ls with
      | nil => exact absurd rfl hls
      | cons r rs => rfl
    rw [ce] at ceq
    obtain ⟨x, hx, hch⟩ := f_choice (n := n) (A := A) (B := B) (L := L) (xs := ls.map rowD) (by simpa using hls)
    obtain ⟨row, hrow, rfl⟩ := List.mem_map.mp hx
    obtain ⟨pl, g, r, sh, rfl, p1, p2, G⟩ := light_in H.e1.2 ls 0 (by omega) H.way row hrow
    have g1 := G.ga
    have r1 := G.ra
    have s1 := G.sa
    have e1 := H.e1
    have q1 := H.q1
    obtain ⟨y, hy, hch2⟩ := f_choice (n := n) (A := A) (B := B) (L := L.tail) (xs := [.int 0, .int g]) (by simp)
    obtain ⟨c, rfl, hc⟩ : ∃ c : Int, y = .int c ∧ 0 ≤ c ∧ c ≤ 30 := by
      simp only [List.mem_cons, List.not_mem_nil, or_false] at hy
      rcases hy with rfl | rfl
      · exact ⟨0, rfl, by omega, by omega⟩
      · exact ⟨g, rfl, by omega, by omega⟩
    obtain ⟨t1, t2⟩ := tk_ok (L := L.tail.tail) (m := 4) (by decide)
    have T := f_take (n := n + 1) (A := A) (B := B) (L := L.tail.tail) (m := 4) (by decide)
    generalize hk : tk L.tail.tail 4 = k at *
    have m1 : binD .mul (.int k) (.int (g + r)) = some (.int (k * (g + r))) := mul_big (x := 7) (y := 7) (bd_7 (by omega)) (bd_7 (by omega)) (by omega)
    have k0 : 0 ≤ k * (g + r) := Int.mul_nonneg (by omega) (by omega)
    have k2 : k * (g + r) ≤ 3 * 60 := Int.mul_le_mul (by omega) (by omega) (by omega) (by omega)
    generalize hG : sh + c + k * (g + r) = goal at *
    obtain ⟨t, b, m0, p0, L2, K0, hw0⟩ := k_walker (n := n) (A := A) (B := B) (L := L.tail.tail.tail) H
    obtain ⟨j1, j2, j3, j4⟩ := K0.parts
    have b0 : 0 < b := j1.1
    have bb : b < 8 := by
      have := K0.b3
      unfold bd at this
      have e3 : (2 : Nat) ^ 3 = 8 := by decide
      rw [e3] at this
      omega
    have lb : l * b ≤ 20 * 7 := Int.mul_le_mul H.l1.2 (by omega) (by omega) (by omega)
    have bg : bd 10 goal := by
      unfold bd
      have e3 : (2 : Nat) ^ 10 = 1024 := by decide
      rw [e3]; omega
    have m2 : binD .mul (.int goal) (.int b) = some (.int (goal * b)) := mul_big bg K0.b3 (by omega)
    have m3 : binD .mul (.int pl) (.int b) = some (.int (pl * b)) := mul_big (x := 7) (bd_7 (by omega)) K0.b3 (by omega)
    have gb : goal * b ≤ 1000 * 7 := Int.mul_le_mul (by omega) (by omega) (by omega) (by omega)
    have gb0 : 0 ≤ goal * b := Int.mul_nonneg (by omega) (by omega)
    have pb : pl * b ≤ 19 * 7 := Int.mul_le_mul (by omega) (by omega) (by omega) (by omega)
    have pb0 : 0 < pl * b := Int.mul_pos (by omega) b0
    have F := fun {S : Sto} => f_lowest (n := n + 1) (a := goal * b - t) (b := pl * b) (S := S) pb0 (by
      have : bd 8 (pl * b) := bd_8 (by omega)
      exact bd_mono this (by omega))
    have cnp := lw_cn (a := goal * b - t) (b := pl * b) pb0
    have lwp := lw_parts (a := goal * b - t) (b := pl * b) pb0
    have gp := gpos (a := goal * b - t) (b := pl * b) pb0
    have le2 : (lw (goal * b - t) (pl * b)).2 ≤ pl * b := Int.ediv_le_self _ (by omega)
    have F' : ∀ {S : Sto}, (calls P (n + 2)).fn 26 [.d (.int (goal * b - t)), .d (.int (pl * b))] S = .ok (.d (.tup [.int (lw (goal * b - t) (pl * b)).1, .int (lw (goal * b - t) (pl * b)).2])) S := F
    clear F
    have ab : (lw (goal * b - t) (pl * b)).1.natAbs ≤ (goal * b - t).natAbs := div_abs gp
    generalize lw (goal * b - t) (pl * b) = w at *
    obtain ⟨m, p⟩ := w
    simp only at *
    have p0' : 0 < p := cnp.1
    have bm : bd 20 m := by
      unfold bd
      rw [p20]
      omega
    have bp : bd 8 p := bd_8 (by omega)
    have L1 := fun {S : Sto} => f_less (n := n + 1) (a := m) (b := p) (c := q) (d := 1) (S := S) (mul_big bm (bd_one (K := 0)) (by omega)) (mul_big (x := 7) (bd_7 (by omega)) bp (by omega))
    have L2' := fun {S : Sto} => f_less (n := n + 1) (a := z) (b := 1) (c := m) (d := p) (S := S) (mul_big (x := 7) (bd_7 (by omega)) bp (by omega)) (mul_big bm (bd_one (K := 0)) (by omega))
    simp only [Int.mul_one] at L1 L2'
    have il : biD .list (.tup (ls.map rowD)) = some (.lst (ls.map rowD)) := rfl
    have er : rowD [pl, g, r, sh] = .tup [.int pl, .int g, .int r, .int sh] := rfl
    obtain ⟨t', b', m', p', L3, K', hw'⟩ := k_walker (n := n) (A := A) (B := B) (L := L2) H
    have ex : fD (t, b) = .tup [.int t, .int b] := rfl
    by_cases c1 : m < q * p
    · refine ⟨t', b', m', p', L3, K', ?_⟩
      rw [fn_stepk (c := c__law_edge_walker) rfl rfl bag_len]
      unfold c__law_edge_walker
      simp only [List.map_cons, List.map_nil, List.cons_append, List.nil_append, Nat.sub_self, List.replicate_zero, List.replicate_succ, Nat.reduceSub]
      simp [R.bind_ok, R.bind_exc, bindP_ok, bindP_exc, bindD_ok, bindD_exc, ofO_some, rsof_ok, rsof_exc, rsofO_some, andThen_nx, andThen_ret, andThen_exc, e_var, e_lit, e_tup, e_lst, e_neg, e_not, e_bin, e_cmp, e_chain, e_bool, e_ite, e_idx, e_cut, e_rev, e_back, e_call, e_bi, e_len, e_isi, e_fmt, e_split, e_join, q_val, q_not, q_and, q_or, and_nil, and_cons, or_nil, or_cons, ds_nil, ds_cons, vs_nil, vs_cons, bool_one, bool_cons, s_set_, s_setp_, s_ret_, s_ifs_, s_rais_, s_append_, s_expr_, s_frz_, ss_nil_, ss_cons_, getV_0, getV_s, truD_bl, truD_int, truD_lst, rdV_d, optI_0, optI_1, setV_d, setV_box, setV_t, setT_v, setT_t, setTs_0, setTs_c, setPar_0, setPar_d, setPar_box, wipe_0, wipe_c, obind_some, noFn_non, noFn_bl, noFn_int, noFn_str, noFn_lst, noFn_tup, add_ii, sub_ii, lt_ii, le_ii, gt_ii, ge_ii, idx_t, idx_l, at_0, at_1, at_2, at_3, at_4, cut_l, cut_t, cutL_1, cutL_3, cutL_t3, len_l, len_t, tup_l, list_t, int_i, leave_d0, leave_n0, leave_x0, i0, ceq, il, hch, er, hch2, T, hk, m1, hG, hw0, ex, m2, m3, F', i3, i4, L1, c1, hw', bag_leave]
    · by_cases c2 : z * p < m
      · refine ⟨t', b', m', p', L3, K', ?_⟩
        rw [fn_stepk (c := c__law_edge_walker) rfl rfl bag_len]
        unfold c__law_edge_walker
        simp only [List.map_cons, List.map_nil, List.cons_append, List.nil_append, Nat.sub_self, List.replicate_zero, List.replicate_succ, Nat.reduceSub]
        simp [R.bind_ok, R.bind_exc, bindP_ok, bindP_exc, bindD_ok, bindD_exc, ofO_some, rsof_ok, rsof_exc, rsofO_some, andThen_nx, andThen_ret, andThen_exc, e_var, e_lit, e_tup, e_lst, e_neg, e_not, e_bin, e_cmp, e_chain, e_bool, e_ite, e_idx, e_cut, e_rev, e_back, e_call, e_bi, e_len, e_isi, e_fmt, e_split, e_join, q_val, q_not, q_and, q_or, and_nil, and_cons, or_nil, or_cons, ds_nil, ds_cons, vs_nil, vs_cons, bool_one, bool_cons, s_set_, s_setp_, s_ret_, s_ifs_, s_rais_, s_append_, s_expr_, s_frz_, ss_nil_, ss_cons_, getV_0, getV_s, truD_bl, truD_int, truD_lst, rdV_d, optI_0, optI_1, setV_d, setV_box, setV_t, setT_v, setT_t, setTs_0, setTs_c, setPar_0, setPar_d, setPar_box, wipe_0, wipe_c, obind_some, noFn_non, noFn_bl, noFn_int, noFn_str, noFn_lst, noFn_tup, add_ii, sub_ii, lt_ii, le_ii, gt_ii, ge_ii, idx_t, idx_l, at_0, at_1, at_2, at_3, at_4, cut_l, cut_t, cutL_1, cutL_3, cutL_t3, len_l, len_t, tup_l, list_t, int_i, leave_d0, leave_n0, leave_x0, i0, ceq, il, hch, er, hch2, T, hk, m1, hG, hw0, ex, m2, m3, F', i3, i4, L1, c1, L2', c2, hw', bag_leave]
      · have qp : 0 ≤ q * p := Int.mul_nonneg (by omega) (by omega)
        have zp : z * p ≤ 3 * 133 := Int.mul_le_mul (by omega) (by omega) (by omega) (by omega)
        have f1 : isF (fD (t, b)) = true := by
          have := K0.k
          unfold isK at this
          simp only [Bool.and_eq_true] at this
          exact this.1.1.1.1.1
        have f2 : isF (fD (m, p)) = true := by
          show (isW (.int m) (-1000000) 1000000 && isW (.int p) 1 1000000 && decide (Int.gcd m p = 1)) = true
          rw [decide_eq_true cnp.2, Bool.and_true]
          show ((decide (-1000000 ≤ m) && decide (m ≤ 1000000)) && (decide (1 ≤ p) && decide (p ≤ 1000000))) = true
          rw [decide_eq_true (by omega : -1000000 ≤ m), decide_eq_true (by omega : m ≤ 1000000), decide_eq_true (by omega : 1 ≤ p), decide_eq_true (by omega : p ≤ 1000000)]
          rfl
        have hk2 : isK l q z (.tup [fD (t, b), fD (m, p)]) = true := by
          show (isF (fD (t, b)) && isF (fD (m, p)) && decide (0 ≤ t) && decide (t ≤ l * b) && decide (q * p ≤ m) && decide (m ≤ z * p)) = true
          rw [f1, f2, decide_eq_true j2.1, decide_eq_true j2.2, decide_eq_true (by omega : q * p ≤ m), decide_eq_true (by omega : m ≤ z * p)]
          rfl
        refine ⟨t, b, m, p, L2, ⟨hk2, K0.t10, K0.b3, ⟨?_, bp, p0'⟩⟩, ?_⟩
        · unfold bd
          have e3 : (2 : Nat) ^ 10 = 1024 := by decide
          simp only
          rw [e3]; omega
        · rw [fn_stepk (c := c__law_edge_walker) rfl rfl bag_len]
          unfold c__law_edge_walker
          simp only [List.map_cons, List.map_nil, List.cons_append, List.nil_append, Nat.sub_self, List.replicate_zero, List.replicate_succ, Nat.reduceSub]
          simp [R.bind_ok, R.bind_exc, bindP_ok, bindP_exc, bindD_ok, bindD_exc, ofO_some, rsof_ok, rsof_exc, rsofO_some, andThen_nx, andThen_ret, andThen_exc, e_var, e_lit, e_tup, e_lst, e_neg, e_not, e_bin, e_cmp, e_chain, e_bool, e_ite, e_idx, e_cut, e_rev, e_back, e_call, e_bi, e_len, e_isi, e_fmt, e_split, e_join, q_val, q_not, q_and, q_or, and_nil, and_cons, or_nil, or_cons, ds_nil, ds_cons, vs_nil, vs_cons, bool_one, bool_cons, s_set_, s_setp_, s_ret_, s_ifs_, s_rais_, s_append_, s_expr_, s_frz_, ss_nil_, ss_cons_, getV_0, getV_s, truD_bl, truD_int, truD_lst, rdV_d, optI_0, optI_1, setV_d, setV_box, setV_t, setT_v, setT_t, setTs_0, setTs_c, setPar_0, setPar_d, setPar_box, wipe_0, wipe_c, obind_some, noFn_non, noFn_bl, noFn_int, noFn_str, noFn_lst, noFn_tup, add_ii, sub_ii, lt_ii, le_ii, gt_ii, ge_ii, idx_t, idx_l, at_0, at_1, at_2, at_3, at_4, cut_l, cut_t, cutL_1, cutL_3, cutL_t3, len_l, len_t, tup_l, list_t, int_i, leave_d0, leave_n0, leave_x0, i0, ceq, il, hch, er, hch2, T, hk, m1, hG, hw0, ex, m2, m3, F', i3, i4, L1, c1, L2', c2, bag_leave, fD]
end E02

set_option Elab.async false
set_option linter.all false
set_option autoImplicit false
set_option maxRecDepth 100000
set_option maxHeartbeats 4000000
set_option exponentiation.threshold 256
/-! What is refused, by the evaluator. Own work. -/
namespace E02
open PySem Ev C02 M15 M01 M02 Tx
theorem leaveR_x {S : Sto} {c : Nat} : leaveR S.length (.exc c S) = .exc c S := by
  show (R.exc c (S.take S.length) : R Val) = _
  simp
theorem err_step {n k : Nat} {c : LamC} {r : Ev.Env} {S : Sto} (h : P.lam k = some c) (hp : c.ps = []) : (calls P (n + 2)).err false k r S = errR false P.label (leaveR S.length (evE (calls P n) c.body r S)) := by
  show errR false P.label (match P.lam k with | some c => runLam (calls P n) c r [] S | none => .stuck) = _
  rw [h]
  simp only [runLam, hp, setArgs]
theorem e_callv_ {C : Calls} {r : Ev.Env} {S : Sto} {i f : Nat} {es : List Ex} (h : getV r i = some (.d (.fn f))) : evE C (.callv i es) r S = (evVs C es r S).bind fun vs S => C.fn f vs S := by
  simp only [evE, h]
theorem e_callc_ {C : Calls} {r q : Ev.Env} {S : Sto} {i k : Nat} {es : List Ex} (h : getV r i = some (.clo k q)) : evE C (.callv i es) r S = (evVs C es r S).bind fun vs S => if vs.all slotV then C.lam k q vs S else .stuck := by
  simp only [evE, h]
theorem e_errl_ {C : Calls} {r : Ev.Env} {S S' : Sto} {k : Nat} {cap : List Nat} {told : Bool} {v : Val} (h : C.err told k (keepV r cap) S = .ok v S') : evE C (.errl k cap told) r S = .ok v S' := by
  simp only [evE, h]
theorem e_calll_ {C : Calls} {r : Ev.Env} {S S' S2 : Sto} {f k : Nat} {cap : List Nat} {es : List Ex} {vs : List Val} {v : D} (h1 : evVs C es r S = .ok vs S') (h : C.fn f (.clo k (keepV r cap) :: vs) S' = .ok (.d v) S2) : evE C (.calll f k cap es) r S = .ok (.d v) S2 := by
  simp only [evE, h1, R.bind_ok, h, slotV, if_true]
/-- each of some values is refused with the error of that name -/
theorem all_ref {n : Nat} {v0 : Val} {odds : List D} {nm : Str} {S : Sto} (hl : odds.length ≤ 1000) (hn : PyData.strOk nm = true) (h : ∀ odd ∈ odds, ∀ T : Sto, (calls P (n + 2)).err false 0 [some v0, none, none, some (.d odd), none] T = .ok (.d (.str nm)) T) :
    (calls P (n + 3)).fn 35 [v0, .d (.lst odds), .d (.str nm)] S = .ok (.d (.bl true)) S := by
  have okn : okD 60 (.str nm) = true := hn
  have hc : evE (calls P (n + 2)) (.comp .val [(.var 1)] (.v 3) [(.val (.cmp .ne (.errl 0 [0, 3] false) (.var 2)))] (.var 3) [3]) [some v0, some (.d (.lst odds)), some (.d (.str nm)), none] S = .ok (.d (.lst (odds.filterMap fun _ => none))) S := by
    refine e_comp_ (fun _ => none) (vs := [.lst odds]) (its := odds) ?_ rfl (by rw [sizeMax_eq']; omega) fun x hx T => ⟨[some v0, some (.d (.lst odds)), some (.d (.str nm)), some (.d x)], rfl, ?_⟩
    · simp only [ds_cons, ds_nil, e_var, getV_s, getV_0, ofO_some, bindP_ok, R.bind_ok]
    · have hk : keepV [some v0, some (.d (.lst odds)), some (.d (.str nm)), some (.d x)] [0, 3] = [some v0, none, none, some (.d x), none] := rfl
      have he := e_errl_ (C := calls P (n + 2)) (k := 0) (cap := [0, 3]) (told := false) (r := [some v0, some (.d (.lst odds)), some (.d (.str nm)), some (.d x)]) (S := T) (by rw [hk]; exact h x hx T)
      simp only [and_cons, and_nil, q_val, e_cmp, he, R.bind_ok, e_var, getV_s, getV_0, ofO_some, bindD_ok, rdV_d, ne_self okn, Option.map_some, truD_bl, Bool.false_eq_true, if_false]
  have hf : odds.filterMap (fun _ => (none : Option D)) = [] := by
    clear hc h hl
    induction odds with
    | nil => rfl
    | cons a l ih => simpa using ih
  have ce : cmpD .eq (.lst []) (.lst []) = some true := eq_self' (by decide +kernel)
  rw [hf] at hc
  rw [fn_step (c := c__law_all_refused) rfl rfl]
  unfold c__law_all_refused
  simp only [List.map_cons, List.map_nil, List.cons_append, List.nil_append, Nat.sub_self, List.replicate_zero, List.replicate_succ, Nat.reduceSub]
  simp only [ss_cons_, s_ret_, e_cmp, hc, R.bind_ok, e_lst, ds_nil, bindD_ok, rdV_d, ce, Option.map_some, ofO_some, rsof_ok, andThen_ret, leave_d0]
/-- a closure that raises is refused -/
theorem err_clo {n k cls : Nat} {c : LamC} {q q2 : Ev.Env} {x : D} {nm : Str} {T : Sto} (hk : P.lam k = some c) (hs : setArgs c.ps [.d x] q = some q2) (hb : evE (calls P n) c.body q2 T = .exc cls T) (hnm : P.label cls = some (.str nm)) :
    (calls P (n + 3)).err false 0 [some (.clo k q), none, none, some (.d x), none] T = .ok (.d (.str nm)) T := by
  have hl : (calls P (n + 1)).lam k q [.d x] T = .exc cls T := by
    show (match P.lam k with | some c => runLam (calls P n) c q [.d x] T | none => .stuck) = _
    rw [hk]
    simp only [runLam, hs, hb, leaveR_x]
  rw [err_step (n := n + 1) (c := lc_0) rfl rfl]
  have hg : getV [some (.clo k q), none, none, some (.d x), none] 0 = some (.clo k q) := rfl
  unfold lc_0
  simp only [e_callc_ hg, vs_cons, vs_nil, e_var, getV_s, getV_0, ofO_some, R.bind_ok, List.all_cons, List.all_nil, slotV, Bool.and_self, if_true, hl, leaveR_x]
  show (match P.label cls with | some x => R.ok (Val.d (if false = true then D.tup [.non, x] else x)) T | none => .stuck) = _
  rw [hnm]
  rfl
/-! ### odd walkers, odd words -/
def wOdds (l q : Int) (x w : Int × Int) : List D := [.non, .tup [fD x], .lst [fD x, fD w], .tup [.tup [.int 0, .int 1], .tup [.int 7, .int 2]], .tup [.tup [.int 0, .int 2], .tup [.int 1, .int 1]], .tup [.tup [.int (l + 1), .int 1], .tup [.int q, .int 1]]]
theorem wOdds_bad {l q z : Int} {x w : Int × Int} (hz : z ≤ 3) : ∀ v ∈ wOdds l q x w, isK l q z v = false ∧ okn 2 v = true := by
  intro v hv
  simp only [wOdds, List.mem_cons, List.not_mem_nil, or_false] at hv
  rcases hv with rfl | rfl | rfl | rfl | rfl | rfl
  · exact ⟨rfl, rfl⟩
  · exact ⟨rfl, by simp [okn, noFn, fD]⟩
  · exact ⟨rfl, by simp [okn, noFn, fD]⟩
  · refine ⟨?_, by simp [okn, noFn]⟩
    have : decide (frT (.tup [.int 7, .int 2]) ≤ z * frB (.tup [.int 7, .int 2])) = false := by
      show decide ((7 : Int) ≤ z * 2) = false
      exact decide_eq_false (by omega)
    unfold isK
    simp only [this, Bool.and_false]
  · refine ⟨?_, by simp [okn, noFn]⟩
    have : isF (.tup [.int 0, .int 2]) = false := by decide +kernel
    unfold isK
    simp only [this, Bool.false_and]
  · refine ⟨?_, by simp [okn, noFn]⟩
    have : decide (frT (.tup [.int (l + 1), .int 1]) ≤ l * frB (.tup [.int (l + 1), .int 1])) = false := by
      show decide (l + 1 ≤ l * 1) = false
      exact decide_eq_false (by omega)
    unfold isK
    simp only [this, Bool.and_false, Bool.false_and]
def dOdds (evs : List D) : List D := [.non, .tup (evs ++ [.tup [.str "go", .int 1]]), .lst evs, .tup [.tup [.str "stay", .int 1]], .tup ((List.replicate evs.length [D.tup [.str "go", .int 100]]).flatten ++ [.int 1])]
theorem sz_two {d : Nat} {s : Str} {i : Int} (h : PyData.strOk s = true) : sz (d + 1) 10 (.tup [.str s, .int i]) = true := by
  refine mk_tup (by simp) fun x hx => ?_
  simp only [List.mem_cons, List.not_mem_nil, or_false] at hx
  rcases hx with rfl | rfl
  · exact sz_flat h
  · exact sz_flat rfl
theorem dOdds_bad {evs : List D} (h3 : evs.length ≤ 3) (he : ∀ v ∈ evs, evN v) : ∀ v ∈ dOdds evs, isD evs.length v = false ∧ sz 2 10 v = true := by
  intro v hv
  simp only [dOdds, List.mem_cons, List.not_mem_nil, or_false] at hv
  rcases hv with rfl | rfl | rfl | rfl | rfl
  · exact ⟨rfl, rfl⟩
  · refine ⟨?_, mk_tup (by simp; omega) fun x hx => ?_⟩
    · show (decide ((evs ++ [D.tup [.str "go", .int 1]]).length = evs.length) && _) = false
      rw [decide_eq_false (by simp), Bool.false_and]
    · rcases List.mem_append.mp hx with h | h
      · exact evN_sz (he x h)
      · simp at h; subst h; exact sz_two (by decide +kernel)
  · exact ⟨rfl, mk_lst (by omega) fun x hx => evN_sz (he x hx)⟩
  · refine ⟨?_, mk_tup (by simp) fun x hx => ?_⟩
    · have : isE (.tup [.str "stay", .int 1]) = false := by decide +kernel
      unfold isD
      simp only [List.all_cons, this, Bool.false_and, Bool.and_false]
    · simp at hx; subst hx; exact sz_two (by decide +kernel)
  · have hl : ∀ k : Nat, (List.replicate k [D.tup [.str "go", .int 100]]).flatten.length = k := fun k => by
      induction k with
      | zero => rfl
      | succ k ih => simp [List.replicate_succ]
    refine ⟨?_, mk_tup (by rw [List.length_append, hl]; simp; omega) fun x hx => ?_⟩
    · show (decide (((List.replicate evs.length [D.tup [.str "go", .int 100]]).flatten ++ [D.int 1]).length = evs.length) && _) = false
      rw [decide_eq_false (by rw [List.length_append, hl]; simp), Bool.false_and]
    · rcases List.mem_append.mp hx with h | h
      · obtain ⟨l, h1, h2⟩ := List.mem_flatten.mp h
        rw [List.eq_of_mem_replicate h1] at h2
        simp at h2; subst h2; exact sz_two (by decide +kernel)
      · simp at h; subst h; rfl
end E02

set_option Elab.async false
set_option linter.all false
set_option autoImplicit false
set_option maxRecDepth 100000
set_option maxHeartbeats 4000000
set_option exponentiation.threshold 256
/-! A street's turn, by the evaluator. Own work. -/
namespace E02
open PySem Ev C02 M15 M01 M02 Tx
def tB : List St := [.set (.v 9) (.ite (.val (.cmp .lt (.var 4) (.lit (.int 5)))) (.call 30 [(.var 2), (.var 3)]) (.call 36 [(.var 2), (.var 3)])), .set (.t [(.v 10), (.v 11), (.v 12)]) (.call 31 [(.var 3), (.var 9)]), .ifs (.bool false [(.val (.cmp .ne (.call 17 [(.var 3), (.var 9)]) (.var 10))), (.val (.cmp .ne (.call 18 [(.var 3), (.var 9)]) (.var 11)))]) [.ret (.lit (.bl false))] [], .ifs (.bool false [(.val (.cmp .ne (.call 19 [(.var 3), (.var 9)]) (.var 12))), (.not (.val (.call 34 [(.call 20 [(.var 3), (.var 9), (.var 10)]), (.lit (.bl true))])))]) [.ret (.lit (.bl false))] [], .ifs (.val (.cmp .ne (.var 10) (.tup []))) [.set (.v 13) (.bin .add (.cut (.var 10) [] [(.neg (.lit (.int 1)))]) (.tup [(.tup [(.idx (.idx (.var 10) (.neg (.lit (.int 1)))) (.lit (.int 0))), (.bin .add (.idx (.idx (.var 10) (.neg (.lit (.int 1)))) (.lit (.int 1))) (.lit (.int 1)))])])), .ifs (.not (.val (.call 34 [(.call 20 [(.var 3), (.var 9), (.var 13)]), (.lit (.bl false))]))) [.ret (.lit (.bl false))] []] []]
def cB : List St := [.ifs (.not (.val (.calll 35 1 [3, 6] [(.var 5), (.lit (.str "walker"))]))) [.ret (.lit (.bl false))] [], .ifs (.val (.cmp .ne (.errl 2 [3, 6] false) (.lit (.str "street")))) [.ret (.lit (.bl false))] []]
def lawB : List St := [.set (.v 2) (.call 23 [(.var 0), (.var 1)]), .set (.v 3) (.call 29 [(.var 2), (.lit (.int 3))]), .forr .range1 [(.lit (.int 12))] (.v 4) tB, .set (.v 5) (.box [(.lit .non), (.cut (.var 9) [] [(.lit (.int 1))]), (.bi .list (.var 9)), (.tup [(.tup [(.lit (.int 0)), (.lit (.int 1))]), (.tup [(.lit (.int 7)), (.lit (.int 2))])]), (.tup [(.tup [(.lit (.int 0)), (.lit (.int 2))]), (.tup [(.lit (.int 1)), (.lit (.int 1))])])]), .append 5 (.tup [(.tup [(.bin .add (.idx (.var 3) (.lit (.int 2))) (.lit (.int 1))), (.lit (.int 1))]), (.tup [(.idx (.var 3) (.lit (.int 3))), (.lit (.int 1))])]), .frz 5, .forr .val [(.lst [(.fnr 17), (.fnr 18), (.fnr 19)])] (.v 6) cB, .ifs (.not (.val (.calll 35 3 [3] [(.var 5), (.lit (.str "walker"))]))) [.ret (.lit (.bl false))] [], .set (.v 5) (.box [(.lit .non), (.bin .add (.var 10) (.tup [(.tup [(.lit (.str "go")), (.lit (.int 1))])])), (.bi .list (.var 10)), (.tup [(.tup [(.lit (.str "stay")), (.lit (.int 1))])]), (.bin .add (.bin .mul (.tup [(.tup [(.lit (.str "go")), (.lit (.int 100))])]) (.len (.var 10))) (.tup [(.lit (.int 1))]))]), .frz 5, .ifs (.not (.val (.calll 35 4 [3, 9] [(.var 5), (.lit (.str "word"))]))) [.ret (.lit (.bl false))] []]
theorem law_code : c_law = ⟨1, 15, [.forr .range1 [(.lit (.int 8))] (.v 1) lawB, .setp [7, 8] [(.tup [(.tup [(.tup [(.lit (.int 4)), (.lit (.int 6)), (.lit (.int 4)), (.lit (.int 0))])]), (.lit (.int 10)), (.lit (.int 5)), (.lit (.int 1)), (.lit (.int 3))]), (.tup [(.tup [(.tup [(.lit (.int 4)), (.lit (.int 6)), (.lit (.int 4)), (.lit (.int 0))]), (.tup [(.lit (.int 8)), (.lit (.int 5)), (.lit (.int 5)), (.lit (.int 3))])]), (.lit (.int 10)), (.lit (.int 5)), (.lit (.int 1)), (.lit (.int 3))])], .ifs (.val (.cmp .ne (.lst [(.call 17 [(.var 7), (.tup [(.tup [(.lit (.int 0)), (.lit (.int 1))]), (.tup [(.lit (.int 1)), (.lit (.int 1))])])]), (.call 17 [(.var 7), (.tup [(.tup [(.lit (.int 2)), (.lit (.int 1))]), (.tup [(.lit (.int 2)), (.lit (.int 1))])])])]) (.lst [(.tup [(.tup [(.lit (.str "go")), (.lit (.int 0))])]), (.tup [(.tup [(.lit (.str "go")), (.lit (.int 1))])])]))) [.ret (.lit (.bl false))] [], .ifs (.bool false [(.val (.cmp .ne (.call 17 [(.var 8), (.tup [(.tup [(.lit (.int 0)), (.lit (.int 1))]), (.tup [(.lit (.int 1)), (.lit (.int 1))])])]) (.tup [(.tup [(.lit (.str "go")), (.lit (.int 0))]), (.tup [(.lit (.str "wait")), (.lit (.int 1))])]))), (.val (.cmp .ne (.call 18 [(.var 8), (.tup [(.tup [(.lit (.int 2)), (.lit (.int 1))]), (.tup [(.lit (.int 2)), (.lit (.int 1))])])]) (.tup [(.lit (.int 27)), (.lit (.int 1))])))]) [.ret (.lit (.bl false))] [], .ifs (.bool false [(.val (.cmp .ne (.call 18 [(.var 7), (.tup [(.tup [(.lit (.int 5)), (.lit (.int 1))]), (.tup [(.lit (.int 1)), (.lit (.int 1))])])]) (.tup [(.lit (.int 16)), (.lit (.int 1))]))), (.val (.cmp .ne (.call 19 [(.var 7), (.tup [(.tup [(.lit (.int 5)), (.lit (.int 1))]), (.tup [(.lit (.int 3)), (.lit (.int 1))])])]) (.tup [(.lit (.int 3)), (.lit (.int 1))])))]) [.ret (.lit (.bl false))] [], .ret (.cmp .eq (.call 17 [(.tup [(.tup [(.tup [(.lit (.int 4)), (.lit (.int 4)), (.lit (.int 6)), (.lit (.int 9))])]), (.lit (.int 10)), (.lit (.int 0)), (.lit (.int 1)), (.lit (.int 1))]), (.tup [(.tup [(.lit (.int 0)), (.lit (.int 1))]), (.tup [(.lit (.int 1)), (.lit (.int 1))])])]) (.tup [(.tup [(.lit (.str "wait")), (.lit (.int 0))])]))]⟩ := rfl
theorem ne_nil {xs : List D} (h : okD 60 (.tup xs) = true) : cmpD .ne (.tup xs) (.tup []) = some (!xs.isEmpty) := by
  rw [ne_ok h (by decide +kernel)]
  cases xs <;> rfl
theorem cut_init {ini : List D} {x : D} : cutL (ini ++ [x]) none (some (-1)) = ini := by
  unfold cutL
  rw [HT.sIx_none]
  have e : HT.sIx (ini ++ [x]).length (ini ++ [x]).length (some (-1)) = ini.length := by
    show (if (-1 : Int) < 0 then ((-1 : Int) + ((ini ++ [x]).length : Int)).toNat else min ((-1 : Int).toNat) (ini ++ [x]).length) = _
    rw [if_pos (by decide), List.length_append, List.length_singleton]
    omega
  rw [e]
  simp
theorem at_last {ini : List D} {x : D} : atD (ini ++ [x]) (-1) = some x := by
  unfold atD L2.ixN
  rw [if_neg (by decide), if_pos (by rw [List.length_append, List.length_singleton]; omega)]
  simp only [List.length_append, List.length_singleton, Option.bind_some]
  rw [show (-1 + ((ini.length + 1 : Nat) : Int)).toNat = ini.length by omega]
  simp
theorem eqDs_last {x y : D} (h : eqD x y = false) : ∀ ini : List D, eqDs (ini ++ [x]) (ini ++ [y]) = false
  | [] => by show (eqD x y && eqDs [] []) = false; rw [h]; rfl
  | a :: ini => by
    show (eqD a a && eqDs (ini ++ [x]) (ini ++ [y])) = false
    rw [eqDs_last h ini, Bool.and_false]
theorem last_of {evs : List D} (h : evs ≠ []) (he : ∀ v ∈ evs, evN v) : ∃ (ini : List D) (s : Str) (i : Int), evs = ini ++ [.tup [.str s, .int i]] ∧ PyData.strOk s = true ∧ isGo (.str s) = true ∧ -9 ≤ i ∧ i < 99 := by
  obtain ⟨ini, x, rfl⟩ : ∃ ini x, evs = ini ++ [x] := ⟨evs.dropLast, evs.getLast h, (List.dropLast_concat_getLast h).symm⟩
  rcases he x (by simp) with ⟨i, rfl, h1, h2⟩ | ⟨i, rfl, h1, h2⟩
  · exact ⟨ini, "go", i, rfl, by decide +kernel, by decide +kernel, h1, h2⟩
  · exact ⟨ini, "wait", i, rfl, by decide +kernel, by decide +kernel, h1, h2⟩
theorem fD_ok {x : Int × Int} : okD 60 (fD x) = true := okD_tup fun v hv => by
  simp only [List.mem_cons, List.not_mem_nil, or_false] at hv
  rcases hv with rfl | rfl <;> exact okD_int
theorem tB_ok {n : Nat} {A : Sto} {L : List Int} {s k : D} {i : Int} {ls : List (List Int)} {e l q z : Int} {x5 x6 x7 x8 x9 x10 x11 x12 x13 x14 : Option Val} (H : SOk ls e l q z) :
    ∃ (t b m p : Int) (L' : List Int) (y13 : Option Val), KOk l q z t b m p ∧ evSs (calls P (n + 10)) tB [some (.d s), some (.d k), some (.box A.length), some (.d (sD ls e l q z)), some (.d (.int i)), x5, x6, x7, x8, x9, x10, x11, x12, x13, x14] (bagS A L []) =
      .nx [some (.d s), some (.d k), some (.box A.length), some (.d (sD ls e l q z)), some (.d (.int i)), x5, x6, x7, x8, some (.d (.tup [fD (t, b), fD (m, p)])), some (.d (.tup (wayW ls (t, b) (m, p)).ev)), some (.d (fD (comes ls e (t, b) (m, p)))), some (.d (fD (wayW ls (t, b) (m, p)).dl)), y13, x14] (bagS A L' []) := by
  have hdraw : ∃ (t b m p : Int) (L' : List Int), KOk l q z t b m p ∧ evE (calls P (n + 10)) (.ite (.val (.cmp .lt (.var 4) (.lit (.int 5)))) (.call 30 [(.var 2), (.var 3)]) (.call 36 [(.var 2), (.var 3)])) [some (.d s), some (.d k), some (.box A.length), some (.d (sD ls e l q z)), some (.d (.int i)), x5, x6, x7, x8, x9, x10, x11, x12, x13, x14] (bagS A L []) = .ok (.d (.tup [fD (t, b), fD (m, p)])) (bagS A L' []) := by
    by_cases h5 : i < 5
    · obtain ⟨t, b, m, p, L', K, hw⟩ := k_walker (n := n + 8) (A := A) (B := []) (L := L) H
      refine ⟨t, b, m, p, L', K, ?_⟩
      simp only [e_ite, q_val, e_cmp, e_var, e_lit, getV_s, getV_0, ofO_some, R.bind_ok, bindD_ok, rdV_d, lt_ii, h5, decide_true, Option.map_some, truD_bl, if_true, e_call, vs_cons, vs_nil, hw]
    · obtain ⟨t, b, m, p, L', K, hw⟩ := f_edge (n := n + 7) (A := A) (B := []) (L := L) H
      refine ⟨t, b, m, p, L', K, ?_⟩
      simp only [e_ite, q_val, e_cmp, e_var, e_lit, getV_s, getV_0, ofO_some, R.bind_ok, bindD_ok, rdV_d, lt_ii, h5, decide_false, Option.map_some, truD_bl, Bool.false_eq_true, if_false, e_call, vs_cons, vs_nil, hw]
  obtain ⟨t, b, m, p, L', K, hd⟩ := hdraw
  obtain ⟨k1, k2, k3, k4⟩ := K.parts
  obtain ⟨w1, w2⟩ := word_ok H K
  have R1 := fun {S : Sto} => f_lrun (n := n + 6) (l := l) (q := q) (s := z) (S := S) H.e1 H.n3 H.way K.t10 K.b3 k1 K.w
  have F1 := fun {S : Sto} => f_three (n := n + 4) (S := S) (.inl rfl) H K
  have F2 := fun {S : Sto} => f_three (n := n + 4) (S := S) (.inr (.inl rfl)) H K
  have F3 := fun {S : Sto} => f_three (n := n + 4) (S := S) (.inr (.inr rfl)) H K
  have t1 : told3 17 ls e (t, b) (m, p) = .tup (wayW ls (t, b) (m, p)).ev := rfl
  have t2 : told3 18 ls e (t, b) (m, p) = fD (comes ls e (t, b) (m, p)) := rfl
  have t3 : told3 19 ls e (t, b) (m, p) = fD (wayW ls (t, b) (m, p)).dl := rfl
  rw [t1] at F1
  rw [t2] at F2
  rw [t3] at F3
  have zs : sz 3 10 (.tup (wayW ls (t, b) (m, p)).ev) = true := mk_tup (by have := H.n3; omega) fun v hv => evN_sz (w2 v hv)
  have oe : okD 60 (.tup (wayW ls (t, b) (m, p)).ev) = true := (sz_ok zs).2 60 (by omega)
  have isd : isD ls.length (.tup (wayW ls (t, b) (m, p)).ev) = true := by
    show (decide ((wayW ls (t, b) (m, p)).ev.length = ls.length) && (wayW ls (t, b) (m, p)).ev.all isE) = true
    rw [decide_eq_true w1, Bool.true_and]
    exact List.all_eq_true.mpr fun v hv => evN_E (w2 v hv)
  have D1 := fun {S : Sto} => f_does (n := n + 4) (v := .tup (wayW ls (t, b) (m, p)).ev) (S := S) H K ((sz_ok zs).1 2) (fun xs h => by cases h; have := H.n3; omega) oe
  simp only [isd, if_true, eqD_self 60 _ oe] at D1
  have T1 := fun {S : Sto} => f_truly (n := n + 9) (a := true) (b := true) (S := S)
  have n1 := ne_self oe
  have n2 := ne_self (fD_ok (x := comes ls e (t, b) (m, p)))
  have n3 := ne_self (fD_ok (x := (wayW ls (t, b) (m, p)).dl))
  have nn := ne_nil oe
  by_cases hne : (wayW ls (t, b) (m, p)).ev = []
  · refine ⟨t, b, m, p, L', x13, K, ?_⟩
    rw [hne] at nn
    unfold tB
    generalize (wayW ls (t, b) (m, p)).dl = dl at *
    generalize comes ls e (t, b) (m, p) = cm at *
    generalize (wayW ls (t, b) (m, p)).ev = ev at *
    subst hne
    simp only [ss_cons_, s_set_, hd, rsof_ok, setV_d, List.length_cons, List.length_nil, Nat.reduceAdd, Nat.reduceLT, if_true, List.set_cons_succ, List.set_cons_zero, rsofO_some, andThen_nx, e_call, vs_cons, vs_nil, e_var, getV_s, getV_0, ofO_some, R.bind_ok, R1, setV_t, setTs_c, setTs_0, setT_v, obind_some, s_ifs_, q_or, or_cons, or_nil, q_val, e_cmp, F1, F2, F3, bindD_ok, rdV_d, n1, n2, n3, Option.map_some, truD_bl, Bool.false_eq_true, if_false, ss_nil_, q_not, e_lit, D1, T1, beq_self_eq_true, Bool.not_true, e_tup, ds_nil, nn, List.isEmpty_nil]
  · obtain ⟨ini, g, j, he, hg, hgo, j1, j2⟩ := last_of hne w2
    refine ⟨t, b, m, p, L', some (.d (.tup (ini ++ [.tup [.str g, .int (j + 1)]]))), K, ?_⟩
    have zo : sz 3 10 (.tup (ini ++ [.tup [.str g, .int (j + 1)]])) = true := by
      rw [he] at zs w1
      refine mk_tup (by have := H.n3; rw [List.length_append, List.length_singleton] at w1 ⊢; omega) fun v hv => ?_
      rcases List.mem_append.mp hv with h | h
      · exact evN_sz (w2 v (by rw [he]; exact List.mem_append_left _ h))
      · simp at h; subst h; exact sz_two hg
    have oo : okD 60 (.tup (ini ++ [.tup [.str g, .int (j + 1)]])) = true := (sz_ok zo).2 60 (by omega)
    have iso : isD ls.length (.tup (ini ++ [.tup [.str g, .int (j + 1)]])) = true := by
      show (decide ((ini ++ [D.tup [.str g, .int (j + 1)]]).length = ls.length) && (ini ++ [D.tup [.str g, .int (j + 1)]]).all isE) = true
      rw [he, List.length_append, List.length_singleton] at w1
      rw [decide_eq_true (by rw [List.length_append, List.length_singleton]; exact w1), Bool.true_and, List.all_append, List.all_eq_true.mpr fun v hv => evN_E (w2 v (by rw [he]; exact List.mem_append_left _ hv)), Bool.true_and]
      show ((isGo (.str g) && (decide (-9 ≤ j + 1) && decide (j + 1 ≤ 99))) && true) = true
      rw [hgo, decide_eq_true (by omega : -9 ≤ j + 1), decide_eq_true (by omega : j + 1 ≤ 99)]
      rfl
    have eqf : eqD (.tup (wayW ls (t, b) (m, p)).ev) (.tup (ini ++ [.tup [.str g, .int (j + 1)]])) = false := by
      rw [he]
      refine eqDs_last ?_ ini
      show (eqD (.str g) (.str g) && (eqD (.int j) (.int (j + 1)) && true)) = false
      rw [eqD_int, decide_eq_false (by omega)]
      simp
    have D2 := fun {S : Sto} => f_does (n := n + 4) (v := .tup (ini ++ [.tup [.str g, .int (j + 1)]])) (S := S) H K ((sz_ok zo).1 2) (fun xs h => by
      cases h
      rw [he, List.length_append, List.length_singleton] at w1
      have := H.n3
      rw [List.length_append, List.length_singleton]; omega) oo
    simp only [iso, if_true, eqf] at D2
    have T2 := fun {S : Sto} => f_truly (n := n + 9) (a := false) (b := false) (S := S)
    have ise : (wayW ls (t, b) (m, p)).ev.isEmpty = false := by cases q : (wayW ls (t, b) (m, p)).ev with
      | nil => exact absurd q hne
      | cons a c => rfl
    rw [ise] at nn
    unfold tB
    generalize (wayW ls (t, b) (m, p)).dl = dl at *
    generalize comes ls e (t, b) (m, p) = cm at *
    generalize (wayW ls (t, b) (m, p)).ev = ev at *
    subst he
    have ad : binD .add (.tup ini) (.tup [.tup [.str g, .int (j + 1)]]) = some (.tup (ini ++ [.tup [.str g, .int (j + 1)]])) := add_tt (by rw [List.length_append, List.length_singleton] at w1; have := H.n3; rw [sizeMax_eq']; simp; omega)
    simp only [ss_cons_, s_set_, hd, rsof_ok, setV_d, List.length_cons, List.length_nil, Nat.reduceAdd, Nat.reduceLT, if_true, List.set_cons_succ, List.set_cons_zero, rsofO_some, andThen_nx, e_call, vs_cons, vs_nil, e_var, getV_s, getV_0, ofO_some, R.bind_ok, R1, setV_t, setTs_c, setTs_0, setT_v, obind_some, s_ifs_, q_or, or_cons, or_nil, q_val, e_cmp, F1, F2, F3, bindD_ok, rdV_d, n1, n2, n3, Option.map_some, truD_bl, Bool.false_eq_true, if_false, ss_nil_, q_not, e_lit, D1, T1, beq_self_eq_true, Bool.not_true, e_tup, ds_nil, nn, Bool.not_false, e_bin, e_cut, e_neg, ds_cons, optI_0, optI_1, bindP_ok, cut_t, cut_init, e_idx, idx_t, at_last, at_0, at_1, add_ii, ad, D2, T2]
end E02

set_option Elab.async false
set_option linter.all false
set_option autoImplicit false
set_option maxRecDepth 100000
set_option maxHeartbeats 4000000
set_option exponentiation.threshold 256
/-! A street's turn: what is refused, by the evaluator. Own work. -/
namespace E02
open PySem Ev C02 M15 M01 M02 Tx
theorem lab2 : P.label 2 = some (.str "walker") := rfl
theorem lab3 : P.label 3 = some (.str "word") := rfl
theorem lab1 : P.label 1 = some (.str "street") := rfl
section
variable {n : Nat} {T : Sto} {s k : D} {ls : List (List Int)} {e l q z t b m p : Int} {x2 x4 x5 x6 x7 x8 x9 x10 x11 x12 x13 x14 : Option Val}
theorem ref_three {f : Nat} (hf : f = 17 ∨ f = 18 ∨ f = 19) (H : SOk ls e l q z) {x w : Int × Int} :
    evE (calls P (n + 10)) (.calll 35 1 [3, 6] [(.var 5), (.lit (.str "walker"))]) [some (.d s), some (.d k), x2, some (.d (sD ls e l q z)), x4, some (.d (.lst (wOdds l q x w))), some (.d (.fn f)), x7, x8, x9, x10, x11, x12, x13, x14] T = .ok (.d (.bl true)) T := by
  have hk : keepV [some (.d s), some (.d k), x2, some (.d (sD ls e l q z)), x4, some (.d (.lst (wOdds l q x w))), some (.d (.fn f)), x7, x8, x9, x10, x11, x12, x13, x14] [3, 6] = [none, none, none, some (.d (sD ls e l q z)), none, none, some (.d (.fn f)), none, none, none, none, none, none, none, none, none] := rfl
  refine e_calll_ (vs := [.d (.lst (wOdds l q x w)), .d (.str "walker")]) (S' := T) ?_ ?_
  · simp only [vs_cons, vs_nil, e_var, e_lit, getV_s, getV_0, ofO_some, R.bind_ok]
  · rw [hk]
    refine all_ref (n := n + 7) (by simp [wOdds]) (by decide +kernel) fun odd ho T => ?_
    obtain ⟨h1, h2⟩ := wOdds_bad H.q1.2.2 odd ho
    refine err_clo (n := n + 6) (c := lc_1) (q2 := [none, none, none, some (.d (sD ls e l q z)), none, none, some (.d (.fn f)), none, none, none, none, none, none, none, some (.d odd), none]) rfl rfl ?_ lab2
    unfold lc_1
    have hg : getV [none, none, none, some (.d (sD ls e l q z)), none, none, some (.d (.fn f)), none, none, none, none, none, none, none, some (.d odd), none] 6 = some (.d (.fn f)) := rfl
    simp only [e_callv_ hg, vs_cons, vs_nil, e_var, getV_s, getV_0, ofO_some, R.bind_ok]
    exact f_three_x (n := n) hf H h2 h1
theorem str_list {f : Nat} (hf : f = 17 ∨ f = 18 ∨ f = 19) (H : SOk ls e l q z) :
    evE (calls P (n + 10)) (.errl 2 [3, 6] false) [some (.d s), some (.d k), x2, some (.d (sD ls e l q z)), x4, x5, some (.d (.fn f)), x7, x8, x9, x10, x11, x12, x13, x14] T = .ok (.d (.str "street")) T := by
  have hk : keepV [some (.d s), some (.d k), x2, some (.d (sD ls e l q z)), x4, x5, some (.d (.fn f)), x7, x8, x9, x10, x11, x12, x13, x14] [3, 6] = [none, none, none, some (.d (sD ls e l q z)), none, none, some (.d (.fn f)), none, none, none, none, none, none, none, none, none] := rfl
  refine e_errl_ ?_
  rw [hk, err_step (n := n + 8) (c := lc_2) rfl rfl]
  have hl : biD .list (sD ls e l q z) = some (.lst [.tup (ls.map fun r => .tup (r.map .int)), .int e, .int l, .int q, .int z]) := rfl
  have hok : okn 3 (.lst [.tup (ls.map fun r => .tup (r.map .int)), .int e, .int l, .int q, .int z]) = true := by simp [okn, noFn]
  have hw := fun {v : D} {S : Sto} => f_three_l (n := n + 2) (w := v) (S := S) hf hok rfl
  have hg : getV [none, none, none, some (.d (sD ls e l q z)), none, none, some (.d (.fn f)), none, none, none, none, none, none, none, none, none] 6 = some (.d (.fn f)) := rfl
  unfold lc_2
  simp only [e_callv_ hg, vs_cons, vs_nil, e_bi, e_lit, e_var, getV_s, getV_0, ofO_some, bindP_ok, hl, Option.map_some, R.bind_ok, hw, leaveR_x]
  rfl
theorem cB_ok {f : Nat} (hf : f = 17 ∨ f = 18 ∨ f = 19) (H : SOk ls e l q z) {x w : Int × Int} :
    evSs (calls P (n + 10)) cB [some (.d s), some (.d k), x2, some (.d (sD ls e l q z)), x4, some (.d (.lst (wOdds l q x w))), some (.d (.fn f)), x7, x8, x9, x10, x11, x12, x13, x14] T =
      .nx [some (.d s), some (.d k), x2, some (.d (sD ls e l q z)), x4, some (.d (.lst (wOdds l q x w))), some (.d (.fn f)), x7, x8, x9, x10, x11, x12, x13, x14] T := by
  have h1 := ref_three (n := n) (T := T) (s := s) (k := k) (x2 := x2) (x4 := x4) (x7 := x7) (x8 := x8) (x9 := x9) (x10 := x10) (x11 := x11) (x12 := x12) (x13 := x13) (x14 := x14) hf H (x := x) (w := w)
  have h2 := str_list (n := n) (T := T) (s := s) (k := k) (x2 := x2) (x4 := x4) (x5 := some (.d (.lst (wOdds l q x w)))) (x7 := x7) (x8 := x8) (x9 := x9) (x10 := x10) (x11 := x11) (x12 := x12) (x13 := x13) (x14 := x14) hf H
  have ns : cmpD .ne (.str "street") (.str "street") = some false := ne_self (by decide +kernel)
  unfold cB
  simp only [ss_cons_, s_ifs_, q_not, q_val, h1, bindD_ok, rdV_d, truD_bl, ofO_some, R.bind_ok, Bool.not_true, rsof_ok, Bool.false_eq_true, if_false, ss_nil_, andThen_nx, e_cmp, h2, e_lit, ns, Option.map_some]
theorem ref_does (H : SOk ls e l q z) {x w : Int × Int} :
    evE (calls P (n + 10)) (.calll 35 3 [3] [(.var 5), (.lit (.str "walker"))]) [some (.d s), some (.d k), x2, some (.d (sD ls e l q z)), x4, some (.d (.lst (wOdds l q x w))), x6, x7, x8, x9, x10, x11, x12, x13, x14] T = .ok (.d (.bl true)) T := by
  have hk : keepV [some (.d s), some (.d k), x2, some (.d (sD ls e l q z)), x4, some (.d (.lst (wOdds l q x w))), x6, x7, x8, x9, x10, x11, x12, x13, x14] [3] = [none, none, none, some (.d (sD ls e l q z)), none, none, none, none, none, none, none, none, none, none, none, none] := rfl
  refine e_calll_ (vs := [.d (.lst (wOdds l q x w)), .d (.str "walker")]) (S' := T) ?_ ?_
  · simp only [vs_cons, vs_nil, e_var, e_lit, getV_s, getV_0, ofO_some, R.bind_ok]
  · rw [hk]
    refine all_ref (n := n + 7) (by simp [wOdds]) (by decide +kernel) fun odd ho T => ?_
    obtain ⟨h1, h2⟩ := wOdds_bad H.q1.2.2 odd ho
    refine err_clo (n := n + 6) (c := lc_3) (q2 := [none, none, none, some (.d (sD ls e l q z)), none, none, none, none, none, none, none, none, none, none, some (.d odd), none]) rfl rfl ?_ lab2
    unfold lc_3
    simp only [e_call, vs_cons, vs_nil, e_var, e_lit, getV_s, getV_0, ofO_some, R.bind_ok]
    exact f_does_x (n := n) H h2 h1
theorem ref_word (H : SOk ls e l q z) (K : KOk l q z t b m p) :
    evE (calls P (n + 10)) (.calll 35 4 [3, 9] [(.var 5), (.lit (.str "word"))]) [some (.d s), some (.d k), x2, some (.d (sD ls e l q z)), x4, some (.d (.lst (dOdds (wayW ls (t, b) (m, p)).ev))), x6, x7, x8, some (.d (.tup [fD (t, b), fD (m, p)])), x10, x11, x12, x13, x14] T = .ok (.d (.bl true)) T := by
  have hk : keepV [some (.d s), some (.d k), x2, some (.d (sD ls e l q z)), x4, some (.d (.lst (dOdds (wayW ls (t, b) (m, p)).ev))), x6, x7, x8, some (.d (.tup [fD (t, b), fD (m, p)])), x10, x11, x12, x13, x14] [3, 9] = [none, none, none, some (.d (sD ls e l q z)), none, none, none, none, none, some (.d (.tup [fD (t, b), fD (m, p)])), none, none, none, none, none, none] := rfl
  obtain ⟨w1, w2⟩ := word_ok H K
  refine e_calll_ (vs := [.d (.lst (dOdds (wayW ls (t, b) (m, p)).ev)), .d (.str "word")]) (S' := T) ?_ ?_
  · simp only [vs_cons, vs_nil, e_var, e_lit, getV_s, getV_0, ofO_some, R.bind_ok]
  · rw [hk]
    refine all_ref (n := n + 7) (by simp [dOdds]) (by decide +kernel) fun odd ho T => ?_
    obtain ⟨h1, h2⟩ := dOdds_bad (by have := H.n3; omega) w2 odd ho
    refine err_clo (n := n + 6) (c := lc_4) (q2 := [none, none, none, some (.d (sD ls e l q z)), none, none, none, none, none, some (.d (.tup [fD (t, b), fD (m, p)])), none, none, none, none, some (.d odd), none]) rfl rfl ?_ lab3
    unfold lc_4
    simp only [e_call, vs_cons, vs_nil, e_var, e_lit, getV_s, getV_0, ofO_some, R.bind_ok]
    have F := f_does (n := n) (v := odd) (S := T) H K ((sz_ok h2).1 2) (fun xs hx => by
      subst hx
      obtain ⟨d', _, h3, _⟩ := sz_tup h2
      omega) ((sz_ok h2).2 60 (by omega))
    rw [w1] at h1
    simp only [h1, Bool.false_eq_true, if_false] at F
    exact F
end
theorem law_turn {n : Nat} {ns : List Int} {s : D} {k : Nat} {S : Sto} {x2 x3 x4 x5 x6 x7 x8 x9 x10 x11 x12 x13 x14 : Option Val} (hs : s = .scr ns ∨ s = .lst (ns.map .int)) (hn : ns.length ≤ 63) (hk : k < 8) :
    ∃ (y2 y3 y4 y5 y6 y7 y8 y9 y10 y11 y12 y13 y14 : Option Val) (S' : Sto), evSs (calls P (n + 10)) lawB [some (.d s), some (.d (.int (k : Int))), x2, x3, x4, x5, x6, x7, x8, x9, x10, x11, x12, x13, x14] S = .nx [some (.d s), some (.d (.int (k : Int))), y2, y3, y4, y5, y6, y7, y8, y9, y10, y11, y12, y13, y14] S' := by
  obtain ⟨L, hbag⟩ := f_bag (n := n + 7) (S := S) hs hn hk
  obtain ⟨ls, e, l, q, z, L1, hst, hstreet⟩ := f_street (n := n + 7) (A := S) (B := []) (L := L)
  have H := SOk.of hst
  let J : List D → Ev.Env → Sto → Prop := fun a r T => ∃ (L' : List Int) (x4 x9 x10 x11 x12 x13 : Option Val), T = bagS S L' [] ∧ r = [some (.d s), some (.d (.int (k : Int))), some (.box S.length), some (.d (sD ls e l q z)), x4, x5, x6, x7, x8, x9, x10, x11, x12, x13, x14] ∧
    (a ≠ [] → ∃ t b m p : Int, KOk l q z t b m p ∧ x9 = some (.d (.tup [fD (t, b), fD (m, p)])) ∧ x10 = some (.d (.tup (wayW ls (t, b) (m, p)).ev)))
  have turn : ∀ a x bb, rngD 0 12 = a ++ x :: bb → ∀ r T, J a r T → ∃ r' T', (RS.ofO (setT (.v 4) x r) fun r => evSs (calls P (n + 10)) tB r T) = .nx r' T' ∧ J (a ++ [x]) r' T' := by
    intro a x bb hx r T hJ
    obtain ⟨L', x4, x9, x10, x11, x12, x13, rfl, rfl, _⟩ := hJ
    obtain ⟨j, rfl, _⟩ := rng_mem (n := 12) (lo := 0) (x := x) (by rw [hx]; simp)
    obtain ⟨t, b, m, p, L2, y13, K, hb⟩ := tB_ok (n := n) (A := S) (L := L') (s := s) (k := .int (k : Int)) (i := j) (x5 := x5) (x6 := x6) (x7 := x7) (x8 := x8) (x9 := x9) (x10 := x10) (x11 := x11) (x12 := x12) (x13 := x13) (x14 := x14) H
    refine ⟨_, _, ?_, L2, some (.d (.int j)), _, _, some (.d (fD (comes ls e (t, b) (m, p)))), some (.d (fD (wayW ls (t, b) (m, p)).dl)), y13, rfl, rfl, fun _ => ⟨t, b, m, p, K, rfl, rfl⟩⟩
    simp only [setT_v, List.length_cons, List.length_nil, Nat.reduceAdd, Nat.reduceLT, if_true, rsofO_some, List.set_cons_succ, List.set_cons_zero]
    exact hb
  obtain ⟨r1, S1, hl1, L2, y4, y9, y10, y11, y12, y13, rfl, rfl, hlast⟩ := loopF_inv J turn [some (.d s), some (.d (.int (k : Int))), some (.box S.length), some (.d (sD ls e l q z)), x4, x5, x6, x7, x8, x9, x10, x11, x12, x13, x14] (bagS S L1 []) ⟨L1, x4, x9, x10, x11, x12, x13, rfl, rfl, fun h => absurd rfl h⟩
  obtain ⟨t, b, m, p, K, rfl, rfl⟩ := hlast (by decide)
  obtain ⟨w1, w2⟩ := word_ok H K
  have hw1 : walkD .range1 [.int 12] = some (rngD 0 12) := by
    show (if rngOk 0 12 then some (rngD 0 (12 : Int).toNat) else none) = _
    rw [if_pos (by decide)]
    rfl
  have hw2 : walkD .val [.lst [.fn 17, .fn 18, .fn 19]] = some [.fn 17, .fn 18, .fn 19] := rfl
  have i2 : idxD (sD ls e l q z) (.int 2) = some (.int l) := by simp only [sD, idx_t, at_2]
  have i3 : idxD (sD ls e l q z) (.int 3) = some (.int q) := by simp only [sD, idx_t, at_3]
  generalize hT : bagS S L2 [] = T at *
  generalize hev : (wayW ls (t, b) (m, p)).ev = evs at *
  have cB1 := fun (f : Nat) (hf : f = 17 ∨ f = 18 ∨ f = 19) (y6 : Option Val) => cB_ok (n := n) (T := T ++ [.dead]) (s := s) (k := .int (k : Int)) (x2 := some (.box S.length)) (x4 := y4) (x7 := x7) (x8 := x8) (x9 := some (.d (.tup [fD (t, b), fD (m, p)]))) (x10 := some (.d (.tup evs))) (x11 := y11) (x12 := y12) (x13 := y13) (x14 := x14) hf H (x := (t, b)) (w := (m, p))
  have RD := ref_does (n := n) (T := T ++ [.dead]) (s := s) (k := .int (k : Int)) (x2 := some (.box S.length)) (x4 := y4) (x6 := some (.d (.fn 19))) (x7 := x7) (x8 := x8) (x9 := some (.d (.tup [fD (t, b), fD (m, p)]))) (x10 := some (.d (.tup evs))) (x11 := y11) (x12 := y12) (x13 := y13) (x14 := x14) H (x := (t, b)) (w := (m, p))
  have RW := ref_word (n := n) (T := T ++ [.dead] ++ [.dead]) (s := s) (k := .int (k : Int)) (x2 := some (.box S.length)) (x4 := y4) (x6 := some (.d (.fn 19))) (x7 := x7) (x8 := x8) (x10 := some (.d (.tup evs))) (x11 := y11) (x12 := y12) (x13 := y13) (x14 := x14) H K
  rw [hev] at RW
  have ad : ∀ xs ys : List D, xs.length + ys.length ≤ 1000 → binD .add (.tup xs) (.tup ys) = some (.tup (xs ++ ys)) := fun xs ys h => add_tt (by rw [sizeMax_eq']; omega)
  have n3 := H.n3
  have hmul : binD .mul (.tup [.tup [.str "go", .int 100]]) (.int (evs.length : Int)) = some (.tup (List.replicate evs.length [D.tup [.str "go", .int 100]]).flatten) := by
    show (if (-1000 : Int) ≤ (evs.length : Int) ∧ (evs.length : Int) ≤ 1000 ∧ ([D.tup [.str "go", .int 100]]).length ≤ 1000 ∧ (!([D.tup [.str "go", .int 100]]).isEmpty) = true then some (D.tup (List.replicate ((evs.length : Int)).toNat [D.tup [.str "go", .int 100]]).flatten) else none) = _
    rw [if_pos ⟨by omega, by omega, by decide, by decide⟩, Int.toNat_natCast]
  have fl : ((List.replicate evs.length [D.tup [.str "go", .int 100]]).flatten).length = evs.length := by
    generalize evs.length = j
    induction j with
    | zero => rfl
    | succ j ih => simp [List.replicate_succ]
  have ct : ∀ x y : D, cutL [x, y] none (some 1) = [x] := fun _ _ => rfl
  have hl3 : loopF (fun x r S => .ofO (setT (.v 6) x r) fun r => evSs (calls P (n + 10)) cB r S) [.fn 17, .fn 18, .fn 19] [some (.d s), some (.d (.int (k : Int))), some (.box S.length), some (.d (sD ls e l q z)), y4, some (.d (.lst (wOdds l q (t, b) (m, p)))), x6, x7, x8, some (.d (.tup [fD (t, b), fD (m, p)])), some (.d (.tup evs)), y11, y12, y13, x14] (T ++ [.dead]) =
      .nx [some (.d s), some (.d (.int (k : Int))), some (.box S.length), some (.d (sD ls e l q z)), y4, some (.d (.lst (wOdds l q (t, b) (m, p)))), some (.d (.fn 19)), x7, x8, some (.d (.tup [fD (t, b), fD (m, p)])), some (.d (.tup evs)), y11, y12, y13, x14] (T ++ [.dead]) := by
    simp only [loopF, setT_v, List.length_cons, List.length_nil, Nat.reduceAdd, Nat.reduceLT, if_true, rsofO_some, List.set_cons_succ, List.set_cons_zero, cB1 17 (.inl rfl) none, cB1 18 (.inr (.inl rfl)) none, cB1 19 (.inr (.inr rfl)) none, andThen_nx]
  refine ⟨some (.box S.length), some (.d (sD ls e l q z)), y4, some (.d (.lst (dOdds evs))), some (.d (.fn 19)), x7, x8, some (.d (.tup [fD (t, b), fD (m, p)])), some (.d (.tup evs)), y11, y12, y13, x14, T ++ [.dead] ++ [.dead], ?_⟩
  unfold lawB
  simp only [ss_cons_, s_set_, e_call, vs_cons, vs_nil, e_var, e_lit, getV_s, getV_0, ofO_some, R.bind_ok, hbag, rsof_ok, setV_d, setV_box, List.length_cons, List.length_nil, Nat.reduceAdd, Nat.reduceLT, if_true, List.set_cons_succ, List.set_cons_zero, rsofO_some, andThen_nx, hstreet, s_forr_, ds_cons, ds_nil, bindP_ok, hw1]
  rw [hl1]
  have bx : ∀ xs : List D, boxAt [some (.d s), some (.d (.int (k : Int))), some (.box S.length), some (.d (sD ls e l q z)), y4, some (.box T.length), x6, x7, x8, some (.d (.tup [fD (t, b), fD (m, p)])), some (.d (.tup evs)), y11, y12, y13, x14] (T ++ [.lst xs]) 5 = some (T.length, xs) := fun xs => box_end rfl
  have bx2 : ∀ xs : List D, boxAt [some (.d s), some (.d (.int (k : Int))), some (.box S.length), some (.d (sD ls e l q z)), y4, some (.box (T ++ [Cell.dead]).length), some (.d (.fn 19)), x7, x8, some (.d (.tup [fD (t, b), fD (m, p)])), some (.d (.tup evs)), y11, y12, y13, x14] (T ++ [.dead] ++ [.lst xs]) 5 = some ((T ++ [Cell.dead]).length, xs) := fun xs => box_end rfl
  have se : ∀ (A : Sto) (c d : Cell), (A ++ [c]).set A.length d = A ++ [d] := fun A c d => set_end
  have fx : fD (t, b) = .tup [.int t, .int b] := rfl
  have sm : (5 : Nat) < sizeMax := by rw [sizeMax_eq']; omega
  have o1 : [D.non, D.tup [fD (t, b)], D.lst [fD (t, b), fD (m, p)], D.tup [.tup [.int 0, .int 1], .tup [.int 7, .int 2]], D.tup [.tup [.int 0, .int 2], .tup [.int 1, .int 1]], D.tup [.tup [.int (l + 1), .int 1], .tup [.int q, .int 1]]] = wOdds l q (t, b) (m, p) := rfl
  simp only [andThen_nx, e_box, ds_cons, ds_nil, e_lit, bindP_ok, R.bind_ok, e_cut, e_var, getV_s, getV_0, ofO_some, optI_0, optI_1, cut_t, ct, Option.map_some, e_bi, list_t, e_tup, rsof_ok, setV_box, List.length_cons, List.length_nil, Nat.reduceAdd, Nat.reduceLT, if_true, List.set_cons_succ, List.set_cons_zero, rsofO_some, s_append_, bx, e_bin, e_idx, rdV_d, i2, i3, add_ii, sm, se, List.cons_append, List.nil_append, o1, s_frz_, e_lst, e_fnr, hw2]
  rw [hl3]
  have a1 := ad evs [.tup [.str "go", .int 1]] (by simp; omega)
  have a2 := ad (List.replicate evs.length [D.tup [.str "go", .int 100]]).flatten [.int 1] (by rw [fl]; simp; omega)
  have o2 : [D.non, D.tup (evs ++ [.tup [.str "go", .int 1]]), D.lst evs, D.tup [.tup [.str "stay", .int 1]], D.tup ((List.replicate evs.length [D.tup [.str "go", .int 100]]).flatten ++ [.int 1])] = dOdds evs := rfl
  simp only [andThen_nx, s_ifs_, q_not, q_val, RD, bindD_ok, rdV_d, truD_bl, ofO_some, R.bind_ok, Bool.not_true, rsof_ok, Bool.false_eq_true, if_false, ss_nil_, e_box, ds_cons, ds_nil, e_lit, bindP_ok, e_bin, e_var, getV_s, getV_0, e_tup, a1, Option.map_some, e_bi, list_t, e_len, len_t, hmul, a2, o2, setV_box, List.length_cons, List.length_nil, Nat.reduceAdd, Nat.reduceLT, if_true, List.set_cons_succ, List.set_cons_zero, rsofO_some, s_frz_, bx2, se, RW]
end E02

set_option Elab.async false
set_option linter.all false
set_option autoImplicit false
set_option maxRecDepth 100000
set_option maxHeartbeats 4000000
set_option exponentiation.threshold 256
/-! The law answers True, by the evaluator. Own work. -/
namespace E02
open PySem Ev C02 M15 M01 M02 Tx
/-- a concrete walker -/
def kB (l q z t b m p : Int) : Bool := isK l q z (.tup [fD (t, b), fD (m, p)]) && decide (t.natAbs < 2 ^ 10) && decide (b.natAbs < 2 ^ 3) && decide (m.natAbs < 2 ^ 10) && decide (p.natAbs < 2 ^ 8) && decide (0 < p)
theorem kB_ok {l q z t b m p : Int} (h : kB l q z t b m p = true) : KOk l q z t b m p := by
  unfold kB at h
  simp only [Bool.and_eq_true, decide_eq_true_eq] at h
  obtain ⟨⟨⟨⟨⟨h1, h2⟩, h3⟩, h4⟩, h5⟩, h6⟩ := h
  exact ⟨h1, h2, h3, ⟨h4, h5, h6⟩⟩
section
variable {n : Nat} {S : Sto}
def LA : List (List Int) := [[4, 6, 4, 0]]
def LB : List (List Int) := [[4, 6, 4, 0], [8, 5, 5, 3]]
def LC : List (List Int) := [[4, 4, 6, 9]]
theorem ha : SOk LA 10 5 1 3 := SOk.of (by decide +kernel)
theorem hb : SOk LB 10 5 1 3 := SOk.of (by decide +kernel)
theorem hc : SOk LC 10 0 1 1 := SOk.of (by decide +kernel)
theorem c1 : (calls P (n + 10)).fn 17 [.d (.tup [(.tup [(.tup [.int 4, .int 6, .int 4, .int 0])]), .int 10, .int 5, .int 1, .int 3]), .d (.tup [.tup [.int 0, .int 1], .tup [.int 1, .int 1]])] S = .ok (.d (.tup [.tup [.str "go", .int 0]])) S :=
  (f_three (n := n + 4) (.inl rfl) ha (kB_ok (t := 0) (b := 1) (m := 1) (p := 1) (by decide +kernel))).trans (by rw [show told3 17 LA 10 (0, 1) (1, 1) = .tup [.tup [.str "go", .int 0]] by rfl])
theorem c2 : (calls P (n + 10)).fn 17 [.d (.tup [(.tup [(.tup [.int 4, .int 6, .int 4, .int 0])]), .int 10, .int 5, .int 1, .int 3]), .d (.tup [.tup [.int 2, .int 1], .tup [.int 2, .int 1]])] S = .ok (.d (.tup [.tup [.str "go", .int 1]])) S :=
  (f_three (n := n + 4) (.inl rfl) ha (kB_ok (t := 2) (b := 1) (m := 2) (p := 1) (by decide +kernel))).trans (by rw [show told3 17 LA 10 (2, 1) (2, 1) = .tup [.tup [.str "go", .int 1]] by rfl])
theorem c3 : (calls P (n + 10)).fn 17 [.d (.tup [(.tup [.tup [.int 4, .int 6, .int 4, .int 0], .tup [.int 8, .int 5, .int 5, .int 3]]), .int 10, .int 5, .int 1, .int 3]), .d (.tup [.tup [.int 0, .int 1], .tup [.int 1, .int 1]])] S = .ok (.d (.tup [.tup [.str "go", .int 0], .tup [.str "wait", .int 1]])) S :=
  (f_three (n := n + 4) (.inl rfl) hb (kB_ok (t := 0) (b := 1) (m := 1) (p := 1) (by decide +kernel))).trans (by rw [show told3 17 LB 10 (0, 1) (1, 1) = .tup [.tup [.str "go", .int 0], .tup [.str "wait", .int 1]] by rfl])
theorem c4 : (calls P (n + 10)).fn 18 [.d (.tup [(.tup [.tup [.int 4, .int 6, .int 4, .int 0], .tup [.int 8, .int 5, .int 5, .int 3]]), .int 10, .int 5, .int 1, .int 3]), .d (.tup [.tup [.int 2, .int 1], .tup [.int 2, .int 1]])] S = .ok (.d (.tup [.int 27, .int 1])) S :=
  (f_three (n := n + 4) (.inr (.inl rfl)) hb (kB_ok (t := 2) (b := 1) (m := 2) (p := 1) (by decide +kernel))).trans (by rw [show told3 18 LB 10 (2, 1) (2, 1) = .tup [.int 27, .int 1] by rfl])
theorem c5 : (calls P (n + 10)).fn 18 [.d (.tup [(.tup [(.tup [.int 4, .int 6, .int 4, .int 0])]), .int 10, .int 5, .int 1, .int 3]), .d (.tup [.tup [.int 5, .int 1], .tup [.int 1, .int 1]])] S = .ok (.d (.tup [.int 16, .int 1])) S :=
  (f_three (n := n + 4) (.inr (.inl rfl)) ha (kB_ok (t := 5) (b := 1) (m := 1) (p := 1) (by decide +kernel))).trans (by rw [show told3 18 LA 10 (5, 1) (1, 1) = .tup [.int 16, .int 1] by rfl])
theorem c6 : (calls P (n + 10)).fn 19 [.d (.tup [(.tup [(.tup [.int 4, .int 6, .int 4, .int 0])]), .int 10, .int 5, .int 1, .int 3]), .d (.tup [.tup [.int 5, .int 1], .tup [.int 3, .int 1]])] S = .ok (.d (.tup [.int 3, .int 1])) S :=
  (f_three (n := n + 4) (.inr (.inr rfl)) ha (kB_ok (t := 5) (b := 1) (m := 3) (p := 1) (by decide +kernel))).trans (by rw [show told3 19 LA 10 (5, 1) (3, 1) = .tup [.int 3, .int 1] by rfl])
theorem c7 : (calls P (n + 10)).fn 17 [.d (.tup [(.tup [(.tup [.int 4, .int 4, .int 6, .int 9])]), .int 10, .int 0, .int 1, .int 1]), .d (.tup [.tup [.int 0, .int 1], .tup [.int 1, .int 1]])] S = .ok (.d (.tup [.tup [.str "wait", .int 0]])) S :=
  (f_three (n := n + 4) (.inl rfl) hc (kB_ok (t := 0) (b := 1) (m := 1) (p := 1) (by decide +kernel))).trans (by rw [show told3 17 LC 10 (0, 1) (1, 1) = .tup [.tup [.str "wait", .int 0]] by rfl])
end
theorem law_true {n : Nat} {ns : List Int} {s : D} (hs : s = .scr ns ∨ s = .lst (ns.map .int)) (hn : ns.length ≤ 63) : (calls P (n + 11)).fn 37 [.d s] [] = .ok (.d (.bl true)) [] := by
  let I1 : List D → Ev.Env → Sto → Prop := fun a r T => ∃ x1 x2 x3 x4 x5 x6 x7 x8 x9 x10 x11 x12 x13 x14 : Option Val, r = [some (.d s), x1, x2, x3, x4, x5, x6, x7, x8, x9, x10, x11, x12, x13, x14]
  obtain ⟨r1, S1, hl1, ⟨x1, x2, x3, x4, x5, x6, x7, x8, x9, x10, x11, x12, x13, x14, rfl⟩⟩ := loopF_inv (f := fun x r S => RS.ofO (setT (.v 1) x r) fun r => evSs (calls P (n + 10)) lawB r S) (its := rngD 0 8) I1 (by
    intro a x b hx r T hI
    obtain ⟨x1, x2, x3, x4, x5, x6, x7, x8, x9, x10, x11, x12, x13, x14, rfl⟩ := hI
    obtain ⟨j, rfl, j0, j1⟩ := rng_mem (n := 8) (lo := 0) (x := x) (by rw [hx]; simp)
    obtain ⟨k, rfl⟩ := Int.eq_ofNat_of_zero_le j0
    obtain ⟨y2, y3, y4, y5, y6, y7, y8, y9, y10, y11, y12, y13, y14, S', hb⟩ := law_turn (n := n) (k := k) (S := T) (x2 := x2) (x3 := x3) (x4 := x4) (x5 := x5) (x6 := x6) (x7 := x7) (x8 := x8) (x9 := x9) (x10 := x10) (x11 := x11) (x12 := x12) (x13 := x13) (x14 := x14) hs hn (by omega)
    refine ⟨_, S', ?_, some (.d (.int (k : Int))), y2, y3, y4, y5, y6, y7, y8, y9, y10, y11, y12, y13, y14, rfl⟩
    simp only [setT_v, List.length_cons, List.length_nil, Nat.reduceAdd, Nat.reduceLT, if_true, rsofO_some, List.set_cons_succ, List.set_cons_zero]
    exact hb) [some (.d s), none, none, none, none, none, none, none, none, none, none, none, none, none, none] [] ⟨none, none, none, none, none, none, none, none, none, none, none, none, none, none, rfl⟩
  have hw1 : walkD .range1 [.int 8] = some (rngD 0 8) := by
    show (if rngOk 0 8 then some (rngD 0 (8 : Int).toNat) else none) = _
    rw [if_pos (by decide)]
    rfl
  have n1 : cmpD .ne (.lst [.tup [.tup [.str "go", .int 0]], .tup [.tup [.str "go", .int 1]]]) (.lst [.tup [.tup [.str "go", .int 0]], .tup [.tup [.str "go", .int 1]]]) = some false := ne_self (by decide +kernel)
  have n2 : cmpD .ne (.tup [.tup [.str "go", .int 0], .tup [.str "wait", .int 1]]) (.tup [.tup [.str "go", .int 0], .tup [.str "wait", .int 1]]) = some false := ne_self (by decide +kernel)
  have n3 : cmpD .ne (.tup [.int 27, .int 1]) (.tup [.int 27, .int 1]) = some false := ne_self (by decide +kernel)
  have n4 : cmpD .ne (.tup [.int 16, .int 1]) (.tup [.int 16, .int 1]) = some false := ne_self (by decide +kernel)
  have n5 : cmpD .ne (.tup [.int 3, .int 1]) (.tup [.int 3, .int 1]) = some false := ne_self (by decide +kernel)
  have n6 : cmpD .eq (.tup [.tup [.str "wait", .int 0]]) (.tup [.tup [.str "wait", .int 0]]) = some true := eq_self' (by decide +kernel)
  have fin : leaveS 0 (.ret (.d (.bl true)) S1) = .ok (.d (.bl true)) [] := by
    show (R.ok (Val.d (.bl true)) (S1.take 0) : R Val) = _
    rw [List.take_zero]
  rw [fn_step (c := c_law) rfl rfl, law_code]
  simp only [List.map_cons, List.map_nil, List.cons_append, List.nil_append, Nat.sub_self, List.replicate_zero, List.replicate_succ, Nat.reduceSub]
  simp only [ss_cons_, s_forr_, ds_cons, ds_nil, e_lit, bindP_ok, R.bind_ok, hw1, ofO_some, rsof_ok, hl1, andThen_nx, s_setp_, vs_cons, vs_nil, e_tup, setPar_d, setPar_0, List.length_cons, List.length_nil, Nat.reduceAdd, Nat.reduceLT, if_true, rsofO_some, List.set_cons_succ, List.set_cons_zero, e_lst, e_call, e_var, getV_s, getV_0, c1, c2, c3, c4, c5, c6, c7, Option.map_some, s_ifs_, q_or, or_cons, or_nil, q_val, e_cmp, bindD_ok, rdV_d, n1, n2, n3, n4, n5, n6, truD_bl, Bool.false_eq_true, if_false, ss_nil_, s_ret_, andThen_ret]
  exact fin
end E02

set_option Elab.async false
set_option linter.all false
set_option maxRecDepth 100000
open PySem PySem.W PySem.Calls PyProof.Rows
set_option maxHeartbeats 0 in
theorem PySem.Challenge.cw_anygreens_k02_walks_of_told_walkers_holds : PySem.Challenge.rw_anygreens_k02_walks_of_told_walkers.Holds := by
  w_on; o_law
  refine HandSHeadRun.head_any (r := OpenLaw.row PySem.Challenge.rw_anygreens_k02_walks_of_told_walkers) (q := view (OpenLaw.row PySem.Challenge.rw_anygreens_k02_walks_of_told_walkers).prog [55]) (H := H02.hk) (ob := H02.ob) (M := 20000) (loose := H02.loose) (d := HandSHeadRun.topDef (OpenLaw.row PySem.Challenge.rw_anygreens_k02_walks_of_told_walkers).prog 55) (kwd := []) H02.ob_eq
    (by kernel_rfl) (fun s => by kernel_rfl) H02.run (by kernel_rfl) (by kernel_rfl) (by kernel_rfl) (by rfl) (by first | assumption | decide +kernel) (by decide +kernel) ⟨rfl, rfl, rfl, rfl, rfl, by decide +kernel⟩ ?hw ?hc
  case hw => w_witness2
  case hc =>
    exact EvT.law_walk (n := 63) (k := 10) (i := 37) (x := "_law_script") (ld := D02.d_law) D02.L rfl (by decide) (by kernel_rfl) ⟨rfl, by decide, by decide⟩ rfl (by kernel_rfl) rfl D02.ok D02.bind (fun ns s h1 _ h3 => by rw [D02.prog_eq]; exact E02.law_true (n := 0) h3 h1)

