import PyProof.Rows.All
import Wide.All
import OpenK.AllK
import Wide.FinOn
import PyProof.EqAt
import PyProof.EqKinds
import PyProof.TupleCall
import HandS.EndTab
import PySem.Str
import HandS.ForMost
import HandS.Exc
import HandS.TupAny
import HandS.TupMul
import HandS.Style
import HandS.Flow
import HandS.Deep
import HandS.Walk
import HandS.Zip
import HandS.Lambda
import HandS.IsInst
import HandS.Strs
import KE.KExcSuper
import HandS.ExcInit
import HandS.ExcOwn
import PyProof.EnumMake
import PyProof.Draws
import HandS.Zip0
import KE.KExcIs
import HandS.ExcField
import HandS.ExcIs
import PyProof.ReprRoads
import PyProof.ReprLen
import HandS.WordsExc
import HandS.HotCalls
import KE.KDflt
import HandS.TryMany
import KE.KIsAll
import KE.KNestM
import PyProof.TableCode
import PySem.Challenge.RW_glasswarm_k18_whole_screens
set_option Elab.async false
set_option linter.all false
set_option maxRecDepth 100000
set_option maxHeartbeats 4000000
set_option autoImplicit false
set_option linter.all false
/-! The core language: data, memory, expressions, statements, and what they give. -/
namespace GW
open PySem

/-- data: what never changes, and names of what may (ref) -/
inductive D where
  | non | bl (b : Bool) | int (i : Int) | str (s : Str)
  | tup (xs : List D) | lst (xs : List D) | dct (ks vs : List D)
  | ins (c : Nat) (fs : List Nat) (vs : List D)
  | fn (f : Nat) | ref (n : Nat)
  /-- a tuple whose object is known -/
  | tupk (xs : List D)
  /-- the exception that is caught: its class, its fields -/
  | exn (c : Nat) (as : List D)
  deriving Inhabited
/-- what may change -/
inductive MO where
  | dead | lst (xs : List D) | dct (ks vs : List D) | ins (c : Nat) (fs : List Nat) (vs : List D)
  deriving Inhabited
abbrev Mem := List MO
abbrev Env := List (Option D)
/-- what comes out: a value, an exception with its fields, or nothing that is told -/
inductive Out (α : Type) where
  | ok (a : α) (M : Mem) | exc (c : Nat) (as : List D) (M : Mem) | err
def Out.bind {α β : Type} (r : Out α) (f : α → Mem → Out β) : Out β :=
  match r with
  | .ok a M => f a M
  | .exc c as M => .exc c as M
  | .err => .err
/-- an answer that stands or not -/
def Out.of {α : Type} (o : Option α) (M : Mem) : Out α :=
  match o with
  | some a => .ok a M
  | none => .err

def LINE : Nat := 16777216
inductive BOp where | add | sub | mul | fdiv | mod | pow
  deriving DecidableEq
inductive COp where | eq | ne | lt | le | gt | ge | is | isnot | isin | notin
  deriving DecidableEq
inductive Ty where | int | bool | str | tuple | list | dict | cls (c : Nat)
  deriving DecidableEq
/-- built-in functions -/
inductive BI where
  | len | all | any | abs | int | max1 | min1 | max2 | min2 | sum | tuple | list | tuplek
  deriving DecidableEq
/-- built-in methods -/
inductive BM where | append | extend | indexL | indexT | countL
  deriving DecidableEq

/-! ### values -/
mutual
/-- no ref at or above n -/
def closed (n : Nat) : D → Bool
  | .tup xs => closedL n xs
  | .lst xs => closedL n xs
  | .dct ks vs => closedL n ks && closedL n vs
  | .ins _ _ vs => closedL n vs
  | .ref m => decide (m < n)
  | .tupk xs => closedL n xs
  | .exn _ as => closedL n as
  | .non => true | .bl _ => true | .int _ => true | .str _ => true | .fn _ => true
def closedL (n : Nat) : List D → Bool
  | [] => true
  | x :: xs => closed n x && closedL n xs
end
def closedO (n : Nat) : MO → Bool
  | .dead => true
  | .lst xs => closedL n xs
  | .dct ks vs => closedL n ks && closedL n vs
  | .ins _ _ vs => closedL n vs
mutual
/-- plain data: None, bools, ints, texts, tuples and lists of such, at most n deep -/
def data (n : Nat) : D → Bool
  | .non => true | .bl _ => true | .int _ => true | .str s => s.cps.all (· < 0x110000)
  | .tup xs => match n with | 0 => false | m + 1 => dataL m xs
  | .lst xs => match n with | 0 => false | m + 1 => dataL m xs
  | .dct _ _ => false | .ins _ _ _ => false | .fn _ => false | .ref _ => false | .tupk _ => false | .exn _ _ => false
def dataL (n : Nat) : List D → Bool
  | [] => true
  | x :: xs => data n x && dataL n xs
end
mutual
/-- == of plain data -/
def eqB : D → D → Bool
  | .non, y => match y with | .non => true | _ => false
  | .bl a, y => match y with | .bl b => a == b | .int j => (if a then 1 else 0) == j | _ => false
  | .int i, y => match y with | .int j => i == j | .bl b => i == (if b then 1 else 0) | _ => false
  | .str s, y => match y with | .str t => s == t | _ => false
  | .tup xs, y => match y with | .tup ys => eqL xs ys | _ => false
  | .lst xs, y => match y with | .lst ys => eqL xs ys | _ => false
  | .dct _ _, _ => false | .ins _ _ _, _ => false | .fn _, _ => false | .ref _, _ => false | .tupk _, _ => false | .exn _ _, _ => false
def eqL : List D → List D → Bool
  | [], ys => match ys with | [] => true | _ :: _ => false
  | x :: xs, ys => match ys with
    | [] => false
    | y :: ys => eqB x y && eqL xs ys
end
mutual
/-- how long its text may be at most -/
def wtD : D → Nat
  | .int i => if i.natAbs < 2 ^ 1000 then 1016 else 1073741824
  | .str s => 10 * s.length + 8
  | .tup xs => wtL xs + 8
  | .lst xs => wtL xs + 8
  | .non => 8 | .bl _ => 8 | .dct _ _ => 8 | .ins _ _ _ => 8 | .fn _ => 8 | .ref _ => 8 | .tupk _ => 8 | .exn _ _ => 8
def wtL : List D → Nat
  | [] => 0
  | x :: xs => wtD x + wtL xs + 8
end
open Classical in
/-- repr(x) == repr(y) of the same data -/
noncomputable def sameO (x y : D) : Option D := if data 50 x = true ∧ wtD x ≤ 1000000 ∧ x = y then some (.bl true) else none
def eqD (x y : D) : Option Bool := if data 60 x && data 60 y then some (eqB x y) else none
/-- what stands there, for reading -/
def rd (M : Mem) : D → D
  | .ref n => match M[n]? with
    | some (.lst xs) => .lst xs
    | some (.dct ks vs) => .dct ks vs
    | some (.ins c fs vs) => .ins c fs vs
    | _ => .ref n
  | .tupk xs => .tup xs
  | d => d
def truthD : D → Option Bool
  | .non => some false | .bl b => some b | .int i => some (i != 0) | .str s => some ((s.length : Int) != 0)
  | .tup xs => some (!xs.isEmpty) | .lst xs => some (!xs.isEmpty)
  | _ => none
def sIx (n d : Nat) : Option Int → Nat
  | none => d
  | some v => if v < 0 then (v + (n : Int)).toNat else min v.toNat n
def cutL {α : Type} (xs : List α) (lo hi : Option Int) : List α := (xs.drop (sIx xs.length 0 lo)).take (sIx xs.length xs.length hi - sIx xs.length 0 lo)
def ixN (n : Nat) (i : Int) : Option Nat := if 0 ≤ i then (if i < n then some i.toNat else none) else (if -(n : Int) ≤ i then some (i + n).toNat else none)
def atI {α : Type} (xs : List α) (i : Int) : Option α := (ixN xs.length i).bind fun j => xs[j]?
def small (i : Int) : Bool := decide (-(2 ^ 64) < i) && decide (i < 2 ^ 64)
def binD : BOp → D → D → Option D
  | .add, .int i, .int j => some (.int (i + j))
  | .add, .str a, .str b => if a.length + b.length ≤ LINE then some (.str (a ++ b)) else none
  | .add, .tup xs, .tup ys => if xs.length + ys.length ≤ LINE then some (.tup (xs ++ ys)) else none
  | .add, .lst xs, .lst ys => if xs.length + ys.length ≤ LINE then some (.lst (xs ++ ys)) else none
  | .sub, .int i, .int j => some (.int (i - j))
  | .add, .bl a, .int j => some (.int ((if a = true then (1 : Int) else 0) + j))
  | .sub, .bl a, .int j => some (.int ((if a = true then (1 : Int) else 0) - j))
  | .mul, .int i, .int j => if small i || small j then some (.int (i * j)) else none
  | .mul, .tup xs, .int k => if xs ≠ [] ∧ 2 ≤ k ∧ k ≤ 1000 ∧ xs.length ≤ 1000 then some (.tup (List.replicate k.toNat xs).flatten) else none
  | .mul, .lst xs, .int k => if 0 ≤ k ∧ k ≤ 1000 ∧ xs.length ≤ 1000 then some (.lst (List.replicate k.toNat xs).flatten) else none
  | .fdiv, .int i, .int j => if 0 < j ∧ j < 1073741824 then some (.int (i / j)) else none
  | .mod, .int i, .int j => if 0 < j then some (.int (i % j)) else none
  | .pow, .int i, .int j => if 0 ≤ j ∧ j ≤ 1000 ∧ i.natAbs < 2 ^ 64 then some (.int (i ^ j.toNat)) else none
  | _, _, _ => none
/-- x in a row of things -/
def inL (x : D) (ys : List D) : Option Bool := if data 50 x && dataL 50 ys then some (ys.any fun y => eqB y x) else none
def cmpD : COp → D → D → Option Bool
  | .eq, x, y => eqD x y
  | .ne, x, y => (eqD x y).map not
  | .lt, .int i, .int j => some (decide (i < j))
  | .le, .int i, .int j => some (decide (i ≤ j))
  | .gt, .int i, .int j => some (decide (j < i))
  | .ge, .int i, .int j => some (decide (j ≤ i))
  | .is, .bl a, .bl b => some (decide (a = b))
  | .isnot, .bl a, .bl b => some (!decide (a = b))
  | .is, x, .non => some (match x with | .non => true | _ => false)
  | .isnot, x, .non => some (match x with | .non => false | _ => true)
  | .isin, x, .tup ys => inL x ys
  | .isin, x, .lst ys => inL x ys
  | .notin, x, .tup ys => (inL x ys).map not
  | .notin, x, .lst ys => (inL x ys).map not
  | _, _, _ => none
def ixD : D → D → Option D
  | .tup xs, .int i => atI xs i
  | .lst xs, .int i => atI xs i
  | .str s, .int i => (atI s.cps.toList i).map fun c => .str ⟨#[c]⟩
  | _, _ => none
def slcD : D → Option Int → Option Int → Option D
  | .tup xs, lo, hi => some (.tup (cutL xs lo hi))
  | .lst xs, lo, hi => some (.lst (cutL xs lo hi))
  | _, _, _ => none
def partI : Option D → Option (Option Int)
  | none => some none
  | some (.int i) => some (some i)
  | _ => none
def revD : D → Option D
  | .tup xs => some (.tup xs.reverse)
  | .lst xs => some (.lst xs.reverse)
  | _ => none
/-- the ints of a row of ints -/
def intsOf : List D → Option (List Int)
  | [] => some []
  | .int i :: xs => (intsOf xs).map (i :: ·)
  | _ :: _ => none
def blsOf : List D → Option (List Bool)
  | [] => some []
  | .bl i :: xs => (blsOf xs).map (i :: ·)
  | _ :: _ => none
def maxI (i : Int) : List Int → Int
  | [] => i
  | j :: r => maxI (if j > i then j else i) r
def minI (i : Int) : List Int → Int
  | [] => i
  | j :: r => minI (if j < i then j else i) r
def bltD : BI → List D → Option D
  | .len, [.tup xs] => some (.int xs.length)
  | .len, [.lst xs] => some (.int xs.length)
  | .len, [.str s] => some (.int s.length)
  | .all, [.lst xs] => (blsOf xs).map fun bs => .bl (bs.all id)
  | .any, [.lst xs] => (blsOf xs).map fun bs => .bl (bs.any id)
  | .abs, [.int i] => some (.int (if i < 0 then -i else i))
  | .int, [.int i] => some (.int i)
  | .int, [.bl b] => some (.int (if b then 1 else 0))
  | .max2, [.int i, .int j] => some (.int (if j > i then j else i))
  | .min2, [.int i, .int j] => some (.int (if j < i then j else i))
  | .max1, [.lst xs] => match intsOf xs with | some (i :: r) => some (.int (maxI i r)) | _ => none
  | .min1, [.lst xs] => match intsOf xs with | some (i :: r) => some (.int (minI i r)) | _ => none
  | .sum, [.lst xs] => (intsOf xs).map fun ns => .int ns.sum
  | .tuple, [.lst xs] => some (.tup xs)
  | .tuple, [.tup xs] => some (.tup xs)
  | .tuplek, [.lst xs] => some (.tupk xs)
  | .list, [.lst xs] => some (.lst xs)
  | .list, [.tup xs] => some (.lst xs)
  | _, _ => none
def indexD (x : D) : List D → Option Nat
  | [] => none
  | y :: ys => if eqB y x then some 0 else (indexD x ys).map (· + 1)
/-- the place of a text in a row of texts -/
def indexS (z : Str) : List D → Option Nat
  | [] => none
  | .str y :: ys => if y = z then (if ys.all (fun d => match d with | .str _ => true | _ => false) then some 0 else none) else (indexS z ys).map (· + 1)
  | _ :: _ => none

/-! ### expressions, targets, what is walked -/
mutual
inductive CE where
  | lit (d : D) | var (i : Nat) | glb (g : Nat)
  | bin (o : BOp) (a b : CE) | neg (a : CE) | not (a : CE) | and (a b : CE) | or (a b : CE)
  | cmp (o : COp) (a b : CE) | cmp2 (o p : COp) (a b c : CE) | ite (c a b : CE)
  | tup (es : CEs) | lst (live : Bool) (es : CEs)
  | comp (live : Bool) (own : List Nat) (tg : CT) (it : CI) (cond : CO) (elt : CE)
  | ix (a b : CE) | slc (a : CE) (lo hi : CO) | rev (a : CE)
  | isi (a : CE) (ts : List Ty) | eqm (m : Nat) (a b : CE)
  | blt (b : BI) (es : CEs) | call (f : Nat) (es : CEs) | calv (i : Nat) (es : CEs)
  | new (c : Nat) (es : CEs) | mth (m : Nat) (o : CE) (es : CEs) | bmt (m : BM) (o : CE) (es : CEs)
  | att (o : CE) (f : Nat) | frz (a : CE) | lsto (a : CE) | isx (a : CE) (t : Option Nat) | atx (a : CE) (f : Nat) | told (e : CE) | dis0 | dis1 (k : Str) (n : Int) | same (a b : CE)
inductive CEs where
  | nil | cons (e : CE) (es : CEs)
inductive CO where
  | no | yes (e : CE)
inductive CT where
  | name (i : Nat) | tup (ts : CTs) | sub (o i : CE) | att (o : CE) (f : Nat)
inductive CTs where
  | nil | cons (t : CT) (ts : CTs)
inductive CI where
  | seq (e : CE) | rng1 (a : CE) | rng2 (a b : CE) | enu (e : CE) | zip (a b : CE)
end
mutual
inductive CS where
  | asg (t : CT) (e : CE) | aug (i : Nat) (o : BOp) (e : CE) | augs (o i : CE) (p : BOp) (e : CE)
  | exp (e : CE) | ret (e : CE) | ife (c : CE) (a b : CSs)
  | loop (t : CT) (it : CI) (body : CSs) | whil (c : CE) (body : CSs)
  | brk | pas | rais (c : Nat) (es : CEs) | frzv (i : Nat) | never
inductive CSs where
  | nil | cons (s : CS) (ss : CSs)
end
def lenTs : CTs → Nat
  | .nil => 0
  | .cons _ ts => lenTs ts + 1
/-- a def: how many parameters, how many names, its body -/
structure FD where
  ar : Nat
  nn : Nat
  body : CSs
structure Prog where
  fn : Nat → Option FD
  glb : Nat → Option D
  /-- the __init__ of a class; whether its instances are frozen behind it -/
  cls : Nat → Option (Nat × Bool)
  /-- the method m of the class c -/
  mth : Nat → Nat → Option Nat
  /-- the attributes of the class's instances -/
  fld : Nat → Nat → Bool
  /-- the defs that stand by their names in the module -/
  glf : Nat → Bool
  /-- the classes of exceptions -/
  xcl : Nat → Bool
  /-- their fields, as attributes -/
  xfl : Nat → List Nat
  /-- what a refusal is told as -/
  rfd : Nat → List D → Option D

def okTy (Γ : Prog) : Ty → Bool
  | .cls c => (Γ.cls c).isSome
  | _ => true
def isTy (Γ : Prog) : D → Ty → Option Bool
  | .non, _ => some false
  | .bl _, t => some (decide (t = .bool ∨ t = .int))
  | .int _, t => some (decide (t = .int))
  | .str _, t => some (decide (t = .str))
  | .tup _, t => some (decide (t = .tuple))
  | .lst _, t => some (decide (t = .list))
  | .dct _ _, t => some (decide (t = .dict))
  | .ins c _ _, t => if (Γ.cls c).isSome then some (decide (t = .cls c)) else none
  | _, _ => none
def isAny (Γ : Prog) (d : D) : List Ty → Option Bool
  | [] => some false
  | t :: ts => if okTy Γ t then (match isTy Γ d t with
    | some true => some true
    | some false => isAny Γ d ts
    | none => none) else none

/-- the method that a thing's class has -/
def mthOf (Γ : Prog) (m : Nat) : D → Option Nat
  | .ins c fs _ => if fs.contains m then none else Γ.mth c m
  | _ => none
/-- the own == of a thing, the other side one that it may be asked of -/
def eqmD (Γ : Prog) (m : Nat) (x y : D) : Option Nat :=
  match y with
  | .ins c _ _ => if (Γ.cls c).isSome then mthOf Γ m x else none
  | .tup _ => mthOf Γ m x
  | _ => none
def wipe (ρ : Env) : List Nat → Env
  | [] => ρ
  | v :: vs => (wipe ρ vs).set v none
/-- what a list of items makes, one by one -/
def compL (f : D → Mem → Out (Option D)) : List D → Mem → Out (List D)
  | [], M => .ok [] M
  | d :: ds, M => (f d M).bind fun o M1 => (compL f ds M1).bind fun r M2 => .ok (match o with | some x => x :: r | none => r) M2
def pairD (x y : D) : D := .tup [x, y]
def zipD : List D → List D → List D
  | x :: xs, y :: ys => pairD x y :: zipD xs ys
  | _, _ => []
def enuD (n : Nat) : List D → List D
  | [] => []
  | x :: xs => pairD (.int n) x :: enuD (n + 1) xs
def rngD (a : Int) : Nat → List D
  | 0 => []
  | n + 1 => .int a :: rngD (a + 1) n
def itemsD : D → Option (List D)
  | .tup xs => some xs
  | .tupk xs => some xs
  | .lst xs => some xs
  | _ => none
def itemsT : D → Option (List D)
  | .tup xs => some xs
  | .tupk xs => some xs
  | _ => none
def smallR (i : Int) : Bool := decide (-(2 ^ 62) ≤ i) && decide (i < 2 ^ 62)
/-- a freeze -/
def frzD (M : Mem) : D → Out D
  | .ref n => match M[n]? with
    | some (.lst xs) => .ok (.lst xs) (M.set n .dead)
    | _ => .err
  | d => .ok d M
/-- what a call leaves: what it made besides is forgotten where nothing names it -/
def Shrinks (M : Mem) (ds : List D) (M' : Mem) : Prop := closedL M.length ds = true ∧ ∀ (i : Nat) (o : MO), i < M.length → M'[i]? = some o → M[i]? = some o ∨ closedO M.length o = true
open Classical in
noncomputable def shrink (M : Mem) (ds : List D) (M' : Mem) : Mem := if Shrinks M ds M' then M'.take M.length else M'
def getF : List Nat → List D → Nat → Option D
  | g :: gs, v :: vs, f => if g = f then some v else getF gs vs f
  | _, _, _ => none
/-- an attribute stored -/
def putF (f : Nat) (v : D) : List Nat → List D → List Nat × List D
  | g :: gs, x :: xs => if g = f then (g :: gs, v :: xs) else ((g :: (putF f v gs xs).1), (x :: (putF f v gs xs).2))
  | _, _ => ([f], [v])
def bmtD (m : BM) (o : D) (as : List D) (M : Mem) : Out D :=
  match m, o, as with
  | .append, .ref n, [x] => match M[n]? with
    | some (.lst xs) => if xs.length < LINE then .ok .non (M.set n (.lst (xs ++ [x]))) else .err
    | _ => .err
  | .extend, .ref n, [.lst ys] => match M[n]? with
    | some (.lst xs) => if xs.length + ys.length ≤ LINE then .ok .non (M.set n (.lst (xs ++ ys))) else .err
    | _ => .err
  | .indexL, o, [x] => match rd M o with
    | .lst xs => if data 50 x && dataL 50 xs then Out.of ((indexD x xs).map fun n => .int n) M else .err
    | _ => .err
  | .countL, o, [x] => match rd M o with
    | .lst xs => if data 50 x && dataL 50 xs then .ok (.int (xs.countP fun y => eqB y x : Nat)) M else .err
    | _ => .err
  | .indexT, .tupk xs, [.str z] => Out.of ((indexS z xs).map fun n => .int n) M
  | _, _, _ => .err
/-- what a built-in method is asked of -/
def recvOk (m : BM) (x : D) (M : Mem) : Bool :=
  match m with
  | .indexT => (match x with | .tupk _ => true | _ => false)
  | _ => (match rd M x with | .lst _ => true | _ => false)
def setIx (o i v : D) (M : Mem) : Out Unit :=
  match o, i with
  | .ref n, .int k => match M[n]? with
    | some (.lst xs) => match ixN xs.length k with
      | some j => .ok () (M.set n (.lst (xs.set j v)))
      | none => .err
    | _ => .err
  | _, _ => .err
def setAt (Γ : Prog) (o : D) (f : Nat) (v : D) (M : Mem) : Out Unit :=
  match o with
  | .ref n => match M[n]? with
    | some (.ins c fs vs) => if fs.length < 1000 ∧ Γ.fld c f = true then .ok () (M.set n (.ins c (putF f v fs vs).1 (putF f v fs vs).2)) else .err
    | _ => .err
  | _ => .err
/-- what is not to raise -/
def Out.calm {α : Type} : Out α → Out α
  | .ok a M => .ok a M
  | _ => .err
abbrev Calls := Nat → List D → Mem → Out D

section
variable (Γ : Prog) (cf : Calls)
/-- a new instance -/
noncomputable def newD (c : Nat) (as : List D) (M : Mem) : Out D :=
  match Γ.cls c with
  | some (f, fz) => (cf f (.ref M.length :: as) (M ++ [.ins c [] []])).bind fun r M1 =>
      match r with
      | .non => if fz then (match M1[M.length]? with
          | some (.ins c fs vs) => .ok (.ins c fs vs) (shrink M vs (M1.set M.length .dead))
          | _ => .err) else .ok (.ref M.length) M1
      | _ => .err
  | none => .err
mutual
noncomputable def evE : CE → Env → Mem → Out D
  | .lit d, _, M => .ok d M
  | .var i, ρ, M => match ρ[i]? with | some (some d) => .ok d M | _ => .err
  | .glb g, _, M => Out.of (Γ.glb g) M
  | .bin o a b, ρ, M => (evE a ρ M).bind fun x M1 => (evE b ρ M1).bind fun y M2 => Out.of (binD o (rd M2 x) (rd M2 y)) M2
  | .neg a, ρ, M => (evE a ρ M).bind fun x M1 => match x with | .int i => .ok (.int (-i)) M1 | _ => .err
  | .not a, ρ, M => (evE a ρ M).bind fun x M1 => Out.of ((truthD (rd M1 x)).map fun b => .bl (!b)) M1
  | .and a b, ρ, M => (evE a ρ M).bind fun x M1 => match truthD (rd M1 x) with | some true => evE b ρ M1 | some false => .ok x M1 | none => .err
  | .or a b, ρ, M => (evE a ρ M).bind fun x M1 => match truthD (rd M1 x) with | some true => .ok x M1 | some false => evE b ρ M1 | none => .err
  | .cmp o a b, ρ, M => (evE a ρ M).bind fun x M1 => (evE b ρ M1).bind fun y M2 => Out.of ((cmpD o (rd M2 x) (rd M2 y)).map .bl) M2
  | .cmp2 o p a b c, ρ, M => (evE a ρ M).bind fun x M1 => (evE b ρ M1).bind fun y M2 => match cmpD o (rd M2 x) (rd M2 y) with
      | some true => (evE c ρ M2).bind fun z M3 => Out.of ((cmpD p (rd M3 y) (rd M3 z)).map .bl) M3
      | some false => .ok (.bl false) M2
      | none => .err
  | .ite c a b, ρ, M => (evE c ρ M).bind fun x M1 => match truthD (rd M1 x) with | some true => evE a ρ M1 | some false => evE b ρ M1 | none => .err
  | .tup es, ρ, M => (evEs es ρ M).bind fun xs M1 => if xs.length ≤ LINE then .ok (.tup xs) M1 else .err
  | .lst live es, ρ, M => (evEs es ρ M).bind fun xs M1 => if xs.length ≤ LINE then (if live then .ok (.ref M1.length) (M1 ++ [.lst xs]) else .ok (.lst xs) M1) else .err
  | .comp live own tg it cond elt, ρ, M => (evI it ρ M).bind fun ds M1 => if ds.length ≤ LINE then
      (compL (fun d M => ((evT tg d (wipe ρ own) M).bind fun ρ1 M1 => (evO cond ρ1 M1).bind fun c M2 => match c with
        | none => (evE elt ρ1 M2).bind fun x M3 => .ok (some x) M3
        | some x => match truthD (rd M2 x) with
          | some true => (evE elt ρ1 M2).bind fun x M3 => .ok (some x) M3
          | some false => .ok none M2
          | none => .err).calm) ds M1).bind fun xs M2 => if live then .ok (.ref M2.length) (M2 ++ [.lst xs]) else .ok (.lst xs) M2 else .err
  | .ix a b, ρ, M => (evE a ρ M).bind fun x M1 => (evE b ρ M1).bind fun y M2 => Out.of (ixD (rd M2 x) y) M2
  | .slc a lo hi, ρ, M => (evE a ρ M).bind fun x M1 => ((evO lo ρ M1).bind fun l M2 => Out.of (partI l) M2).bind fun l M2 =>
      ((evO hi ρ M2).bind fun h M3 => Out.of (partI h) M3).bind fun h M3 => Out.of (slcD (rd M3 x) l h) M3
  | .rev a, ρ, M => (evE a ρ M).bind fun x M1 => Out.of (revD (rd M1 x)) M1
  | .isi a ts, ρ, M => (evE a ρ M).bind fun x M1 => Out.of ((isAny Γ (rd M1 x) ts).map .bl) M1
  | .eqm m a b, ρ, M => (evE a ρ M).bind fun x M1 => (evE b ρ M1).bind fun y M2 => (Out.of (eqmD Γ m (rd M2 x) (rd M2 y)) M2).bind fun f M2 => (cf f [x, y] M2).bind fun d M3 => match d with
      | .bl k => .ok (.bl k) M3
      | _ => .err
  | .blt b es, ρ, M => (evEs es ρ M).bind fun xs M1 => Out.of (bltD b (xs.map (rd M1))) M1
  | .call f es, ρ, M => (evEs es ρ M).bind fun xs M1 => cf f xs M1
  | .calv i es, ρ, M => match ρ[i]? with | some (some (.fn f)) => if (Γ.fn f).isSome then (evEs es ρ M).bind fun xs M1 => cf f xs M1 else .err | _ => .err
  | .new c es, ρ, M => (evEs es ρ M).bind fun xs M1 => newD Γ cf c xs M1
  | .mth m o es, ρ, M => (evE o ρ M).bind fun x M1 => (Out.of (mthOf Γ m (rd M1 x)) M1).bind fun f M1 => (evEs es ρ M1).bind fun xs M2 => cf f (x :: xs) M2
  | .bmt m o es, ρ, M => (evE o ρ M).bind fun x M1 => if recvOk m x M1 then (evEs es ρ M1).bind fun xs M2 => bmtD m x xs M2 else .err
  | .att o f, ρ, M => (evE o ρ M).bind fun x M1 => match rd M1 x with | .ins c fs vs => if Γ.fld c f then Out.of (getF fs vs f) M1 else .err | _ => .err
  | .frz a, ρ, M => (evE a ρ M).bind fun x M1 => frzD M1 x
  | .isx a t, ρ, M => (evE a ρ M).bind fun x M1 => match x with
      | .exn c _ => if Γ.xcl c then (match t with
        | some c' => if Γ.xcl c' then .ok (.bl (decide (c' = c))) M1 else .err
        | none => .ok (.bl true) M1) else .err
      | _ => .err
  | .atx a f, ρ, M => (evE a ρ M).bind fun x M1 => match x with
      | .exn c as => if Γ.xcl c then Out.of (getF (Γ.xfl c) as f) M1 else .err
      | _ => .err
  | .told e, ρ, M => match evE e ρ M with
      | .ok d M1 => .ok (.tup [.str "told", d]) M1
      | .exc c as M1 => if Γ.xcl c && closedL 0 as then Out.of (Γ.rfd c as) M1 else .err
      | .err => .err
  | .dis0, _, M => .ok (.dct [] []) M
  | .same a b, ρ, M => (evE a ρ M).bind fun x M1 => if data 50 (rd M1 x) && decide (wtD (rd M1 x) ≤ 1000000) then (evE b ρ M1).bind fun y M2 => Out.of (sameO (rd M1 x) (rd M2 y)) M2 else .err
  | .dis1 k n, _, M => .ok (.dct [.str k] [.int n]) M
  | .lsto a, ρ, M => (evE a ρ M).bind fun x M1 => match rd M1 x with
      | .tup xs => .ok (.ref M1.length) (M1 ++ [.lst xs])
      | .lst xs => .ok (.ref M1.length) (M1 ++ [.lst xs])
      | _ => .err
noncomputable def evEs : CEs → Env → Mem → Out (List D)
  | .nil, _, M => .ok [] M
  | .cons e es, ρ, M => (evE e ρ M).bind fun x M1 => (evEs es ρ M1).bind fun xs M2 => .ok (x :: xs) M2
noncomputable def evO : CO → Env → Mem → Out (Option D)
  | .no, _, M => .ok none M
  | .yes e, ρ, M => (evE e ρ M).bind fun x M1 => .ok (some x) M1
/-- a store to a target -/
noncomputable def evT : CT → D → Env → Mem → Out Env
  | .name i, d, ρ, M => .ok (ρ.set i (some d)) M
  | .tup ts, d, ρ, M => match itemsT d with | some ds => if ds.length = lenTs ts then evTs ts ds ρ M else .err | none => .err
  | .sub o i, d, ρ, M => (evE o ρ M).bind fun x M1 => (evE i ρ M1).bind fun y M2 => (setIx x y d M2).bind fun _ M3 => .ok ρ M3
  | .att o f, d, ρ, M => (evE o ρ M).bind fun x M1 => (setAt Γ x f d M1).bind fun _ M2 => .ok ρ M2
noncomputable def evTs : CTs → List D → Env → Mem → Out Env
  | .nil, ds, ρ, M => match ds with | [] => .ok ρ M | _ => .err
  | .cons t ts, ds, ρ, M => match ds with | d :: ds => (evT t d ρ M).bind fun ρ1 M1 => evTs ts ds ρ1 M1 | [] => .err
/-- the items that are walked -/
noncomputable def evI : CI → Env → Mem → Out (List D)
  | .seq e, ρ, M => (evE e ρ M).bind fun x M1 => Out.of (itemsD x) M1
  | .rng1 a, ρ, M => (evE a ρ M).bind fun x M1 => match x with | .int j => if smallR j then .ok (rngD 0 j.toNat) M1 else .err | _ => .err
  | .rng2 a b, ρ, M => (evE a ρ M).bind fun x M1 => (evE b ρ M1).bind fun y M2 => match x, y with
      | .int i, .int j => if smallR i && smallR j then .ok (rngD i (j - i).toNat) M2 else .err
      | _, _ => .err
  | .enu e, ρ, M => (evE e ρ M).bind fun x M1 => Out.of ((itemsD x).map (enuD 0)) M1
  | .zip a b, ρ, M => (evE a ρ M).bind fun x M1 => (evE b ρ M1).bind fun y M2 => match x, y with
      | .tup xs, .tup ys => .ok (zipD xs ys) M2
      | .lst xs, .lst ys => .ok (zipD xs ys) M2
      | _, _ => .err
end
end
/-- how a statement ends -/
inductive Fl where
  | nx (ρ : Env) | rt (d : D) | bk (ρ : Env)
/-- a loop over items -/
def forL (f : D → Env → Mem → Out Fl) : List D → Env → Mem → Out Fl
  | [], ρ, M => .ok (.nx ρ) M
  | d :: ds, ρ, M => (f d ρ M).bind fun r M1 => match r with
    | .nx ρ1 => forL f ds ρ1 M1
    | .rt d => .ok (.rt d) M1
    | .bk ρ1 => .ok (.nx ρ1) M1
/-- a while of at most n turns -/
def whiL (c : Env → Mem → Out Bool) (f : Env → Mem → Out Fl) : Nat → Env → Mem → Out Fl
  | 0, _, _ => .err
  | n + 1, ρ, M => (c ρ M).bind fun b M1 => if b then (f ρ M1).bind fun r M2 => match r with
      | .nx ρ1 => whiL c f n ρ1 M2
      | .rt d => .ok (.rt d) M2
      | .bk ρ1 => .ok (.nx ρ1) M2
    else .ok (.nx ρ) M1
def WMAX : Nat := 100000
section
variable (Γ : Prog) (cf : Calls)
noncomputable def evC (c : CE) (ρ : Env) (M : Mem) : Out Bool := (evE Γ cf c ρ M).bind fun x M1 => Out.of (truthD (rd M1 x)) M1
mutual
noncomputable def exS : CS → Env → Mem → Out Fl
  | .asg t e, ρ, M => (evE Γ cf e ρ M).bind fun x M1 => (evT Γ cf t x ρ M1).bind fun ρ1 M2 => .ok (.nx ρ1) M2
  | .aug i o e, ρ, M => match ρ[i]? with
      | some (some x) => (evE Γ cf e ρ M).bind fun y M1 => match o, x, y with
        | .add, .int i1, .int j => .ok (.nx (ρ.set i (some (.int (i1 + j))))) M1
        | .sub, .int i1, .int j => .ok (.nx (ρ.set i (some (.int (i1 - j))))) M1
        | _, _, _ => .err
      | _ => .err
  | .augs o i p e, ρ, M => (evE Γ cf o ρ M).bind fun a M1 => (evE Γ cf i ρ M1).bind fun k M2 => (Out.of (ixD (rd M2 a) k) M2).bind fun x M3 => (evE Γ cf e ρ M3).bind fun y M4 =>
      match p, x, y with
      | .add, .int i1, .int j => (setIx a k (.int (i1 + j)) M4).bind fun _ M5 => .ok (.nx ρ) M5
      | .sub, .int i1, .int j => (setIx a k (.int (i1 - j)) M4).bind fun _ M5 => .ok (.nx ρ) M5
      | _, _, _ => .err
  | .exp e, ρ, M => (evE Γ cf e ρ M).bind fun _ M1 => .ok (.nx ρ) M1
  | .ret e, ρ, M => (evE Γ cf e ρ M).bind fun x M1 => .ok (.rt x) M1
  | .ife c a b, ρ, M => (evC Γ cf c ρ M).bind fun k M1 => if k then exSs a ρ M1 else exSs b ρ M1
  | .loop t it body, ρ, M => (evI Γ cf it ρ M).bind fun ds M1 => forL (fun d ρ M => (evT Γ cf t d ρ M).bind fun ρ1 M1 => exSs body ρ1 M1) ds ρ M1
  | .whil c body, ρ, M => whiL (evC Γ cf c) (fun ρ M => exSs body ρ M) WMAX ρ M
  | .brk, ρ, M => .ok (.bk ρ) M
  | .pas, ρ, M => .ok (.nx ρ) M
  | .rais c es, ρ, M => (evEs Γ cf es ρ M).bind fun xs M1 => .exc c xs M1
  | .frzv i, ρ, M => match ρ[i]? with | some (some x) => (frzD M x).bind fun y M1 => .ok (.nx (ρ.set i (some y))) M1 | _ => .err
  | .never, _, _ => .err
noncomputable def exSs : CSs → Env → Mem → Out Fl
  | .nil, ρ, M => .ok (.nx ρ) M
  | .cons s ss, ρ, M => (exS s ρ M).bind fun r M1 => match r with
    | .nx ρ1 => exSs ss ρ1 M1
    | .rt d => .ok (.rt d) M1
    | .bk ρ1 => .ok (.bk ρ1) M1
end
def startE (n : Nat) (ds : List D) : Env := ds.map some ++ List.replicate (n - ds.length) none
end
/-- the call of a def, at most k calls deep -/
noncomputable def callF (Γ : Prog) : Nat → Nat → List D → Mem → Out D
  | 0, _, _, _ => .err
  | k + 1, f, ds, M => match Γ.fn f with
    | some F => if ds.length = F.ar ∧ F.ar ≤ F.nn then (match exSs Γ (callF Γ k) F.body (startE F.nn ds) M with
        | .ok (.nx _) M1 => .ok .non (shrink M [] M1)
        | .ok (.rt d) M1 => .ok d (shrink M [d] M1)
        | .ok (.bk _) _ => .err
        | .exc c as M1 => .exc c as (shrink M as M1)
        | .err => .err) else .err
    | none => .err
end GW

set_option Elab.async false
set_option linter.all false
set_option autoImplicit false
set_option maxRecDepth 100000
set_option maxHeartbeats 2000000
/-! How data stand in the heap of the hand layer. -/
namespace GW
open PySem PySem.Spec PyProof.Rows L2

/-- the names of defs, of the module's constants, of classes, of attributes and methods; the fields of an exception -/
structure Tbl where
  fn : Nat → Str
  gl : Nat → Str
  cl : Nat → Str
  nm : Nat → Str
  xf : Nat → List Str
structure Link where
  T : Tbl
  fa : Nat → Addr
  ca : Nat → Addr
  /-- tables of code objects, for lambdas -/
  tabs : List (Addr × Str)
  /-- the exception that is caught: where it stands, its class, its dict -/
  xn : Option (Addr × Nat × Option Addr)
structure RS where
  HF : Hp
  φ : List Addr

/-- a tuple whose object is known, without a dict of its own -/
def KnT (K : PySem.W.Frag) (H : Hp) (a : Addr) (xs : List V) : Prop :=
  (∃ o, H a = some (.frz o (.tup xs)) ∧ o.dict = none) ∨ ∃ (o : Obj) (its : Array Value) (n : Nat), K.lookup a = some o ∧ o.cls = .type "tuple" ∧ o.dict = none ∧ o.data = .seq its n ∧ its.size ≤ sizeLine ∧ Vals xs its.toList
theorem KnT.seq {K : PySem.W.Frag} {H : Hp} {a : Addr} {xs : List V} (h : KnT K H a xs) : SqT K H a xs := by
  rcases h with ⟨o, h, _⟩ | ⟨o, its, n, h1, h2, _, h3⟩
  · exact .inl (.inr ⟨o, h⟩)
  · exact .inr ⟨o, its, n, h1, h2, h3⟩
theorem KnT.mono {K : PySem.W.Frag} {H H' : Hp} {a : Addr} {xs : List V} (e : ∀ b o, H b = some o → H' b = some o) (h : KnT K H a xs) : KnT K H' a xs := by
  rcases h with ⟨o, h, d⟩ | h
  · exact .inl ⟨o, e _ _ h, d⟩
  · exact .inr h
section
variable (K : PySem.W.Frag) (L : Link)
mutual
def Rep (S : RS) : D → V → Prop
  | .non, v => v = .non
  | .bl b, v => v = .bl b
  | .int i, v => v = .int i
  | .str s, v => v = .str s ∧ s.length ≤ sizeLine
  | .tup xs, v => ∃ a vs, v = .ref a ∧ SqT K S.HF a vs ∧ Reps S xs vs
  | .lst xs, v => ∃ a vs, v = .ref a ∧ Rd S.HF a (.lst vs) ∧ Reps S xs vs
  | .dct _ _, v => ∃ a kvs, v = .ref a ∧ S.HF a = some (.dK kvs)
  | .ins c fs xs, v => ∃ a dx vs, v = .ref a ∧ S.HF a = some (.ins (L.ca c) dx ((fs.map L.T.nm).zip vs)) ∧ Reps S xs vs ∧ fs.length = xs.length
  | .fn f, v => v = .ref (L.fa f)
  | .ref n, v => ∃ a, S.φ[n]? = some a ∧ v = .ref a
  | .tupk xs, v => ∃ a vs, v = .ref a ∧ KnT K S.HF a vs ∧ Reps S xs vs
  | .exn c as, v => ∃ a dd vs, L.xn = some (a, c, dd) ∧ v = .ref a ∧ ((as = [] ∧ dd = none) ∨ ∃ x, dd = some x ∧ S.HF x = some (.xd ((L.T.xf c).zip vs)) ∧ (L.T.xf c).length = as.length) ∧ Reps S as vs
def Reps (S : RS) : List D → List V → Prop
  | [], vs => vs = []
  | d :: ds, vs => ∃ v vr, vs = v :: vr ∧ Rep S d v ∧ Reps S ds vr
end
def live : MO → Bool
  | .dead => false
  | _ => true
def MRep (S : RS) : MO → Option HO → Prop
  | .dead, _ => True
  | .lst xs, h => ∃ vs, h = some (.lst vs) ∧ Reps K L S xs vs
  | .dct _ _, _ => False
  | .ins c fs xs, h => ∃ dx vs, h = some (.ins (L.ca c) dx ((fs.map L.T.nm).zip vs)) ∧ Reps K L S xs vs ∧ fs.length = xs.length
structure SR (S : RS) (M : Mem) (H : Hp) : Prop where
  sub : ∀ a o, S.HF a = some o → H a = some o
  len : S.φ.length = M.length
  nd : S.φ.Nodup
  al : ∀ a ∈ S.φ, ∃ o, H a = some o
  rp : ∀ (n : Nat) o a, M[n]? = some o → S.φ[n]? = some a → MRep K L S o (H a)
  fr : ∀ (n : Nat) o a, M[n]? = some o → S.φ[n]? = some a → live o = true → S.HF a = none
  tb : LamX.Tabs L.tabs H
  nt : ∀ a ∈ S.φ, ∀ o, H a = some o → (∀ ps, o ≠ .tbl ps) ∧ ∀ fs, o ≠ .xd fs
  nh : ∀ a ps, S.HF a ≠ some (.tbl ps)
end
def NoTbl (o : HO) : Prop := (∀ ps, o ≠ .tbl ps) ∧ ∀ fs, o ≠ .xd fs
theorem tabs_new {T : List (Addr × Str)} {H : Hp} {p : Addr} {o : HO} (hp : H p = none) (t : LamX.Tabs T H) : LamX.Tabs T (upd H p o) :=
  t.ext fun b u h => by rw [upd_ne (ne_of_none h hp)]; exact h
theorem tabs_write {T : List (Addr × Str)} {H : Hp} {p : Addr} {o o' : HO} (hp : H p = some o) (h1 : NoTbl o) (h2 : ∀ φ, o ≠ .ext φ) (t : LamX.Tabs T H) : LamX.Tabs T (upd H p o') := by
  intro q hq
  obtain ⟨ps, e1, e2, e3⟩ := t q hq
  refine ⟨ps, ?_, e2, fun pos cv hc => ?_⟩
  · rw [upd_ne (fun z : q.1 = p => by rw [z, hp] at e1; cases e1; exact h1.1 _ rfl)]
    exact e1
  · obtain ⟨c, e4, e5⟩ := e3 pos cv hc
    refine ⟨c, e4, ?_⟩
    rw [upd_ne (fun z : c = p => by rw [z, hp] at e5; cases e5; exact h2 _ rfl)]
    exact e5
structure Le (S S' : RS) : Prop where
  hf : ∀ a o, S.HF a = some o → S'.HF a = some o
  ph : ∃ l, S'.φ = S.φ ++ l
theorem Le.refl (S : RS) : Le S S := ⟨fun _ _ h => h, [], by simp⟩
theorem Le.trans {S S1 S2 : RS} (a : Le S S1) (b : Le S1 S2) : Le S S2 :=
  ⟨fun x o h => b.hf x o (a.hf x o h), let ⟨l, e⟩ := a.ph; let ⟨m, e'⟩ := b.ph; ⟨l ++ m, by rw [e', e, List.append_assoc]⟩⟩
theorem Le.at {S S' : RS} (h : Le S S') {n : Nat} {a : Addr} (e : S.φ[n]? = some a) : S'.φ[n]? = some a := by
  obtain ⟨l, q⟩ := h.ph
  rw [q, List.getElem?_append_left (List.getElem?_eq_some_iff.mp e).1]
  exact e
/-- from one state to a later one: what is neither live is kept -/
structure Step (S : RS) (H : Hp) (S' : RS) (H' : Hp) : Prop where
  le : Le S S'
  keep : ∀ b o, H b = some o → b ∉ S.φ → NoTbl o → H' b = some o ∧ b ∉ S'.φ
  un : ∀ b o, H b = some o → b ∉ S.φ → NoTbl o → S.HF b = none → S'.HF b = none
theorem Step.refl (S : RS) (H : Hp) : Step S H S H := ⟨.refl S, fun _ _ h n _ => ⟨h, n⟩, fun _ _ _ _ _ h => h⟩
theorem Step.trans {S S1 S2 : RS} {H H1 H2 : Hp} (a : Step S H S1 H1) (b : Step S1 H1 S2 H2) : Step S H S2 H2 :=
  ⟨a.le.trans b.le, fun x o h n w => let ⟨h1, n1⟩ := a.keep x o h n w; b.keep x o h1 n1 w, fun x o h n w u => let ⟨h1, n1⟩ := a.keep x o h n w; b.un x o h1 n1 w (a.un x o h n w u)⟩
theorem sqT_mono {K : PySem.W.Frag} {H H' : Hp} {a : Addr} {xs : List V} (e : ∀ b o, H b = some o → H' b = some o) (h : SqT K H a xs) : SqT K H' a xs := by
  rcases h with (h | ⟨o, h⟩) | h
  · exact .inl (.inl (e _ _ h))
  · exact .inl (.inr ⟨o, e _ _ h⟩)
  · exact .inr h
theorem rd_mono {H H' : Hp} {a : Addr} {u : HO} (e : ∀ b o, H b = some o → H' b = some o) (h : Rd H a u) : Rd H' a u := by
  rcases h with h | ⟨o, h⟩
  · exact .inl (e _ _ h)
  · exact .inr ⟨o, e _ _ h⟩
section
variable {K : PySem.W.Frag} {L : Link}
mutual
theorem Rep.mono {S S' : RS} (le : Le S S') : ∀ (d : D) (v : V), Rep K L S d v → Rep K L S' d v
  | .non, _, h => by simpa [Rep] using h
  | .bl _, _, h => by simpa [Rep] using h
  | .int _, _, h => by simpa [Rep] using h
  | .str _, _, h => by simpa [Rep] using h
  | .tup xs, v, h => by
    rw [Rep] at h ⊢
    obtain ⟨a, vs, e, q, r⟩ := h
    exact ⟨a, vs, e, sqT_mono le.hf q, Reps.mono le xs vs r⟩
  | .lst xs, v, h => by
    rw [Rep] at h ⊢
    obtain ⟨a, vs, e, q, r⟩ := h
    exact ⟨a, vs, e, rd_mono le.hf q, Reps.mono le xs vs r⟩
  | .dct _ _, _, h => by
    rw [Rep] at h ⊢
    obtain ⟨a, kvs, e, q⟩ := h
    exact ⟨a, kvs, e, le.hf _ _ q⟩
  | .ins c fs xs, v, h => by
    rw [Rep] at h ⊢
    obtain ⟨a, dx, vs, e, q, r, z⟩ := h
    exact ⟨a, dx, vs, e, le.hf _ _ q, Reps.mono le xs vs r, z⟩
  | .fn _, _, h => by simpa [Rep] using h
  | .ref n, v, h => by
    rw [Rep] at h ⊢
    obtain ⟨a, q, e⟩ := h
    exact ⟨a, le.at q, e⟩
  | .tupk xs, v, h => by
    rw [Rep] at h ⊢
    obtain ⟨a, vs, e, q, r⟩ := h
    exact ⟨a, vs, e, q.mono le.hf, Reps.mono le xs vs r⟩
  | .exn c as, v, h => by
    rw [Rep] at h ⊢
    obtain ⟨a, dd, vs, e, e2, q, r⟩ := h
    refine ⟨a, dd, vs, e, e2, ?_, Reps.mono le as vs r⟩
    rcases q with q | ⟨x, q1, q2, q3⟩
    · exact .inl q
    · exact .inr ⟨x, q1, le.hf _ _ q2, q3⟩
theorem Reps.mono {S S' : RS} (le : Le S S') : ∀ (ds : List D) (vs : List V), Reps K L S ds vs → Reps K L S' ds vs
  | [], _, h => by simpa [Reps] using h
  | d :: ds, vs, h => by
    rw [Reps] at h ⊢
    obtain ⟨v, vr, e, r, t⟩ := h
    exact ⟨v, vr, e, Rep.mono le d v r, Reps.mono le ds vr t⟩
end
variable {S S' : RS} {M : Mem} {H : Hp}
theorem Reps.nil : Reps K L S [] [] := by rw [Reps]
theorem Reps.cons {d : D} {ds : List D} {v : V} {vs : List V} (r : Rep K L S d v) (t : Reps K L S ds vs) : Reps K L S (d :: ds) (v :: vs) := by
  rw [Reps]
  exact ⟨v, vs, rfl, r, t⟩
theorem Reps.cons_inv {d : D} {ds : List D} {vs : List V} (h : Reps K L S (d :: ds) vs) : ∃ v vr, vs = v :: vr ∧ Rep K L S d v ∧ Reps K L S ds vr := by rwa [Reps] at h
theorem Reps.nil_inv {vs : List V} (h : Reps K L S [] vs) : vs = [] := by rwa [Reps] at h
theorem Reps.length : ∀ {ds : List D} {vs : List V}, Reps K L S ds vs → vs.length = ds.length
  | [], vs, h => by rw [h.nil_inv]; rfl
  | d :: ds, vs, h => by
    obtain ⟨v, vr, rfl, _, t⟩ := h.cons_inv
    simp [Reps.length t]
theorem Reps.append : ∀ {ds es : List D} {vs ws : List V}, Reps K L S ds vs → Reps K L S es ws → Reps K L S (ds ++ es) (vs ++ ws)
  | [], es, vs, ws, h, t => by rw [h.nil_inv]; exact t
  | d :: ds, es, vs, ws, h, t => by
    obtain ⟨v, vr, rfl, r, q⟩ := h.cons_inv
    exact .cons r (Reps.append q t)
theorem Reps.get : ∀ {ds : List D} {vs : List V} {i : Nat} {d : D}, Reps K L S ds vs → ds[i]? = some d → ∃ v, vs[i]? = some v ∧ Rep K L S d v
  | [], _, i, d, _, e => by simp at e
  | x :: xs, vs, 0, d, h, e => by
    obtain ⟨v, vr, rfl, r, q⟩ := h.cons_inv
    simp at e
    subst e
    exact ⟨v, rfl, r⟩
  | x :: xs, vs, i + 1, d, h, e => by
    obtain ⟨v, vr, rfl, r, q⟩ := h.cons_inv
    exact Reps.get (i := i) q (by simpa using e)
theorem Reps.get' {ds : List D} {vs : List V} {i : Nat} {v : V} (h : Reps K L S ds vs) (e : vs[i]? = some v) : ∃ d, ds[i]? = some d ∧ Rep K L S d v := by
  have hi : i < ds.length := by
    rw [← h.length]
    exact (List.getElem?_eq_some_iff.mp e).1
  obtain ⟨w, e', r⟩ := h.get (List.getElem?_eq_getElem hi)
  rw [e] at e'
  cases e'
  exact ⟨_, List.getElem?_eq_getElem hi, r⟩
theorem Reps.take : ∀ {ds : List D} {vs : List V} (n : Nat), Reps K L S ds vs → Reps K L S (ds.take n) (vs.take n)
  | _, _, 0, _ => by simp; exact .nil
  | [], vs, n + 1, h => by rw [h.nil_inv]; exact .nil
  | d :: ds, vs, n + 1, h => by
    obtain ⟨v, vr, rfl, r, q⟩ := h.cons_inv
    exact .cons r (Reps.take n q)
theorem Reps.drop : ∀ {ds : List D} {vs : List V} (n : Nat), Reps K L S ds vs → Reps K L S (ds.drop n) (vs.drop n)
  | _, _, 0, h => h
  | [], vs, n + 1, h => by rw [h.nil_inv]; exact .nil
  | d :: ds, vs, n + 1, h => by
    obtain ⟨v, vr, rfl, r, q⟩ := h.cons_inv
    exact Reps.drop n q
theorem Reps.set : ∀ {ds : List D} {vs : List V} (n : Nat) {d : D} {v : V}, Reps K L S ds vs → Rep K L S d v → Reps K L S (ds.set n d) (vs.set n v)
  | [], vs, n, _, _, h, _ => by rw [h.nil_inv]; exact .nil
  | x :: ds, vs, 0, d, v, h, q => by
    obtain ⟨_, vr, rfl, r, t⟩ := h.cons_inv
    exact .cons q t
  | x :: ds, vs, n + 1, d, v, h, q => by
    obtain ⟨_, vr, rfl, r, t⟩ := h.cons_inv
    exact .cons r (Reps.set n t q)
theorem Reps.reverse : ∀ {ds : List D} {vs : List V}, Reps K L S ds vs → Reps K L S ds.reverse vs.reverse
  | [], vs, h => by rw [h.nil_inv]; exact .nil
  | d :: ds, vs, h => by
    obtain ⟨v, vr, rfl, r, q⟩ := h.cons_inv
    rw [List.reverse_cons, List.reverse_cons]
    exact Reps.append (Reps.reverse q) (.cons r .nil)
theorem Reps.rep {ds : List D} {vs : List V} (h : Reps K L S ds vs) : ∀ n : Nat, Reps K L S (List.replicate n ds).flatten (List.replicate n vs).flatten
  | 0 => .nil
  | n + 1 => by
    rw [List.replicate_succ, List.replicate_succ, List.flatten_cons, List.flatten_cons]
    exact h.append (Reps.rep h n)
/-! ### plain data -/
mutual
def toP : D → PyData
  | .bl b => .bool b | .int i => .int i | .str s => .str s
  | .tup xs => .tuple (toPs xs) | .lst xs => .list (toPs xs)
  | .non => .none | .dct _ _ => .none | .ins _ _ _ => .none | .fn _ => .none | .ref _ => .none | .tupk _ => .none | .exn _ _ => .none
def toPs : List D → List PyData
  | [] => []
  | x :: xs => toP x :: toPs xs
end
mutual
theorem eqB_toP : ∀ (n m : Nat) (x y : D), data n x = true → data m y = true → PyData.eqv (toP x) (toP y) = eqB x y
  | n, m, .non, y, _, hy => by cases y <;> first | (simp [toP, PyData.eqv, eqB]; done) | (simp [data] at hy)
  | n, m, .bl b, y, _, hy => by cases y <;> first | (simp [toP, PyData.eqv, eqB]; done) | (simp [data] at hy)
  | n, m, .int b, y, _, hy => by cases y <;> first | (simp [toP, PyData.eqv, eqB]; done) | (simp [data] at hy)
  | n, m, .str b, y, _, hy => by cases y <;> first | (simp [toP, PyData.eqv, eqB]; done) | (simp [data] at hy)
  | n, m, .tup xs, y, hx, hy => by
    cases y with
    | tup ys =>
      cases n with
      | zero => simp [data] at hx
      | succ n =>
        cases m with
        | zero => simp [data] at hy
        | succ m =>
          simp only [toP, PyData.eqv, eqB]
          exact eqL_toP n m xs ys (by simpa [data] using hx) (by simpa [data] using hy)
    | _ => first | (simp [toP, PyData.eqv, eqB]; done) | (simp [data] at hy)
  | n, m, .lst xs, y, hx, hy => by
    cases y with
    | lst ys =>
      cases n with
      | zero => simp [data] at hx
      | succ n =>
        cases m with
        | zero => simp [data] at hy
        | succ m =>
          simp only [toP, PyData.eqv, eqB]
          exact eqL_toP n m xs ys (by simpa [data] using hx) (by simpa [data] using hy)
    | _ => first | (simp [toP, PyData.eqv, eqB]; done) | (simp [data] at hy)
  | _, _, .dct _ _, _, hx, _ => by simp [data] at hx
  | _, _, .ins _ _ _, _, hx, _ => by simp [data] at hx
  | _, _, .fn _, _, hx, _ => by simp [data] at hx
  | _, _, .ref _, _, hx, _ => by simp [data] at hx
  | _, _, .tupk _, _, hx, _ => by simp [data] at hx
  | _, _, .exn _ _, _, hx, _ => by simp [data] at hx
theorem eqL_toP : ∀ (n m : Nat) (xs ys : List D), dataL n xs = true → dataL m ys = true → PyData.eqvAll (toPs xs) (toPs ys) = eqL xs ys
  | n, m, [], ys, _, _ => by cases ys <;> simp [toPs, PyData.eqvAll, eqL]
  | n, m, x :: xs, [], _, _ => by simp [toPs, PyData.eqvAll, eqL]
  | n, m, x :: xs, y :: ys, hx, hy => by
    simp only [dataL, Bool.and_eq_true] at hx hy
    simp only [toPs, PyData.eqvAll, eqL]
    rw [eqB_toP n m x y hx.1 hy.1, eqL_toP n m xs ys hx.2 hy.2]
end
mutual
theorem lay_toP : ∀ (n : Nat) (x : D), data n x = true → (toP x).canLay0 = true ∧ (toP x).depth ≤ n
  | n, .non, _ => by simp [toP, PyData.canLay0, PyData.depth]
  | n, .bl _, _ => by simp [toP, PyData.canLay0, PyData.depth]
  | n, .int _, _ => by simp [toP, PyData.canLay0, PyData.depth]
  | n, .str s, h => ⟨by simp only [toP, PyData.canLay0]; exact h, by simp [toP, PyData.depth]⟩
  | 0, .tup xs, h => by simp [data] at h
  | n + 1, .tup xs, h => by
    have q := lay_toPs n xs (by simpa [data] using h)
    exact ⟨by simp only [toP, PyData.canLay0]; exact q.1, by simp only [toP, PyData.depth]; omega⟩
  | 0, .lst xs, h => by simp [data] at h
  | n + 1, .lst xs, h => by
    have q := lay_toPs n xs (by simpa [data] using h)
    exact ⟨by simp only [toP, PyData.canLay0]; exact q.1, by simp only [toP, PyData.depth]; omega⟩
  | _, .dct _ _, h => by simp [data] at h
  | _, .ins _ _ _, h => by simp [data] at h
  | _, .fn _, h => by simp [data] at h
  | _, .ref _, h => by simp [data] at h
  | _, .tupk _, h => by simp [data] at h
  | _, .exn _ _, h => by simp [data] at h
theorem lay_toPs : ∀ (n : Nat) (xs : List D), dataL n xs = true → PyData.canLayAll0 (toPs xs) = true ∧ PyData.depthAll (toPs xs) ≤ n
  | n, [], _ => by simp [toPs, PyData.canLayAll0, PyData.depthAll]
  | n, x :: xs, h => by
    simp only [dataL, Bool.and_eq_true] at h
    have q1 := lay_toP n x h.1
    have q2 := lay_toPs n xs h.2
    refine ⟨by simp only [toPs, PyData.canLayAll0, q1.1, q2.1, Bool.and_self], ?_⟩
    simp only [toPs, PyData.depthAll]
    omega
end
theorem shaped_toP {n : Nat} {x : D} (hn : n ≤ 64) (h : data n x = true) : SeqAt.shaped (toP x) = true := by
  have q := lay_toP n x h
  show ((toP x).canLay0 && decide ((toP x).depth ≤ 64)) = true
  rw [q.1, Bool.true_and, decide_eq_true_eq]
  omega
/-- what a value is at the heap, its outermost list or instance perhaps live -/
def Top (K : PySem.W.Frag) (L : Link) (S : RS) (H : Hp) : D → V → Prop
  | .lst xs, v => ∃ a vs, v = .ref a ∧ Rd H a (.lst vs) ∧ Reps K L S xs vs
  | .ins c fs xs, v => ∃ a dx vs, v = .ref a ∧ H a = some (.ins (L.ca c) dx ((fs.map L.T.nm).zip vs)) ∧ Reps K L S xs vs ∧ fs.length = xs.length
  | d, v => Rep K L S d v
theorem Rep.top (sr : SR K L S M H) : ∀ {d : D} {v : V}, Rep K L S d v → Top K L S H d v
  | .non, _, h => h
  | .bl _, _, h => h
  | .int _, _, h => h
  | .str _, _, h => h
  | .tup xs, v, h => h
  | .lst xs, v, h => by
    rw [Rep] at h
    obtain ⟨a, vs, e, q, r⟩ := h
    exact ⟨a, vs, e, rd_mono sr.sub q, r⟩
  | .dct _ _, _, h => h
  | .ins c fs xs, v, h => by
    rw [Rep] at h
    obtain ⟨a, dx, vs, e, q, r, z⟩ := h
    exact ⟨a, dx, vs, e, sr.sub _ _ q, r, z⟩
  | .fn _, _, h => h
  | .ref n, v, h => h
  | .tupk _, _, h => h
  | .exn _ _, _, h => h
theorem Rep.rd (sr : SR K L S M H) {d : D} {v : V} (h : Rep K L S d v) : Top K L S H (GW.rd M d) v := by
  cases d with
  | ref n =>
    have h0 := h
    rw [Rep] at h
    obtain ⟨a, q, e⟩ := h
    unfold GW.rd
    dsimp only
    cases hm : M[n]? with
    | none => exact h0
    | some o =>
      cases o with
      | dead => exact h0
      | lst xs =>
        obtain ⟨vs, e1, r⟩ := sr.rp n _ a hm q
        exact ⟨a, vs, e, .inl e1, r⟩
      | dct ks vs => exact (show False from sr.rp n _ a hm q).elim
      | ins c fs vs =>
        obtain ⟨dx, ws, e1, r, z⟩ := sr.rp n _ a hm q
        exact ⟨a, dx, ws, e, e1, r, z⟩
  | non => exact h.top sr
  | bl _ => exact h.top sr
  | int _ => exact h.top sr
  | str _ => exact h.top sr
  | tup _ => exact h.top sr
  | lst _ => exact h.top sr
  | dct _ _ => exact h.top sr
  | ins _ _ _ => exact h.top sr
  | fn _ => exact h.top sr
  | tupk xs =>
    rw [Rep] at h
    obtain ⟨a, vs, e, q, r⟩ := h
    show Rep K L S (.tup xs) v
    rw [Rep]
    exact ⟨a, vs, e, q.seq, r⟩
  | exn _ _ => exact h.top sr
mutual
theorem Rep.dp (sr : SR K L S M H) : ∀ (n : Nat) (d : D) (v : V), data n d = true → Rep K L S d v → Dp K H v (toP d)
  | n, .non, v, _, h => by rw [Rep] at h; subst h; exact .non
  | n, .bl b, v, _, h => by rw [Rep] at h; subst h; exact .bl b
  | n, .int i, v, _, h => by rw [Rep] at h; subst h; exact .int i
  | n, .str s, v, _, h => by rw [Rep] at h; obtain ⟨h, _⟩ := h; subst h; exact .str s
  | 0, .tup xs, _, hd, _ => by simp [data] at hd
  | n + 1, .tup xs, v, hd, h => by
    rw [Rep] at h
    obtain ⟨a, vs, rfl, q, r⟩ := h
    rw [toP]
    exact .tup (sqT_mono sr.sub q) (Reps.dp sr n xs vs (by simpa [data] using hd) r)
  | 0, .lst xs, _, hd, _ => by simp [data] at hd
  | n + 1, .lst xs, v, hd, h => by
    rw [Rep] at h
    obtain ⟨a, vs, rfl, q, r⟩ := h
    rw [toP]
    exact .lst (.inl (rd_mono sr.sub q)) (Reps.dp sr n xs vs (by simpa [data] using hd) r)
  | _, .dct _ _, _, hd, _ => by simp [data] at hd
  | _, .ins _ _ _, _, hd, _ => by simp [data] at hd
  | _, .fn _, _, hd, _ => by simp [data] at hd
  | _, .ref _, _, hd, _ => by simp [data] at hd
  | _, .tupk _, _, hd, _ => by simp [data] at hd
  | _, .exn _ _, _, hd, _ => by simp [data] at hd
theorem Reps.dp (sr : SR K L S M H) : ∀ (n : Nat) (ds : List D) (vs : List V), dataL n ds = true → Reps K L S ds vs → DpAll K H vs (toPs ds)
  | n, [], vs, _, h => by rw [h.nil_inv, toPs]; exact .nil
  | n, d :: ds, vs, hd, h => by
    obtain ⟨v, vr, rfl, r, t⟩ := h.cons_inv
    simp only [dataL, Bool.and_eq_true] at hd
    rw [toPs]
    exact .cons (Rep.dp sr n d v hd.1 r) (Reps.dp sr n ds vr hd.2 t)
end
theorem Top.dp (sr : SR K L S M H) {n : Nat} {d : D} {v : V} (hd : data n d = true) (h : Top K L S H d v) : Dp K H v (toP d) := by
  cases d with
  | tup xs => exact Rep.dp sr n _ _ hd h
  | lst xs =>
    obtain ⟨a, vs, rfl, q, r⟩ := h
    cases n with
    | zero => simp [data] at hd
    | succ n =>
      rw [toP]
      exact .lst (.inl q) (Reps.dp sr n xs vs (by simpa [data] using hd) r)
  | ins _ _ _ => simp [data] at hd
  | non => exact Rep.dp sr n _ _ hd h
  | bl _ => exact Rep.dp sr n _ _ hd h
  | int _ => exact Rep.dp sr n _ _ hd h
  | str _ => exact Rep.dp sr n _ _ hd h
  | dct _ _ => simp [data] at hd
  | fn _ => simp [data] at hd
  | ref _ => simp [data] at hd
  | tupk _ => simp [data] at hd
  | exn _ _ => simp [data] at hd
/-! ### the state goes on -/
/-- a new thing that never changes -/
theorem nh_upd {HF : Hp} {p : Addr} {o : HO} (h : ∀ a ps, HF a ≠ some (.tbl ps)) (ho : ∀ ps, o ≠ .tbl ps) : ∀ a ps, upd HF p o a ≠ some (.tbl ps) := fun a ps e => by
  by_cases z : a = p
  · rw [z, upd_same] at e
    exact ho ps (Option.some.inj e)
  · rw [upd_ne z] at e
    exact h a ps e
theorem SR.newF {p : Addr} {o : HO} (sr : SR K L S M H) (hp : H p = none) (ho : ∀ ps, o ≠ .tbl ps := by intro _ z; cases z) : SR K L ⟨upd S.HF p o, S.φ⟩ M (upd H p o) ∧ Step S H ⟨upd S.HF p o, S.φ⟩ (upd H p o) := by
  have np : p ∉ S.φ := fun z => by
    obtain ⟨o', e⟩ := sr.al p z
    rw [hp] at e
    cases e
  have hfp : S.HF p = none := by
    cases e : S.HF p with
    | none => rfl
    | some o' => rw [sr.sub p o' e] at hp; cases hp
  have le : Le S ⟨upd S.HF p o, S.φ⟩ := ⟨fun a o' h => by
    show upd S.HF p o a = some o'
    rw [upd_ne (ne_of_none h hfp)]
    exact h, [], by simp⟩
  have ne : ∀ a ∈ S.φ, a ≠ p := fun a ha z => np (z ▸ ha)
  refine ⟨⟨fun a o' h => ?_, sr.len, sr.nd, fun a ha => ?_, fun n o' a h1 h2 => ?_, fun n o' a h1 h2 h3 => ?_, tabs_new hp sr.tb, fun a ha u e => sr.nt a ha u (by rw [upd_ne (ne a ha)] at e; exact e), nh_upd sr.nh ho⟩, le, fun b o' h n _ => ⟨?_, n⟩, fun b o' h _ _ u => by show upd S.HF p o b = none; rw [upd_ne (ne_of_none h hp)]; exact u⟩
  · have h : upd S.HF p o a = some o' := h
    by_cases e : a = p
    · subst e
      rw [upd_same] at h ⊢
      exact h
    · rw [upd_ne e] at h ⊢
      exact sr.sub a o' h
  · obtain ⟨o', e⟩ := sr.al a ha
    exact ⟨o', by rw [upd_ne (ne a ha)]; exact e⟩
  · have ha : a ∈ S.φ := List.mem_of_getElem? h2
    rw [upd_ne (ne a ha)]
    have q := sr.rp n o' a h1 h2
    cases o' with
    | dead => exact q
    | lst xs =>
      obtain ⟨vs, e, r⟩ := q
      exact ⟨vs, e, Reps.mono le _ _ r⟩
    | dct _ _ => exact q
    | ins c fs xs =>
      obtain ⟨dx, vs, e, r, z⟩ := q
      exact ⟨dx, vs, e, Reps.mono le _ _ r, z⟩
  · have ha : a ∈ S.φ := List.mem_of_getElem? h2
    show upd S.HF p o a = none
    rw [upd_ne (ne a ha)]
    exact sr.fr n o' a h1 h2 h3
  · rw [upd_ne (ne_of_none h hp)]
    exact h
theorem MRep.mono {o : MO} {h : Option HO} (le : Le S S') (q : MRep K L S o h) : MRep K L S' o h := by
  cases o with
  | dead => exact q
  | lst xs =>
    obtain ⟨vs, e, r⟩ := q
    exact ⟨vs, e, Reps.mono le _ _ r⟩
  | dct _ _ => exact q
  | ins c fs xs =>
    obtain ⟨dx, vs, e, r, z⟩ := q
    exact ⟨dx, vs, e, Reps.mono le _ _ r, z⟩
/-- a new live thing -/
theorem SR.newL {p : Addr} {ho : HO} {o : MO} (sr : SR K L S M H) (hp : H p = none) (q : MRep K L ⟨S.HF, S.φ ++ [p]⟩ o (some ho)) (hlv : live o = true := by rfl) :
    SR K L ⟨S.HF, S.φ ++ [p]⟩ (M ++ [o]) (upd H p ho) ∧ Step S H ⟨S.HF, S.φ ++ [p]⟩ (upd H p ho) := by
  have np : p ∉ S.φ := fun z => by
    obtain ⟨o', e⟩ := sr.al p z
    rw [hp] at e
    cases e
  have hfp : S.HF p = none := by
    cases e : S.HF p with
    | none => rfl
    | some o' => rw [sr.sub p o' e] at hp; cases hp
  have le : Le S ⟨S.HF, S.φ ++ [p]⟩ := ⟨fun a o' h => h, [p], rfl⟩
  have ne : ∀ a ∈ S.φ, a ≠ p := fun a ha z => np (z ▸ ha)
  have hlen := sr.len
  have at_ : ∀ (n : Nat) (o' : MO) (a : Addr), (M ++ [o])[n]? = some o' → (S.φ ++ [p])[n]? = some a → (M[n]? = some o' ∧ S.φ[n]? = some a) ∨ (o' = o ∧ a = p) := fun n o' a h1 h2 => by
    by_cases hn : n < M.length
    · rw [List.getElem?_append_left hn] at h1
      rw [List.getElem?_append_left (by omega)] at h2
      exact .inl ⟨h1, h2⟩
    · have hn' : n = M.length := by
        have := (List.getElem?_eq_some_iff.mp h1).1
        simp at this
        omega
      subst hn'
      simp at h1
      rw [← hlen] at h2
      simp at h2
      exact .inr ⟨h1.symm, h2.symm⟩
  refine ⟨⟨fun a o' h => ?_, by simp [hlen], ?_, fun a ha => ?_, fun n o' a h1 h2 => ?_, fun n o' a h1 h2 h3 => ?_, tabs_new hp sr.tb, fun a ha u e => ?_, sr.nh⟩, le, fun b o' h n _ => ⟨?_, ?_⟩, fun _ _ _ _ _ h => h⟩
  · rw [upd_ne (ne_of_none h hfp)]
    exact sr.sub a o' h
  · exact List.nodup_append.mpr ⟨sr.nd, by simp, fun a ha b hb => by
      have : b = p := by simpa using hb
      rw [this]
      exact ne a ha⟩
  · rcases List.mem_append.mp ha with ha | ha
    · obtain ⟨o', e⟩ := sr.al a ha
      exact ⟨o', by rw [upd_ne (ne a ha)]; exact e⟩
    · have : a = p := by simpa using ha
      subst this
      exact ⟨ho, upd_same⟩
  · rcases at_ n o' a h1 h2 with ⟨h1, h2⟩ | ⟨rfl, rfl⟩
    · rw [upd_ne (ne a (List.mem_of_getElem? h2))]
      exact (sr.rp n o' a h1 h2).mono le
    · rw [upd_same]
      exact q
  · rcases at_ n o' a h1 h2 with ⟨h1, h2⟩ | ⟨rfl, rfl⟩
    · exact sr.fr n o' a h1 h2 h3
    · exact hfp
  · rcases List.mem_append.mp ha with ha | ha
    · rw [upd_ne (ne a ha)] at e
      exact sr.nt a ha u e
    · have : a = p := by simpa using ha
      subst this
      rw [upd_same] at e
      cases e
      cases o with
      | dead => cases hlv
      | lst xs => obtain ⟨vs, z, _⟩ := q; cases z; exact ⟨(fun _ z => nomatch z), (fun _ z => nomatch z)⟩
      | dct _ _ => exact q.elim
      | ins c fs xs => obtain ⟨dx, vs, z, _⟩ := q; cases z; exact ⟨(fun _ z => nomatch z), (fun _ z => nomatch z)⟩
  · rw [upd_ne (ne_of_none h hp)]
    exact h
  · intro z
    rcases List.mem_append.mp z with z | z
    · exact n z
    · have : b = p := by simpa using z
      rw [this, hp] at h
      cases h
/-- a live thing written -/
theorem SR.write {n : Nat} {a : Addr} {o o' : MO} {ho : HO} (sr : SR K L S M H) (hm : M[n]? = some o) (ha : S.φ[n]? = some a) (hl : live o = true) (q : MRep K L S o' (some ho)) (hlv : live o' = true := by rfl) :
    SR K L S (M.set n o') (upd H a ho) ∧ Step S H S (upd H a ho) := by
  have hfa := sr.fr n o a hm ha hl
  have inj : ∀ (m : Nat) (b : Addr), S.φ[m]? = some b → m ≠ n → b ≠ a := fun m b hb hmn z => by
    subst z
    obtain ⟨h1, e1⟩ := List.getElem?_eq_some_iff.mp hb
    obtain ⟨h2, e2⟩ := List.getElem?_eq_some_iff.mp ha
    exact hmn ((List.getElem_inj sr.nd).mp (e1.trans e2.symm))
  refine ⟨⟨fun b u h => ?_, by rw [List.length_set]; exact sr.len, sr.nd, fun b hb => ?_, fun m u b h1 h2 => ?_, fun m u b h1 h2 h3 => ?_, ?_, fun b hb u e => ?_, sr.nh⟩, .refl S, fun b u h hb _ => ⟨?_, hb⟩, fun _ _ _ _ _ h => h⟩
  · rw [upd_ne (ne_of_none h hfa)]
    exact sr.sub b u h
  · by_cases e : b = a
    · subst e
      exact ⟨ho, upd_same⟩
    · rw [upd_ne e]
      exact sr.al b hb
  · by_cases e : m = n
    · subst e
      rw [ha] at h2
      cases h2
      rw [List.getElem?_set_self (List.getElem?_eq_some_iff.mp hm).1] at h1
      cases h1
      rw [upd_same]
      exact q
    · rw [List.getElem?_set_ne (Ne.symm e)] at h1
      rw [upd_ne (inj m b h2 e)]
      exact sr.rp m u b h1 h2
  · by_cases e : m = n
    · subst e
      rw [ha] at h2
      cases h2
      exact hfa
    · rw [List.getElem?_set_ne (Ne.symm e)] at h1
      exact sr.fr m u b h1 h2 h3
  · have q0 := sr.rp n o a hm ha
    cases o with
    | dead => cases hl
    | lst xs => obtain ⟨vs, e, _⟩ := q0; exact tabs_write e ⟨(fun _ z => nomatch z), (fun _ z => nomatch z)⟩ (fun _ z => nomatch z) sr.tb
    | dct _ _ => exact q0.elim
    | ins c fs xs => obtain ⟨dx, vs, e, _⟩ := q0; exact tabs_write e ⟨(fun _ z => nomatch z), (fun _ z => nomatch z)⟩ (fun _ z => nomatch z) sr.tb
  · by_cases e2 : b = a
    · subst e2
      rw [upd_same] at e
      cases e
      cases o' with
      | dead => cases hlv
      | lst xs => obtain ⟨vs, z, _⟩ := q; cases z; exact ⟨(fun _ z => nomatch z), (fun _ z => nomatch z)⟩
      | dct _ _ => exact q.elim
      | ins c fs xs => obtain ⟨dx, vs, z, _⟩ := q; cases z; exact ⟨(fun _ z => nomatch z), (fun _ z => nomatch z)⟩
    · rw [upd_ne e2] at e
      exact sr.nt b hb u e
  · rw [upd_ne (fun z : b = a => hb (by rw [z]; exact List.mem_of_getElem? ha))]
    exact h
/-- a live thing frozen as it stands -/
theorem SR.freeze {n : Nat} {a : Addr} {o : MO} {ho : HO} (sr : SR K L S M H) (hm : M[n]? = some o) (ha : S.φ[n]? = some a) (hl : live o = true) (e : H a = some ho) :
    SR K L ⟨upd S.HF a ho, S.φ⟩ (M.set n .dead) H ∧ Step S H ⟨upd S.HF a ho, S.φ⟩ H := by
  have hfa := sr.fr n o a hm ha hl
  have le : Le S ⟨upd S.HF a ho, S.φ⟩ := ⟨fun b u h => by
    show upd S.HF a ho b = some u
    rw [upd_ne (ne_of_none h hfa)]
    exact h, [], by simp⟩
  have inj : ∀ (m : Nat) (b : Addr), S.φ[m]? = some b → m ≠ n → b ≠ a := fun m b hb hmn z => by
    subst z
    obtain ⟨h1, e1⟩ := List.getElem?_eq_some_iff.mp hb
    obtain ⟨h2, e2⟩ := List.getElem?_eq_some_iff.mp ha
    exact hmn ((List.getElem_inj sr.nd).mp (e1.trans e2.symm))
  refine ⟨⟨fun b u h => ?_, by rw [List.length_set]; exact sr.len, sr.nd, sr.al, fun m u b h1 h2 => ?_, fun m u b h1 h2 h3 => ?_, sr.tb, sr.nt, nh_upd sr.nh (sr.nt a (List.mem_of_getElem? ha) ho e).1⟩, le, fun b u h hb _ => ⟨h, hb⟩, fun b u h hb _ z => by show upd S.HF a ho b = none; rw [upd_ne (fun w : b = a => hb (by rw [w]; exact List.mem_of_getElem? ha))]; exact z⟩
  · have h : upd S.HF a ho b = some u := h
    by_cases z : b = a
    · subst z
      rw [upd_same] at h
      cases h
      exact e
    · rw [upd_ne z] at h
      exact sr.sub b u h
  · by_cases z : m = n
    · subst z
      rw [List.getElem?_set_self (List.getElem?_eq_some_iff.mp hm).1] at h1
      cases h1
      trivial
    · rw [List.getElem?_set_ne (Ne.symm z)] at h1
      exact (sr.rp m u b h1 h2).mono le
  · by_cases z : m = n
    · subst z
      rw [List.getElem?_set_self (List.getElem?_eq_some_iff.mp hm).1] at h1
      cases h1
      cases h3
    · rw [List.getElem?_set_ne (Ne.symm z)] at h1
      show upd S.HF a ho b = none
      rw [upd_ne (inj m b h2 z)]
      exact sr.fr m u b h1 h2 h3
/-! ### what is forgotten behind a call -/
mutual
theorem Rep.cut {φ l : List Addr} {HF : Hp} : ∀ (d : D) (v : V), closed φ.length d = true → Rep K L ⟨HF, φ ++ l⟩ d v → Rep K L ⟨HF, φ⟩ d v
  | .non, _, _, h => by simpa [Rep] using h
  | .bl _, _, _, h => by simpa [Rep] using h
  | .int _, _, _, h => by simpa [Rep] using h
  | .str _, _, _, h => by simpa [Rep] using h
  | .tup xs, v, c, h => by
    rw [Rep] at h ⊢
    obtain ⟨a, vs, e, q, r⟩ := h
    exact ⟨a, vs, e, q, Reps.cut xs vs (by simpa [closed] using c) r⟩
  | .lst xs, v, c, h => by
    rw [Rep] at h ⊢
    obtain ⟨a, vs, e, q, r⟩ := h
    exact ⟨a, vs, e, q, Reps.cut xs vs (by simpa [closed] using c) r⟩
  | .dct _ _, _, _, h => by rw [Rep] at h ⊢; exact h
  | .ins c fs xs, v, k, h => by
    rw [Rep] at h ⊢
    obtain ⟨a, dx, vs, e, q, r, z⟩ := h
    exact ⟨a, dx, vs, e, q, Reps.cut xs vs (by simpa [closed] using k) r, z⟩
  | .fn _, _, _, h => by simpa [Rep] using h
  | .ref n, v, c, h => by
    rw [Rep] at h ⊢
    obtain ⟨a, q, e⟩ := h
    have hn : n < φ.length := by simpa [closed] using c
    refine ⟨a, ?_, e⟩
    rw [List.getElem?_append_left hn] at q
    exact q
  | .tupk xs, v, c, h => by
    rw [Rep] at h ⊢
    obtain ⟨a, vs, e, q, r⟩ := h
    exact ⟨a, vs, e, q, Reps.cut xs vs (by simpa [closed] using c) r⟩
  | .exn k as, v, c, h => by
    rw [Rep] at h ⊢
    obtain ⟨a, dd, vs, e, e2, q, r⟩ := h
    exact ⟨a, dd, vs, e, e2, q, Reps.cut as vs (by simpa [closed] using c) r⟩
theorem Reps.cut {φ l : List Addr} {HF : Hp} : ∀ (ds : List D) (vs : List V), closedL φ.length ds = true → Reps K L ⟨HF, φ ++ l⟩ ds vs → Reps K L ⟨HF, φ⟩ ds vs
  | [], _, _, h => by simpa [Reps] using h
  | d :: ds, vs, c, h => by
    simp only [closedL, Bool.and_eq_true] at c
    obtain ⟨v, vr, rfl, r, t⟩ := h.cons_inv
    exact .cons (Rep.cut d v c.1 r) (Reps.cut ds vr c.2 t)
end
mutual
/-- data that were told ahead are told by the old names -/
theorem Rep.back {S : RS} {HF' : Hp} {l : List Addr} (hf : ∀ a o, S.HF a = some o → HF' a = some o) : ∀ (d : D) (v w : V), Rep K L S d v → Rep K L ⟨HF', S.φ ++ l⟩ d w → Rep K L ⟨HF', S.φ⟩ d w
  | .non, _, _, _, h => by simpa [Rep] using h
  | .bl _, _, _, _, h => by simpa [Rep] using h
  | .int _, _, _, _, h => by simpa [Rep] using h
  | .str _, _, _, _, h => by simpa [Rep] using h
  | .tup xs, v, w, g, h => by
    rw [Rep] at g h ⊢
    obtain ⟨a, vs, e, q, r⟩ := h
    obtain ⟨a0, vs0, e0, q0, r0⟩ := g
    exact ⟨a, vs, e, q, Reps.back hf xs _ vs r0 r⟩
  | .lst xs, v, w, g, h => by
    rw [Rep] at g h ⊢
    obtain ⟨a, vs, e, q, r⟩ := h
    obtain ⟨a0, vs0, e0, q0, r0⟩ := g
    exact ⟨a, vs, e, q, Reps.back hf xs _ vs r0 r⟩
  | .dct _ _, _, _, _, h => by rw [Rep] at h ⊢; exact h
  | .ins c fs xs, v, w, g, h => by
    rw [Rep] at g h ⊢
    obtain ⟨a, dx, vs, e, q, r, z⟩ := h
    obtain ⟨a0, dx0, vs0, e0, q0, r0, z0⟩ := g
    exact ⟨a, dx, vs, e, q, Reps.back hf xs _ vs r0 r, z⟩
  | .fn _, _, _, _, h => by simpa [Rep] using h
  | .ref n, v, w, g, h => by
    rw [Rep] at g h ⊢
    obtain ⟨a, q, e⟩ := h
    obtain ⟨a0, q0, e0⟩ := g
    have hn : n < S.φ.length := (List.getElem?_eq_some_iff.mp q0).1
    rw [List.getElem?_append_left hn] at q
    exact ⟨a, q, e⟩
  | .tupk xs, v, w, g, h => by
    rw [Rep] at g h ⊢
    obtain ⟨a, vs, e, q, r⟩ := h
    obtain ⟨a0, vs0, e0, q0, r0⟩ := g
    exact ⟨a, vs, e, q, Reps.back hf xs _ vs r0 r⟩
  | .exn k as, v, w, g, h => by
    rw [Rep] at g h ⊢
    obtain ⟨a, dd, vs, e, e2, q, r⟩ := h
    obtain ⟨a0, dd0, vs0, e0, e20, q0, r0⟩ := g
    exact ⟨a, dd, vs, e, e2, q, Reps.back hf as _ vs r0 r⟩
theorem Reps.back {S : RS} {HF' : Hp} {l : List Addr} (hf : ∀ a o, S.HF a = some o → HF' a = some o) : ∀ (ds : List D) (vs ws : List V), Reps K L S ds vs → Reps K L ⟨HF', S.φ ++ l⟩ ds ws → Reps K L ⟨HF', S.φ⟩ ds ws
  | [], _, _, _, h => by simpa [Reps] using h
  | d :: ds, vs, ws, g, h => by
    obtain ⟨v, vr, rfl, r, t⟩ := g.cons_inv
    obtain ⟨w, wr, rfl, r', t'⟩ := h.cons_inv
    exact .cons (Rep.back hf d v w r r') (Reps.back hf ds vr wr t t')
end
theorem MRep.cut {φ l : List Addr} {HF : Hp} {o : MO} {h : Option HO} (c : closedO φ.length o = true) (q : MRep K L ⟨HF, φ ++ l⟩ o h) : MRep K L ⟨HF, φ⟩ o h := by
  cases o with
  | dead => exact q
  | lst xs =>
    obtain ⟨vs, e, r⟩ := q
    exact ⟨vs, e, Reps.cut _ _ c r⟩
  | dct _ _ => exact q
  | ins _ _ xs =>
    obtain ⟨dx, vs, e, r, z⟩ := q
    exact ⟨dx, vs, e, Reps.cut _ _ c r, z⟩
theorem SR.cut {S' : RS} {M' : Mem} {H' : Hp} {ds : List D} (sr : SR K L S M H) (st : Step S H S' H') (sr' : SR K L S' M' H') (c : Shrinks M ds M') :
    SR K L ⟨S'.HF, S.φ⟩ (M'.take M.length) H' ∧ Step S H ⟨S'.HF, S.φ⟩ H' ∧ ∀ vs, Reps K L S' ds vs → Reps K L ⟨S'.HF, S.φ⟩ ds vs := by
  obtain ⟨HF', φ'⟩ := S'
  obtain ⟨l, e⟩ := st.le.ph
  have e : φ' = S.φ ++ l := e
  subst e
  have hl := sr.len
  have hl' : (S.φ ++ l).length = M'.length := sr'.len
  have le : Le S ⟨HF', S.φ⟩ := ⟨st.le.hf, [], by simp⟩
  refine ⟨⟨sr'.sub, ?_, sr.nd, fun a ha => ?_, fun n o a h1 h2 => ?_, fun n o a h1 h2 h3 => ?_, sr'.tb, fun a ha => sr'.nt a (List.mem_append_left _ ha), sr'.nh⟩, ⟨le, fun b o h n w => ?_, st.un⟩, fun vs r => Reps.cut ds vs (by rw [hl]; exact c.1) r⟩
  · show S.φ.length = (M'.take M.length).length
    rw [List.length_take]
    rw [List.length_append] at hl'
    omega
  · exact sr'.al a (List.mem_append_left _ ha)
  · have hn : n < S.φ.length := (List.getElem?_eq_some_iff.mp h2).1
    rw [List.getElem?_take_of_lt (by omega)] at h1
    have h2' : (S.φ ++ l)[n]? = some a := by rw [List.getElem?_append_left hn]; exact h2
    have q := sr'.rp n o a h1 h2'
    rcases c.2 n o (by omega) h1 with h | h
    · cases o with
      | dead => exact q
      | dct _ _ => exact q
      | lst xs =>
        obtain ⟨vs, e1, r⟩ := q
        have q0 := sr.rp n _ a h h2
        obtain ⟨vs0, e0, r0⟩ := q0
        exact ⟨vs, e1, Reps.back st.le.hf _ _ _ r0 r⟩
      | ins k fs xs =>
        obtain ⟨dx, vs, e1, r, z⟩ := q
        obtain ⟨dx0, vs0, e0, r0, z0⟩ := sr.rp n _ a h h2
        exact ⟨dx, vs, e1, Reps.back st.le.hf _ _ _ r0 r, z⟩
    · exact q.cut (by rw [hl]; exact h)
  · have hn : n < S.φ.length := (List.getElem?_eq_some_iff.mp h2).1
    rw [List.getElem?_take_of_lt (by omega)] at h1
    exact sr'.fr n o a h1 (by show (S.φ ++ l)[n]? = some a; rw [List.getElem?_append_left hn]; exact h2) h3
  · obtain ⟨h1, h2⟩ := st.keep b o h n w
    exact ⟨h1, n⟩
end
end GW

set_option Elab.async false
set_option linter.all false
set_option autoImplicit false
set_option maxRecDepth 100000
set_option maxHeartbeats 4000000
/-! The operators, by values. -/
namespace GW
open PySem PySem.Spec PyProof.Rows L2
section
variable {X : Cx} {L : Link}
theorem sl_eq : sizeLine = LINE := sizeLine_eq
/-- what an operation on two values asks -/
def rV (K : PySem.W.Frag) (L : Link) (f : D → D → Option D) : R2 := fun x y H Q => ∃ S M dx dy d, SR K L S M H ∧ Top K L S H dx x ∧ Top K L S H dy y ∧ f dx dy = some d ∧
  ∀ v S' H', Step S H S' H' → SR K L S' M H' → Rep K L S' d v → Q v H'
theorem fin_pure {K : PySem.W.Frag} {S : RS} {M : Mem} {H : Hp} {d : D} {Q : VK} {v : V} (sr : SR K L S M H) (q : ∀ v S' H', Step S H S' H' → SR K L S' M H' → Rep K L S' d v → Q v H') (r : Rep K L S d v) : Q v H :=
  q v S H (.refl S H) sr r
theorem fin_new {K : PySem.W.Frag} {S : RS} {M : Mem} {H : Hp} {d : D} {Q : VK} {p : Addr} {o : HO} (sr : SR K L S M H) (q : ∀ v S' H', Step S H S' H' → SR K L S' M H' → Rep K L S' d v → Q v H') (hp : H p = none)
    (r : ∀ S' : RS, Le S S' → S'.HF p = some o → Rep K L S' d (.ref p)) (ho : ∀ ps, o ≠ .tbl ps := by intro _ z; cases z) : Q (.ref p) (upd H p o) := by
  obtain ⟨sr', st⟩ := sr.newF (o := o) hp ho
  exact q _ _ _ st sr' (r _ st.le upd_same)
theorem rep_int {K : PySem.W.Frag} {S : RS} {i : Int} : Rep K L S (.int i) (.int i) := by rw [Rep]
theorem rep_bl {K : PySem.W.Frag} {S : RS} {i : Bool} : Rep K L S (.bl i) (.bl i) := by rw [Rep]
theorem rep_non {K : PySem.W.Frag} {S : RS} : Rep K L S .non .non := by rw [Rep]
theorem rep_str {K : PySem.W.Frag} {S : RS} {s : Str} (h : s.length ≤ sizeLine) : Rep K L S (.str s) (.str s) := by rw [Rep]; exact ⟨rfl, h⟩
theorem rep_tup {K : PySem.W.Frag} {S S' : RS} {p : Addr} {xs : List D} {vs : List V} (le : Le S S') (h : S'.HF p = some (.tup vs)) (r : Reps K L S xs vs) : Rep K L S' (.tup xs) (.ref p) := by
  rw [Rep]; exact ⟨p, vs, rfl, .inl (.inl h), r.mono le⟩
theorem rep_lst {K : PySem.W.Frag} {S S' : RS} {p : Addr} {xs : List D} {vs : List V} (le : Le S S') (h : S'.HF p = some (.lst vs)) (r : Reps K L S xs vs) : Rep K L S' (.lst xs) (.ref p) := by
  rw [Rep]; exact ⟨p, vs, rfl, .inl h, r.mono le⟩
theorem top_int {K : PySem.W.Frag} {S : RS} {H : Hp} {i : Int} {v : V} (h : Top K L S H (.int i) v) : v = .int i := by
  have q : Rep K L S (.int i) v := h
  rwa [Rep] at q
theorem top_bl {K : PySem.W.Frag} {S : RS} {H : Hp} {i : Bool} {v : V} (h : Top K L S H (.bl i) v) : v = .bl i := by
  have q : Rep K L S (.bl i) v := h
  rwa [Rep] at q
theorem top_non {K : PySem.W.Frag} {S : RS} {H : Hp} {v : V} (h : Top K L S H .non v) : v = .non := by
  have q : Rep K L S .non v := h
  rwa [Rep] at q
theorem top_str {K : PySem.W.Frag} {S : RS} {H : Hp} {s : Str} {v : V} (h : Top K L S H (.str s) v) : v = .str s ∧ s.length ≤ sizeLine := by
  have q : Rep K L S (.str s) v := h
  rwa [Rep] at q
theorem top_tup {K : PySem.W.Frag} {S : RS} {M : Mem} {H : Hp} {xs : List D} {v : V} (sr : SR K L S M H) (h : Top K L S H (.tup xs) v) : ∃ a vs, v = .ref a ∧ SqT K S.HF a vs ∧ SqT K H a vs ∧ Reps K L S xs vs := by
  have q : Rep K L S (.tup xs) v := h
  rw [Rep] at q
  obtain ⟨a, vs, e, q, r⟩ := q
  exact ⟨a, vs, e, q, sqT_mono sr.sub q, r⟩
theorem Inv.rdL {pins : List (Addr × Obj)} {s : Shared} {σ : L2.St} {H : Hp} {l : Addr} {xs : List V} (I : Inv X pins σ H s) (hH : Rd H l (.lst xs)) : xs.length ≤ sizeLine ∧ ∃ (its : List Value) (n : Nat), Vals xs its ∧ xs.length = its.length ∧ s.heap.get? l = some { cls := .type "list", data := .seq its.toArray n } := by
  obtain ⟨z, its, n, r, e⟩ := hH.ok I.hok
  exact ⟨z, its, n, r, r.length, e⟩
/-- list + list, both read -/
theorem op_catR : OpR X (binaryOp .Add) (fun x y H Q => ∃ l b xs zs, x = .ref l ∧ y = .ref b ∧ Rd H l (.lst xs) ∧ Rd H b (.lst zs) ∧ xs.length + zs.length ≤ sizeLine ∧ ∀ p, H p = none → Q (.ref p) (upd H p (.lst (xs ++ zs)))) := by
  intro pins s σ H x y v u Q I rx ry h
  obtain ⟨l, b, xs, zs, rfl, rfl, hH, hB, hz, q⟩ := h
  cases rx
  cases ry
  obtain ⟨z, its, n, r, hl, e⟩ := Inv.rdL I hH
  obtain ⟨z2, its2, n2, r2, hl2, e2⟩ := Inv.rdL I hB
  refine PySem.P.add_list e e2 ?_ (by rw [List.size_toArray, List.size_toArray]; omega)
  have ea : its.toArray ++ its2.toArray = (its ++ its2).toArray := by simp
  rw [ea]
  exact ⟨.ref _, _, I.lnew (t' := s.toks) (r.append r2) (by rw [List.length_append]; omega), rfl, q _ I.fresh⟩
/-- a list that is read, times an int -/
theorem op_repR : OpR X (binaryOp .Mult) (fun x y H Q => ∃ l k xs, x = .ref l ∧ y = .int k ∧ Rd H l (.lst xs) ∧ -(2 ^ 63) ≤ k ∧ k < 2 ^ 63 ∧ xs.length * k.toNat ≤ sizeLine ∧
    ∀ p, H p = none → Q (.ref p) (upd H p (.lst (List.replicate k.toNat xs).flatten))) := by
  intro pins s σ H x y v u Q I rx ry h
  obtain ⟨l, k, xs, rfl, rfl, hH, h1, h2, hz, q⟩ := h
  cases rx
  obtain ⟨t, rfl⟩ := ry
  obtain ⟨z, its, n, r, hl, e⟩ := Inv.rdL I hH
  have hlen : its.toArray.size * k.toNat ≤ sizeLine := by rw [List.size_toArray, ← hl]; exact hz
  have hcap : ¬ its.toArray.size * k.toNat > (2 ^ 63 - 1) / 8 := by
    have : (sizeLine : Nat) ≤ (2 ^ 63 - 1) / 8 := by decide
    omega
  have hfit : ¬ (!Builtin.List.listFitsIndex k) = true := by
    rw [fitsIndex_both h1 h2]
    exact Bool.false_ne_true
  have hlong : ¬ Builtin.List.listTooLong (its.toArray.size * k.toNat) = true := by
    rw [notLongL hlen]
    exact Bool.false_ne_true
  have hnew : List.foldl (fun x1 x2 => x1 ++ x2) #[] (List.replicate (if its.toArray.isEmpty = true then 0 else k.toNat) its.toArray) = (List.replicate k.toNat its).flatten.toArray := by
    have f0 : ∀ m : Nat, List.foldl (fun x1 x2 => x1 ++ x2) #[] (List.replicate m its.toArray) = (List.replicate m its).flatten.toArray := fun m => by
      have := foldl_rep its m []
      rw [List.nil_append] at this
      exact this
    rw [f0]
    cases its with
    | nil => simp
    | cons a r' => rw [if_neg (by simp)]
  refine wpAny_binaryOp_repeat_ref (T := "list") (U := "int") (by decide) ⟨_, e, rfl⟩ (fun s' => typeIs_int s' k t) noFill_list_mul F.fills_int_mul F.slot_int_rmul repeat_list F.slot_int_index.lookup
    (call_meets F.slot_int_rmul (typeIs_int s k t) F.entry_int_rmul (F.args_int_rmul_2 _ _) (int___rmul___int_list k t l its.toArray n)
      ⟨e, rfl, ⟨_, e, rfl⟩, call_meets F.slot_list_mul ⟨_, e, rfl⟩ F.entry_list_mul (F.args_list_mul_2 _ _) (AutoListH.list___mul___list_int_3 l its.toArray n k t hfit hcap hlong) ⟨e, ?_⟩⟩)
  rw [hnew]
  exact ⟨.ref _, _, I.lnew (t' := s.toks) (r.rep k.toNat) (by rw [PyProof.Rows.lm_len_rep_flat, Nat.mul_comm]; exact hz), rfl, q _ I.fresh⟩

def opA : BOp → Operator
  | .add => .Add | .sub => .Sub | .mul => .Mult | .fdiv => .FloorDiv | .mod => .Mod | .pow => .Pow
theorem reps_ne {K : PySem.W.Frag} {S : RS} {xs : List D} {vs : List V} (r : Reps K L S xs vs) : vs = [] ↔ xs = [] := by
  have e := r.length
  constructor
  · intro h; rw [h] at e; exact List.eq_nil_of_length_eq_zero e.symm
  · intro h; rw [h] at e; exact List.eq_nil_of_length_eq_zero e
theorem opR_bin (o : BOp) : OpR X (binaryOp (opA o)) (rV X.K L (binD o)) := by
  intro pins s σ H x y v u Q I rx ry h
  obtain ⟨S, M, dx, dy, d, sr, tx, ty, e, q⟩ := h
  cases o with
  | add =>
    cases dx <;> cases dy <;> simp only [binD] at e <;> try (cases e; done)
    case int.int i j =>
      cases e
      obtain rfl := top_int tx
      obtain rfl := top_int ty
      exact op_add pins s σ H _ _ v u Q I rx ry ⟨i, j, rfl, rfl, fin_pure sr q rep_int⟩
    case bl.int i j =>
      cases e
      obtain rfl := top_bl tx
      obtain rfl := top_int ty
      cases rx
      obtain ⟨t, rfl⟩ := ry
      exact PySem.IntBool.add_bool_int ⟨.int _, H, I.tok _, ⟨_, rfl⟩, fin_pure sr q rep_int⟩
    case str.str i j =>
      obtain ⟨rfl, h1⟩ := top_str tx
      obtain ⟨rfl, h2⟩ := top_str ty
      split at e
      · rename_i hz
        cases e
        rw [← sl_eq] at hz
        exact op_add_str pins s σ H _ _ v u Q I rx ry ⟨i, j, rfl, rfl, hz, fin_pure sr q (rep_str (by show (i.cps ++ j.cps).size ≤ _; rw [Array.size_append]; exact hz))⟩
      · cases e
    case tup.tup xs ys =>
      obtain ⟨a, vs, rfl, h1, h1', r1⟩ := top_tup sr tx
      obtain ⟨b, ws, rfl, h2, h2', r2⟩ := top_tup sr ty
      split at e
      · rename_i hz
        cases e
        rw [← sl_eq, ← r1.length, ← r2.length] at hz
        refine op_catA pins s σ H _ _ v u Q I rx ry ⟨a, b, vs, ws, rfl, rfl, h1', h2', hz, fun h => ?_, fun _ h => ?_, fun _ _ p hp => ?_⟩
        · have : xs = [] := (reps_ne r1).mp h
          subst this
          exact fin_pure sr q ty
        · have : ys = [] := (reps_ne r2).mp h
          subst this
          refine fin_pure sr q ?_
          rw [List.append_nil]
          exact tx
        · exact fin_new sr q hp fun S' le h => rep_tup le h (r1.append r2)
      · cases e
    case lst.lst xs ys =>
      obtain ⟨a, vs, rfl, h1, r1⟩ := tx
      obtain ⟨b, ws, rfl, h2, r2⟩ := ty
      split at e
      · rename_i hz
        cases e
        rw [← sl_eq, ← r1.length, ← r2.length] at hz
        exact op_catR pins s σ H _ _ v u Q I rx ry ⟨a, b, vs, ws, rfl, rfl, h1, h2, hz, fun p hp => fin_new sr q hp fun S' le h => rep_lst le h (r1.append r2)⟩
      · cases e
  | sub =>
    cases dx <;> cases dy <;> simp only [binD] at e <;> try (cases e; done)
    case int.int i j =>
      cases e
      obtain rfl := top_int tx
      obtain rfl := top_int ty
      exact op_sub pins s σ H _ _ v u Q I rx ry ⟨i, j, rfl, rfl, fin_pure sr q rep_int⟩
    case bl.int i j =>
      cases e
      obtain rfl := top_bl tx
      obtain rfl := top_int ty
      cases rx
      obtain ⟨t, rfl⟩ := ry
      exact PySem.IntBool.sub_bool_int ⟨.int _, H, I.tok _, ⟨_, rfl⟩, fin_pure sr q rep_int⟩
  | mul =>
    cases dx <;> cases dy <;> simp only [binD] at e <;> try (cases e; done)
    case int.int i j =>
      split at e
      · rename_i hz
        cases e
        obtain rfl := top_int tx
        obtain rfl := top_int ty
        refine op_mul pins s σ H _ _ v u Q I rx ry ⟨i, j, rfl, rfl, ?_, fin_pure sr q rep_int⟩
        simp only [small, Bool.or_eq_true, Bool.and_eq_true, decide_eq_true_eq] at hz
        exact hz
      · cases e
    case tup.int xs k =>
      obtain ⟨a, vs, rfl, h1, h1', r1⟩ := top_tup sr tx
      obtain rfl := top_int ty
      split at e
      · rename_i hz
        cases e
        obtain ⟨z1, z2, z3, z4⟩ := hz
        refine op_repT pins s σ H _ _ v u Q I rx ry ⟨a, k, vs, rfl, rfl, h1', fun h => z1 ((reps_ne r1).mp h), z2, z3, by rw [r1.length]; exact z4, fun p hp => ?_⟩
        exact fin_new sr q hp fun S' le h => rep_tup le h (r1.rep _)
      · cases e
    case lst.int xs k =>
      obtain ⟨a, vs, rfl, h1, r1⟩ := tx
      obtain rfl := top_int ty
      split at e
      · rename_i hz
        cases e
        obtain ⟨z1, z2, z3⟩ := hz
        refine op_repR pins s σ H _ _ v u Q I rx ry ⟨a, k, vs, rfl, rfl, h1, by omega, by omega, ?_, fun p hp => ?_⟩
        · rw [r1.length, sl_eq]
          have : xs.length * k.toNat ≤ 1000 * 1000 := Nat.mul_le_mul z3 (by omega)
          show _ ≤ 16777216
          omega
        · exact fin_new sr q hp fun S' le h => rep_lst le h (r1.rep _)
      · cases e
  | fdiv =>
    cases dx <;> cases dy <;> simp only [binD] at e <;> try (cases e; done)
    case int.int i j =>
      split at e
      · rename_i hz
        cases e
        obtain rfl := top_int tx
        obtain rfl := top_int ty
        exact op_fdiv pins s σ H _ _ v u Q I rx ry ⟨i, j, rfl, rfl, hz, fin_pure sr q rep_int⟩
      · cases e
  | mod =>
    cases dx <;> cases dy <;> simp only [binD] at e <;> try (cases e; done)
    case int.int i j =>
      split at e
      · rename_i hz
        cases e
        obtain rfl := top_int tx
        obtain rfl := top_int ty
        exact op_mod pins s σ H _ _ v u Q I rx ry ⟨i, j, rfl, rfl, hz, fin_pure sr q rep_int⟩
      · cases e
  | pow =>
    cases dx <;> cases dy <;> simp only [binD] at e <;> try (cases e; done)
    case int.int i j =>
      split at e
      · rename_i hz
        cases e
        obtain rfl := top_int tx
        obtain rfl := top_int ty
        exact op_pow pins s σ H _ _ v u Q I rx ry ⟨i, j, rfl, rfl, ⟨hz.1, by omega, hz.2.2⟩, fin_pure sr q rep_int⟩
      · cases e
def opC : COp → CmpOp
  | .eq => .Eq | .ne => .NotEq | .lt => .Lt | .le => .LtE | .gt => .Gt | .ge => .GtE | .is => .Is | .isnot => .IsNot | .isin => .In | .notin => .NotIn
theorem op_inL (hu : X.A.units + 65 < cLine) {x : V} {H : Hp} {a : Addr} {d : PyData} {ds : List PyData} {vs : List V} {Q : VK} {pins : List (Addr × Obj)} {s : Shared} {σ : L2.St} {v : Value} (I : Inv X pins σ H s) (rx : RelV x v)
    (hd : Dp X.K H x d) (he : DpAll X.K H vs ds) (hs : SqL X.K H a vs ∨ SqT X.K H a vs) (sd : SeqAt.shaped d = true) (se : SeqAt.shaped (.list ds) = true) (neg : Bool)
    (q : Q (.bl (if neg then !(ds.any fun z => PyData.eqv z d) else (ds.any fun z => PyData.eqv z d))) H) : wpAny (model X.prog X.w) X.A (compareOp (if neg then .NotIn else .In) v (.ref a)) (EP X pins σ Q) X.xe s := by
  obtain ⟨as, r1⟩ := Dp.reads I d x v hd rx
  rcases hs with hs | hs
  · obtain ⟨bs, r2⟩ := Dp.reads I (.list ds) (.ref a) (.ref a) (.lst hs he) rfl
    cases neg with
    | false => exact SeqAt.in_list_reads r2 r1 (SeqAt.canLay_of_shaped se) (SeqAt.canLay_of_shaped sd) (room_in_shaped sd hu) ⟨.bl _, H, I, rfl, q⟩
    | true => exact SeqAt.notIn_list_reads r2 r1 (SeqAt.canLay_of_shaped se) (SeqAt.canLay_of_shaped sd) (room_in_shaped sd hu) ⟨.bl _, H, I, rfl, q⟩
  · obtain ⟨bs, r2⟩ := Dp.reads I (.tuple ds) (.ref a) (.ref a) (.tup hs he) rfl
    cases neg with
    | false => exact SeqAt.in_tuple_reads r2 r1 (SeqAt.canLay_of_shaped se) (SeqAt.canLay_of_shaped sd) (room_in_shaped sd hu) ⟨.bl _, H, I, rfl, q⟩
    | true => exact SeqAt.notIn_tuple_reads r2 r1 (SeqAt.canLay_of_shaped se) (SeqAt.canLay_of_shaped sd) (room_in_shaped sd hu) ⟨.bl _, H, I, rfl, q⟩

theorem any_eqB {n m : Nat} {x : D} (hx : data n x = true) : ∀ {ys : List D}, dataL m ys = true → ((toPs ys).any fun z => PyData.eqv z (toP x)) = ys.any fun y => eqB y x
  | [], _ => rfl
  | y :: ys, h => by
    simp only [dataL, Bool.and_eq_true] at h
    rw [toPs, List.any_cons, List.any_cons, eqB_toP m n y x h.1 hx, any_eqB hx h.2]
theorem non_iff {K : PySem.W.Frag} {S : RS} {H : Hp} {d : D} {v : V} (h : Top K L S H d v) : decide (v = .non) = (match d with | .non => true | _ => false) := by
  cases d with
  | non => obtain rfl := top_non h; rfl
  | bl _ => obtain rfl := top_bl h; rfl
  | int _ => obtain rfl := top_int h; rfl
  | str _ => obtain ⟨rfl, _⟩ := top_str h; rfl
  | tup xs => have q : Rep K L S (.tup xs) v := h; rw [Rep] at q; obtain ⟨a, vs, rfl, _⟩ := q; rfl
  | lst _ => obtain ⟨a, vs, rfl, _⟩ := h; rfl
  | dct ks ws => have q : Rep K L S (.dct ks ws) v := h; rw [Rep] at q; obtain ⟨a, kvs, rfl, _⟩ := q; rfl
  | ins _ _ _ => obtain ⟨a, dx, vs, rfl, _⟩ := h; rfl
  | fn f => have q : Rep K L S (.fn f) v := h; rw [Rep] at q; subst q; rfl
  | tupk xs => have q : Rep K L S (.tupk xs) v := h; rw [Rep] at q; obtain ⟨a, vs, rfl, _⟩ := q; rfl
  | ref n => have q : Rep K L S (.ref n) v := h; rw [Rep] at q; obtain ⟨a, _, rfl⟩ := q; rfl
  | exn c as => have q : Rep K L S (.exn c as) v := h; rw [Rep] at q; obtain ⟨a, _, _, _, rfl, _⟩ := q; rfl
theorem eqR (hu : X.A.units + 65 < cLine) (neg : Bool) : OpR X (compareOp (if neg then .NotEq else .Eq)) (rV X.K L fun x y => (eqD x y).map fun b => .bl (if neg then !b else b)) := by
  intro pins s σ H x y v u Q I rx ry h
  obtain ⟨S, M, dx, dy, d, sr, tx, ty, e, q⟩ := h
  dsimp only at e
  unfold eqD at e
  by_cases hz : (data 60 dx && data 60 dy) = true
  · rw [if_pos hz] at e
    simp only [Bool.and_eq_true] at hz
    cases e
    have h1 := tx.dp sr hz.1
    have h2 := ty.dp sr hz.2
    cases neg with
    | false => exact op_eqD (by omega) pins s σ H _ _ v u Q I rx ry ⟨_, _, h1, h2, shaped_toP (by decide) hz.1, shaped_toP (by decide) hz.2, by rw [eqB_toP _ _ _ _ hz.1 hz.2]; exact fin_pure sr q rep_bl⟩
    | true => exact op_neD (by omega) pins s σ H _ _ v u Q I rx ry ⟨_, _, h1, h2, shaped_toP (by decide) hz.1, shaped_toP (by decide) hz.2, by rw [eqB_toP _ _ _ _ hz.1 hz.2]; exact fin_pure sr q rep_bl⟩
  · rw [if_neg hz] at e
    cases e
theorem inR (hu : X.A.units + 65 < cLine) (neg : Bool) : OpR X (compareOp (if neg then .NotIn else .In)) (rV X.K L fun x y => (match y with | .tup ys => inL x ys | .lst ys => inL x ys | _ => none).map fun b => .bl (if neg then !b else b)) := by
  intro pins s σ H x y v u Q I rx ry h
  obtain ⟨S, M, dx, dy, d, sr, tx, ty, e, q⟩ := h
  have key : ∀ ys, inL dx ys = none ∨ ∃ b, inL dx ys = some b ∧ data 50 dx = true ∧ dataL 50 ys = true ∧ b = ys.any fun y => eqB y dx := fun ys => by
    unfold inL
    split
    · rename_i hz
      simp only [Bool.and_eq_true] at hz
      exact .inr ⟨_, rfl, hz.1, hz.2, rfl⟩
    · exact .inl rfl
  have sl : ∀ ys, dataL 50 ys = true → SeqAt.shaped (.list (toPs ys)) = true := fun ys hy => by
    have := shaped_toP (n := 51) (x := .lst ys) (by decide) (by simpa [data] using hy)
    simpa [toP] using this
  cases dy with
  | tup ys =>
    obtain ⟨a, vs, rfl, _, h2, r⟩ := top_tup sr ty
    cases ry
    rcases key ys with k | ⟨b, k, k1, k2, k3⟩
    · simp only [k] at e
      cases e
    · simp only [k] at e
      cases e
      refine op_inL hu I rx (tx.dp sr k1) (Reps.dp sr 50 ys vs k2 r) (.inr h2) (shaped_toP (by decide) k1) (sl ys k2) neg ?_
      rw [any_eqB k1 k2, ← k3]
      exact fin_pure sr q rep_bl
  | lst ys =>
    obtain ⟨a, vs, rfl, h2, r⟩ := ty
    cases ry
    rcases key ys with k | ⟨b, k, k1, k2, k3⟩
    · simp only [k] at e
      cases e
    · simp only [k] at e
      cases e
      refine op_inL hu I rx (tx.dp sr k1) (Reps.dp sr 50 ys vs k2 r) (.inl (.inl h2)) (shaped_toP (by decide) k1) (sl ys k2) neg ?_
      rw [any_eqB k1 k2, ← k3]
      exact fin_pure sr q rep_bl
  | _ => cases e
theorem rV.imp {K : PySem.W.Frag} {f g : D → D → Option D} (h : ∀ x y d, g x y = some d → f x y = some d) : ∀ x y H Q, rV K L g x y H Q → rV K L f x y H Q := fun x y H Q ⟨S, M, dx, dy, d, sr, tx, ty, e, q⟩ => ⟨S, M, dx, dy, d, sr, tx, ty, h _ _ _ e, q⟩
theorem OpR.imp {f : Value → Value → Sem Value} {r r' : R2} (o : OpR X f r) (h : ∀ x y H Q, r' x y H Q → r x y H Q) : OpR X f r' := fun pins s σ H x y v u Q I rx ry q => o pins s σ H x y v u Q I rx ry (h _ _ _ _ q)
theorem opR_cmp (hu : X.A.units + 65 < cLine) (o : COp) : OpR X (compareOp (opC o)) (rV X.K L fun x y => (cmpD o x y).map .bl) := by
  cases o with
  | eq => exact OpR.imp (eqR hu false) (rV.imp fun x y d h => by simpa [cmpD] using h)
  | ne => exact OpR.imp (eqR hu true) (rV.imp fun x y d h => by simpa [cmpD, Option.map_map, Function.comp_def] using h)
  | isin => exact OpR.imp (inR hu false) (rV.imp fun x y d h => by cases y <;> simpa [cmpD] using h)
  | notin => exact OpR.imp (inR hu true) (rV.imp fun x y d h => by cases y <;> simpa [cmpD, Option.map_map, Function.comp_def] using h)
  | lt =>
    intro pins s σ H x y v u Q I rx ry h
    obtain ⟨S, M, dx, dy, d, sr, tx, ty, e, q⟩ := h
    cases dx <;> cases dy <;> simp only [cmpD] at e <;> try (cases e; done)
    cases e
    obtain rfl := top_int tx
    obtain rfl := top_int ty
    exact op_lt pins s σ H _ _ v u Q I rx ry ⟨_, _, rfl, rfl, fin_pure sr q rep_bl⟩
  | le =>
    intro pins s σ H x y v u Q I rx ry h
    obtain ⟨S, M, dx, dy, d, sr, tx, ty, e, q⟩ := h
    cases dx <;> cases dy <;> simp only [cmpD] at e <;> try (cases e; done)
    cases e
    obtain rfl := top_int tx
    obtain rfl := top_int ty
    exact op_le pins s σ H _ _ v u Q I rx ry ⟨_, _, rfl, rfl, fin_pure sr q rep_bl⟩
  | gt =>
    intro pins s σ H x y v u Q I rx ry h
    obtain ⟨S, M, dx, dy, d, sr, tx, ty, e, q⟩ := h
    cases dx <;> cases dy <;> simp only [cmpD] at e <;> try (cases e; done)
    cases e
    obtain rfl := top_int tx
    obtain rfl := top_int ty
    exact op_gt pins s σ H _ _ v u Q I rx ry ⟨_, _, rfl, rfl, fin_pure sr q rep_bl⟩
  | ge =>
    intro pins s σ H x y v u Q I rx ry h
    obtain ⟨S, M, dx, dy, d, sr, tx, ty, e, q⟩ := h
    cases dx <;> cases dy <;> simp only [cmpD] at e <;> try (cases e; done)
    cases e
    obtain rfl := top_int tx
    obtain rfl := top_int ty
    exact op_ge pins s σ H _ _ v u Q I rx ry ⟨_, _, rfl, rfl, fin_pure sr q rep_bl⟩
  | is =>
    intro pins s σ H x y v u Q I rx ry h
    obtain ⟨S, M, dx, dy, d, sr, tx, ty, e, q⟩ := h
    cases dy with
    | non =>
      obtain rfl := top_non ty
      refine op_isN pins s σ H _ _ v u Q I rx ry ⟨rfl, ?_⟩
      rw [non_iff tx]
      cases dx <;> (simp only [cmpD] at e; cases e; exact fin_pure sr q rep_bl)
    | bl b =>
      cases dx <;> simp only [cmpD] at e <;> try (cases e; done)
      cases e
      obtain rfl := top_bl tx
      obtain rfl := top_bl ty
      exact op_isBl pins s σ H _ _ v u Q I rx ry ⟨_, _, rfl, rfl, fin_pure sr q rep_bl⟩
    | _ => cases dx <;> simp only [cmpD] at e <;> cases e
  | isnot =>
    intro pins s σ H x y v u Q I rx ry h
    obtain ⟨S, M, dx, dy, d, sr, tx, ty, e, q⟩ := h
    cases dy with
    | non =>
      obtain rfl := top_non ty
      refine op_notN pins s σ H _ _ v u Q I rx ry ⟨rfl, ?_⟩
      rw [non_iff tx]
      cases dx <;> (simp only [cmpD] at e; cases e; exact fin_pure sr q rep_bl)
    | bl b =>
      cases dx <;> simp only [cmpD] at e <;> try (cases e; done)
      cases e
      obtain rfl := top_bl tx
      obtain rfl := top_bl ty
      exact op_notBl pins s σ H _ _ v u Q I rx ry ⟨_, _, rfl, rfl, fin_pure sr q rep_bl⟩
    | _ => cases dx <;> simp only [cmpD] at e <;> cases e
/-! ### subscripts -/
theorem ixN_eq : @GW.ixN = @L2.ixN := by
  funext n i
  unfold GW.ixN L2.ixN
  rfl
theorem atI_eq {α : Type} : @GW.atI α = @L2.atI α := by
  funext xs i
  unfold GW.atI L2.atI
  rw [ixN_eq]
theorem sIx_eq : @GW.sIx = @HT.sIx := by
  funext n d o
  cases o <;> rfl
theorem reps_at {K : PySem.W.Frag} {S : RS} {xs : List D} {vs : List V} {i : Int} {d : D} (r : Reps K L S xs vs) (h : GW.atI xs i = some d) : ∃ v, L2.atI vs i = some v ∧ Rep K L S d v := by
  rw [atI_eq] at h
  unfold L2.atI at h ⊢
  rw [r.length]
  cases e : L2.ixN xs.length i with
  | none => rw [e] at h; cases h
  | some j =>
    rw [e] at h
    exact r.get h
theorem ixR : IxR X (rV X.K L ixD) := by
  intro value slice pins s σ H x y v u Q I rx ry h hs
  obtain ⟨S, M, dx, dy, d, sr, tx, ty, e, q⟩ := h
  cases dx <;> cases dy <;> simp only [ixD] at e <;> try (cases e; done)
  case tup.int xs i =>
    obtain ⟨a, vs, rfl, _, h1, r⟩ := top_tup sr tx
    obtain rfl := top_int ty
    obtain ⟨w, hw, rw'⟩ := reps_at r e
    exact ix_tup value slice pins s σ H _ _ v u Q I rx ry ⟨a, vs, i, w, rfl, rfl, h1, hw, fin_pure sr q rw'⟩ hs
  case lst.int xs i =>
    obtain ⟨a, vs, rfl, h1, r⟩ := tx
    obtain rfl := top_int ty
    obtain ⟨w, hw, rw'⟩ := reps_at r e
    exact ix_list value slice pins s σ H _ _ v u Q I rx ry ⟨a, vs, i, w, rfl, rfl, .inl h1, hw, fin_pure sr q rw'⟩ hs
  case str.int z i =>
    obtain ⟨rfl, hz⟩ := top_str tx
    obtain rfl := top_int ty
    cases e1 : GW.atI z.cps.toList i with
    | none => rw [e1] at e; cases e
    | some c =>
      rw [e1] at e
      cases e
      rw [atI_eq] at e1
      exact ix_str value slice pins s σ H _ _ v u Q I rx ry ⟨z, i, c, rfl, rfl, hz, e1, fin_pure sr q (rep_str (by rw [sl_eq]; show 1 ≤ LINE; decide))⟩ hs
theorem cutL_reps {K : PySem.W.Frag} {S : RS} {xs : List D} {vs : List V} {lo hi : Option Int} (r : Reps K L S xs vs) : Reps K L S (cutL xs lo hi) (cutV vs lo hi) := by
  unfold cutL cutV
  rw [sIx_eq, r.length]
  exact (r.drop _).take _
def rSl (K : PySem.W.Frag) (L : Link) : V → Option Int → Option Int → Hp → VK → Prop := fun x lo hi H Q => ∃ S M dx d, SR K L S M H ∧ Top K L S H dx x ∧ slcD dx lo hi = some d ∧
  ∀ v S' H', Step S H S' H' → SR K L S' M H' → Rep K L S' d v → Q v H'
theorem slR : SlR X (rSl X.K L) := by
  intro pins s σ H x v vl vu lo hi sl Q I rx hs pl pu h
  obtain ⟨S, M, dx, d, sr, tx, e, q⟩ := h
  cases dx <;> simp only [slcD] at e <;> try (cases e; done)
  case tup xs =>
    cases e
    have tx0 := tx
    obtain ⟨a, vs, rfl, h0, h1, r⟩ := top_tup sr tx
    refine sl_tupA pins s σ H _ v vl vu lo hi sl Q I rx hs pl pu ⟨a, vs, rfl, h1, fun hw => ?_, fun _ p hp => fin_new sr q hp fun S' le h => rep_tup le h (cutL_reps r)⟩
    refine fin_pure sr q ?_
    have : cutL xs lo hi = xs := by
      unfold cutL
      rw [sIx_eq]
      rw [r.length] at hw
      rw [hw.1, hw.2]
      simp
    rw [this]
    exact tx0
  case lst xs =>
    cases e
    obtain ⟨a, vs, rfl, h1, r⟩ := tx
    exact sl_list pins s σ H _ v vl vu lo hi sl Q I rx hs pl pu ⟨a, vs, rfl, .inl h1, fun p hp => fin_new sr q hp fun S' le h => rep_lst le h (cutL_reps r)⟩
/-! ### truth -/
theorem tru_of {K : PySem.W.Frag} {S : RS} {M : Mem} {H : Hp} {d : D} {v : V} {b : Bool} (sr : SR K L S M H) (t : Top K L S H d v) (e : truthD d = some b) : TruV K v H b := by
  cases d <;> simp only [truthD] at e <;> try (cases e; done)
  case non => cases e; obtain rfl := top_non t; exact rfl
  case bl x => cases e; obtain rfl := top_bl t; exact rfl
  case int i => cases e; obtain rfl := top_int t; exact rfl
  case str z => cases e; obtain ⟨rfl, hz⟩ := top_str t; exact ⟨hz, rfl⟩
  case tup xs =>
    cases e
    obtain ⟨a, vs, rfl, _, h1, r⟩ := top_tup sr t
    refine .inr (.inl ⟨vs, h1, ?_⟩)
    have := r.length
    cases xs <;> cases vs <;> simp_all
  case lst xs =>
    cases e
    obtain ⟨a, vs, rfl, h1, r⟩ := t
    refine .inl ⟨vs, .inl h1, ?_⟩
    have := r.length
    cases xs <;> cases vs <;> simp_all
end
end GW

set_option Elab.async false
set_option linter.all false
set_option autoImplicit false
set_option maxRecDepth 100000
set_option maxHeartbeats 4000000
/-! What an outcome asks; the readings of the core. -/
namespace GW
open PySem PySem.Spec PyProof.Rows L2
section
variable (K : PySem.W.Frag) (L : Link)
/-- an exception's own dict holds its fields -/
def ExcRep (S : RS) (c : Nat) (as : List D) (dd : Option Addr) (H : Hp) : Prop :=
  (as = [] ∧ dd = none) ∨ ∃ x vs, dd = some x ∧ H x = some (.xd ((L.T.xf c).zip vs)) ∧ Reps K L S as vs ∧ (L.T.xf c).length = as.length
/-- what an outcome asks: wherever it stands, Q; an exception: the wish E -/
def Fin {α : Type} (S : RS) (H : Hp) (E : XK) (r : Out α) (Q : α → Mem → RS → Hp → Prop) : Prop :=
  match r with
  | .ok a M' => ∀ S' H', Step S H S' H' → SR K L S' M' H' → Q a M' S' H'
  | .exc c as M' => ∀ S' H' dd, Step S H S' H' → SR K L S' M' H' → ExcRep K L S' c as dd H' → E (.ref (L.ca c)) dd H'
  | .err => False
structure EnvR (S : RS) (ρ : Env) (σ : L2.St) : Prop where
  len : ρ.length = σ.length
  get : ∀ (i : Nat) d, ρ[i]? = some (some d) → ∃ v, σ[i]? = some (some v) ∧ Rep K L S d v
end
section
variable {K : PySem.W.Frag} {L : Link} {S S' : RS} {H H' : Hp} {E : XK}
theorem EnvR.mono {ρ : Env} {σ : L2.St} (le : Le S S') (h : EnvR K L S ρ σ) : EnvR K L S' ρ σ := ⟨h.len, fun i d e => let ⟨v, h1, h2⟩ := h.get i d e; ⟨v, h1, h2.mono le⟩⟩
theorem EnvR.set {ρ : Env} {σ : L2.St} {i : Nat} {d : D} {v : V} (h : EnvR K L S ρ σ) (r : Rep K L S d v) : EnvR K L S (ρ.set i (some d)) (σ.set i (some v)) := by
  refine ⟨by rw [List.length_set, List.length_set]; exact h.len, fun j x e => ?_⟩
  by_cases z : i = j
  · subst z
    by_cases hi : i < ρ.length
    · rw [List.getElem?_set_self hi] at e
      cases e
      exact ⟨v, List.getElem?_set_self (by rw [← h.len]; exact hi), r⟩
    · rw [List.getElem?_eq_none (by rw [List.length_set]; omega)] at e
      cases e
  · rw [List.getElem?_set_ne z] at e ⊢
    exact h.get j x e
theorem wipe_len (ρ : Env) : ∀ l, (GW.wipe ρ l).length = ρ.length
  | [] => rfl
  | v :: l => by rw [GW.wipe, List.length_set, wipe_len ρ l]
theorem EnvR.wipe {ρ : Env} {σ : L2.St} (h : EnvR K L S ρ σ) : ∀ l : List Nat, EnvR K L S (GW.wipe ρ l) (L2.wipe σ l)
  | [] => h
  | v :: l => by
    have q := EnvR.wipe h l
    refine ⟨by rw [GW.wipe, L2.wipe, List.length_set, List.length_set]; exact q.len, fun j x e => ?_⟩
    rw [GW.wipe] at e
    rw [L2.wipe]
    by_cases z : v = j
    · subst z
      by_cases hv : v < (GW.wipe ρ l).length
      · rw [List.getElem?_set_self hv] at e
        cases e
      · rw [List.getElem?_eq_none (by rw [List.length_set]; omega)] at e
        cases e
    · rw [List.getElem?_set_ne z] at e ⊢
      exact q.get j x e
section
variable {α β : Type}
theorem Fin.step {r : Out α} {Q : α → Mem → RS → Hp → Prop} (st : Step S H S' H') (h : Fin K L S H E r Q) : Fin K L S' H' E r Q := by
  cases r with
  | ok a M' => exact fun S2 H2 st2 sr => h S2 H2 (st.trans st2) sr
  | exc c as M' => exact fun S2 H2 dd st2 sr x => h S2 H2 dd (st.trans st2) sr x
  | err => exact h
theorem Fin.bind {r : Out α} {f : α → Mem → Out β} {Q : β → Mem → RS → Hp → Prop} (h : Fin K L S H E (r.bind f) Q) : Fin K L S H E r (fun a M' S' H' => Fin K L S' H' E (f a M') Q) := by
  cases r with
  | ok a M' =>
    intro S2 H2 st sr
    have h : Fin K L S H E (f a M') Q := h
    exact h.step st
  | exc c as M' => exact h
  | err => exact h
theorem Fin.imp {r : Out α} {Q Q' : α → Mem → RS → Hp → Prop} (h : Fin K L S H E r Q) (i : ∀ a M' S' H', Step S H S' H' → SR K L S' M' H' → Q a M' S' H' → Q' a M' S' H') : Fin K L S H E r Q' := by
  cases r with
  | ok a M' => exact fun S2 H2 st sr => i a M' S2 H2 st sr (h S2 H2 st sr)
  | exc c as M' => exact h
  | err => exact h
theorem Fin.of {o : Option α} {M : Mem} {Q : α → Mem → RS → Hp → Prop} (sr : SR K L S M H) (h : Fin K L S H E (Out.of o M) Q) : ∃ a, o = some a ∧ ∀ S' H', Step S H S' H' → SR K L S' M H' → Q a M S' H' := by
  cases o with
  | none => exact (show False from h).elim
  | some a => exact ⟨a, rfl, h⟩
theorem Fin.now {a : α} {M : Mem} {Q : α → Mem → RS → Hp → Prop} (sr : SR K L S M H) (h : Fin K L S H E (.ok a M) Q) : Q a M S H := h S H (.refl S H) sr
end
end

/-! ### the readings -/
section
variable (Γ : Prog) (cf : Calls) (K : PySem.W.Frag) (L : Link) (E : XK)
def tI (c : CE) : TE := fun σ H Q => ∃ S M ρ, SR K L S M H ∧ EnvR K L S ρ σ ∧ Fin K L S H E (evE Γ cf c ρ M) (fun d _ S' H' => ∀ v, Rep K L S' d v → Q v H')
def tT (c : CE) : TT := fun σ H Q => ∃ S M ρ, SR K L S M H ∧ EnvR K L S ρ σ ∧ Fin K L S H E (evC Γ cf c ρ M) (fun b _ S' H' => Q b H')
def tAs (es : CEs) : TA := fun σ H Q => ∃ S M ρ, SR K L S M H ∧ EnvR K L S ρ σ ∧ Fin K L S H E (evEs Γ cf es ρ M) (fun ds _ S' H' => ∀ vs, Reps K L S' ds vs → Q vs H')
end
section
variable {X : Cx}
theorem _root_.L2.PE.imp {e : Expr} {t t' : TE} (h : PE X e t) (i : ∀ σ H Q, t' σ H Q → t σ H Q) : PE X e t' := ⟨fun pins s σ H Q I q => h.run pins s σ H Q I (i σ H Q q)⟩
theorem _root_.L2.PT.imp {e : Expr} {t t' : TT} (h : PT X e t) (i : ∀ σ H Q, t' σ H Q → t σ H Q) : PT X e t' := ⟨fun pins s σ H Q I q => h.run pins s σ H Q I (i σ H Q q)⟩
theorem _root_.L2.PW.imp {e : Expr} {t t' : TT} (h : PW X e t) (i : ∀ σ H Q, t' σ H Q → t σ H Q) : PW X e t' := ⟨fun w pins s σ H Q I q => h.run w pins s σ H Q I (i σ H Q q)⟩
theorem _root_.L2.PA.imp {e : List Expr} {t t' : TA} (h : PA X e t) (i : ∀ σ H Q, t' σ H Q → t σ H Q) : PA X e t' := ⟨fun p pins s σ H Q I q => h.run p pins s σ H Q I (i σ H Q q)⟩
theorem _root_.L2.PS.imp {e : Stmt} {t t' : TS} (h : PS X e t) (i : ∀ D σ H, t' D σ H → t D σ H) : PS X e t' := ⟨fun pins s σ H D I q => h.run pins s σ H D I (i D σ H q)⟩
theorem _root_.L2.PSs.imp {e : List Stmt} {t t' : TS} (h : PSs X e t) (i : ∀ D σ H, t' D σ H → t D σ H) : PSs X e t' := ⟨fun pins s σ H D I q => h.run pins s σ H D I (i D σ H q)⟩
end
section
variable {X : Cx} {Γ : Prog} {cf : Calls} {L : Link} {E : XK} {N : List Str} {a b c e : Expr} {es : List Expr} {ca cb cc ce : CE} {cs : CEs} {pos : Pos}
theorem tI_ok {σ : L2.St} {H : Hp} {Q : VK} {S : RS} {M : Mem} {d : D} {v : V} (sr : SR X.K L S M H) (h : Fin X.K L S H E (.ok d M) (fun d _ S' H' => ∀ v, Rep X.K L S' d v → Q v H')) (r : Rep X.K L S d v) : Q v H := h.now sr v r
/-- a value operation behind its parts -/
theorem fin_rV {S : RS} {M : Mem} {H : Hp} {Q : VK} {x y : V} {dx dy : D} {f : D → D → Option D} (sr : SR X.K L S M H) (rx : Rep X.K L S dx x) (ry : Rep X.K L S dy y)
    (h : Fin X.K L S H E (Out.of (f (rd M dx) (rd M dy)) M) (fun d _ S' H' => ∀ v, Rep X.K L S' d v → Q v H')) : rV X.K L f x y H Q := by
  obtain ⟨d, e, h⟩ := h.of sr
  exact ⟨S, M, _, _, d, sr, rx.rd sr, ry.rd sr, e, fun v S' H' st sr' r => h S' H' st sr' v r⟩
theorem s_bin {o : BOp} (ha : PE X a (tI Γ cf X.K L E ca)) (hb : PE X b (tI Γ cf X.K L E cb)) : PE X (.BinOp a (opA o) b pos) (tI Γ cf X.K L E (.bin o ca cb)) := by
  refine (pe_op (opR_bin (L := L) o) ha hb).imp fun σ H Q h => ?_
  obtain ⟨S, M, ρ, sr, er, h⟩ := h
  rw [evE] at h
  refine ⟨S, M, ρ, sr, er, h.bind.imp fun x M1 S1 H1 st1 sr1 h1 v rv => ⟨S1, M1, ρ, sr1, er.mono st1.le, h1.bind.imp fun y M2 S2 H2 st2 sr2 h2 u ru => ?_⟩⟩
  exact fin_rV sr2 (rv.mono st2.le) ru h2
theorem s_lit_int {i : Int} {k : Nat} : PE X (.Constant (.int i) k pos) (tI Γ cf X.K L E (.lit (.int i))) := pe_int.imp fun σ H Q ⟨S, M, ρ, sr, er, h⟩ => by rw [evE] at h; exact tI_ok (σ := σ) sr h rep_int
theorem s_lit_bl {i : Bool} {k : Nat} : PE X (.Constant (.bool i) k pos) (tI Γ cf X.K L E (.lit (.bl i))) := pe_bl.imp fun σ H Q ⟨S, M, ρ, sr, er, h⟩ => by rw [evE] at h; exact tI_ok (σ := σ) sr h rep_bl
theorem s_lit_non {k : Nat} : PE X (.Constant .none k pos) (tI Γ cf X.K L E (.lit .non)) := pe_non.imp fun σ H Q ⟨S, M, ρ, sr, er, h⟩ => by rw [evE] at h; exact tI_ok (σ := σ) sr h rep_non
theorem s_lit_str {z : Str} {k : Nat} (hz : z.length ≤ sizeLine) : PE X (.Constant (.str z) k pos) (tI Γ cf X.K L E (.lit (.str z))) := pe_str.imp fun σ H Q ⟨S, M, ρ, sr, er, h⟩ => by rw [evE] at h; exact tI_ok (σ := σ) sr h (rep_str hz)
theorem s_var {i : Nat} {x : Str} (hN : X.N[i]? = some x) (hv : Vis X.env.scope x) (hd : (x == ("__debug__" : Str)) = false) (hcd : (x == ("__classdict__" : Str)) = false) : PE X (.Name x pos) (tI Γ cf X.K L E (.var i)) := by
  refine (pe_var hN hv hd hcd).imp fun σ H Q ⟨S, M, ρ, sr, er, h⟩ => ?_
  rw [evE] at h
  cases e1 : ρ[i]? with
  | none => rw [e1] at h; exact (show False from h).elim
  | some o =>
    cases o with
    | none => rw [e1] at h; exact (show False from h).elim
    | some d =>
      rw [e1] at h
      obtain ⟨v, h1, r⟩ := er.get i d e1
      exact ⟨v, h1, tI_ok (σ := σ) sr h r⟩
theorem s_neg (ha : PE X a (tI Γ cf X.K L E ca)) : PE X (.UnaryOp .USub a pos) (tI Γ cf X.K L E (.neg ca)) := by
  refine (pe_un un_neg ha).imp fun σ H Q h => ?_
  obtain ⟨S, M, ρ, sr, er, h⟩ := h
  rw [evE] at h
  refine ⟨S, M, ρ, sr, er, h.bind.imp fun x M1 S1 H1 st1 sr1 h1 v rv => ?_⟩
  cases x <;> first
    | exact (show False from h1).elim
    | (rw [Rep] at rv; subst rv; exact ⟨_, rfl, tI_ok (σ := σ) sr1 h1 rep_int⟩)
theorem fin_tru {S : RS} {M : Mem} {H : Hp} {α : Type} {x : V} {dx : D} {f : Bool → α} {Q : α → Mem → RS → Hp → Prop} (sr : SR X.K L S M H) (rx : Rep X.K L S dx x)
    (h : Fin X.K L S H E (Out.of ((truthD (rd M dx)).map f) M) Q) : ∃ k, TruV X.K x H k ∧ ∀ S' H', Step S H S' H' → SR X.K L S' M H' → Q (f k) M S' H' := by
  obtain ⟨d, e, h⟩ := h.of sr
  cases e1 : truthD (rd M dx) with
  | none => rw [e1] at e; cases e
  | some k =>
    rw [e1] at e
    cases e
    exact ⟨k, tru_of sr (rx.rd sr) e1, h⟩
theorem s_not (ha : PE X a (tI Γ cf X.K L E ca)) : PE X (.UnaryOp .Not a pos) (tI Γ cf X.K L E (.not ca)) := by
  refine (pe_notT ha).imp fun σ H Q h => ?_
  obtain ⟨S, M, ρ, sr, er, h⟩ := h
  rw [evE] at h
  refine ⟨S, M, ρ, sr, er, h.bind.imp fun x M1 S1 H1 st1 sr1 h1 v rv => ?_⟩
  obtain ⟨k, hk, h2⟩ := fin_tru sr1 rv h1
  exact ⟨k, hk, h2 S1 H1 (.refl _ _) sr1 _ rep_bl⟩
theorem s_and {rest : List Expr} (ha : PE X a (tI Γ cf X.K L E ca)) (hb : PE X (.BoolOp .And (b :: rest) pos) (tI Γ cf X.K L E cb)) : PE X (.BoolOp .And (a :: b :: rest) pos) (tI Γ cf X.K L E (.and ca cb)) := by
  refine (pe_andT ha hb).imp fun σ H Q h => ?_
  obtain ⟨S, M, ρ, sr, er, h⟩ := h
  rw [evE] at h
  refine ⟨S, M, ρ, sr, er, h.bind.imp fun x M1 S1 H1 st1 sr1 h1 v rv => ?_⟩
  cases e1 : truthD (rd M1 x) with
  | none => rw [e1] at h1; exact (show False from h1).elim
  | some k =>
    rw [e1] at h1
    refine ⟨k, tru_of sr1 (rv.rd sr1) e1, ?_⟩
    cases k with
    | true => exact iteT ⟨S1, M1, ρ, sr1, er.mono st1.le, h1⟩
    | false => exact iteF (tI_ok (σ := σ) sr1 h1 rv)
theorem s_or {rest : List Expr} (ha : PE X a (tI Γ cf X.K L E ca)) (hb : PE X (.BoolOp .Or (b :: rest) pos) (tI Γ cf X.K L E cb)) : PE X (.BoolOp .Or (a :: b :: rest) pos) (tI Γ cf X.K L E (.or ca cb)) := by
  refine (pe_orT ha hb).imp fun σ H Q h => ?_
  obtain ⟨S, M, ρ, sr, er, h⟩ := h
  rw [evE] at h
  refine ⟨S, M, ρ, sr, er, h.bind.imp fun x M1 S1 H1 st1 sr1 h1 v rv => ?_⟩
  cases e1 : truthD (rd M1 x) with
  | none => rw [e1] at h1; exact (show False from h1).elim
  | some k =>
    rw [e1] at h1
    refine ⟨k, tru_of sr1 (rv.rd sr1) e1, ?_⟩
    cases k with
    | true => exact iteT (tI_ok (σ := σ) sr1 h1 rv)
    | false => exact iteF ⟨S1, M1, ρ, sr1, er.mono st1.le, h1⟩
/-! ### tests -/
theorem s_truth (ha : PE X a (tI Γ cf X.K L E ca)) (he : ∀ whole, isTrue a X.env whole = (do let v ← whole; standAt a.pos; holding [v] (truthy v))) : PT X a (tT Γ cf X.K L E ca) := by
  refine (pt_truth ha he).imp fun σ H Q h => ?_
  obtain ⟨S, M, ρ, sr, er, h⟩ := h
  unfold evC at h
  refine ⟨S, M, ρ, sr, er, h.bind.imp fun x M1 S1 H1 st1 sr1 h1 v rv => ?_⟩
  have h1 : Fin X.K L S1 H1 E (Out.of ((truthD (rd M1 x)).map id) M1) (fun b _ S' H' => Q b H') := by rw [Option.map_id]; exact h1
  obtain ⟨k, hk, h2⟩ := fin_tru sr1 rv h1
  exact ⟨k, hk, h2 S1 H1 (.refl _ _) sr1⟩
theorem s_tnot (ha : PT X a (tT Γ cf X.K L E ca)) : PT X (.UnaryOp .Not a pos) (tT Γ cf X.K L E (.not ca)) := by
  refine (pt_not ha).imp fun σ H Q h => ?_
  obtain ⟨S, M, ρ, sr, er, h⟩ := h
  refine ⟨S, M, ρ, sr, er, ?_⟩
  unfold evC at h ⊢
  rw [evE] at h
  cases e1 : evE Γ cf ca ρ M with
  | err => rw [e1] at h; exact h
  | exc c as M1 => rw [e1] at h; exact h
  | ok x M1 =>
    rw [e1] at h
    dsimp only [Out.bind] at h ⊢
    cases e2 : truthD (rd M1 x) with
    | none => rw [e2] at h; exact h
    | some k =>
      rw [e2] at h
      exact h
theorem s_tand1 {op : BoolOp} (ha : PT X a (tT Γ cf X.K L E ca)) : PW X (.BoolOp op [a] pos) (tT Γ cf X.K L E ca) := by
  cases op with
  | And => exact pw_and1 ha
  | Or => exact pw_or1 ha
theorem evC_and (ρ : Env) (M : Mem) : evC Γ cf (.and ca cb) ρ M = (evC Γ cf ca ρ M).bind fun k M1 => if k = true then evC Γ cf cb ρ M1 else .ok false M1 := by
  unfold evC
  rw [evE]
  cases evE Γ cf ca ρ M with
  | err => rfl
  | exc c as M1 => rfl
  | ok x M1 =>
    dsimp only [Out.bind]
    cases e2 : truthD (rd M1 x) with
    | none => rfl
    | some k =>
      cases k with
      | true => rfl
      | false =>
        dsimp only [Out.bind, Out.of]
        rw [e2]
        rfl
theorem evC_or (ρ : Env) (M : Mem) : evC Γ cf (.or ca cb) ρ M = (evC Γ cf ca ρ M).bind fun k M1 => if k = true then .ok true M1 else evC Γ cf cb ρ M1 := by
  unfold evC
  rw [evE]
  cases evE Γ cf ca ρ M with
  | err => rfl
  | exc c as M1 => rfl
  | ok x M1 =>
    dsimp only [Out.bind]
    cases e2 : truthD (rd M1 x) with
    | none => rfl
    | some k =>
      cases k with
      | false => rfl
      | true =>
        dsimp only [Out.bind, Out.of]
        rw [e2]
        rfl
theorem s_tand {rest : List Expr} (ha : PT X a (tT Γ cf X.K L E ca)) (hb : PW X (.BoolOp .And (b :: rest) pos) (tT Γ cf X.K L E cb)) : PW X (.BoolOp .And (a :: b :: rest) pos) (tT Γ cf X.K L E (.and ca cb)) := by
  refine (pw_and ha hb).imp fun σ H Q h => ?_
  obtain ⟨S, M, ρ, sr, er, h⟩ := h
  rw [evC_and] at h
  refine ⟨S, M, ρ, sr, er, h.bind.imp fun k M1 S1 H1 st1 sr1 h1 => ?_⟩
  cases k with
  | true => exact iteT ⟨S1, M1, ρ, sr1, er.mono st1.le, h1⟩
  | false => exact iteF (Fin.now sr1 h1)
theorem s_tor {rest : List Expr} (ha : PT X a (tT Γ cf X.K L E ca)) (hb : PW X (.BoolOp .Or (b :: rest) pos) (tT Γ cf X.K L E cb)) : PW X (.BoolOp .Or (a :: b :: rest) pos) (tT Γ cf X.K L E (.or ca cb)) := by
  refine (pw_or ha hb).imp fun σ H Q h => ?_
  obtain ⟨S, M, ρ, sr, er, h⟩ := h
  rw [evC_or] at h
  refine ⟨S, M, ρ, sr, er, h.bind.imp fun k M1 S1 H1 st1 sr1 h1 => ?_⟩
  cases k with
  | true => exact iteT (Fin.now sr1 h1)
  | false => exact iteF ⟨S1, M1, ρ, sr1, er.mono st1.le, h1⟩
theorem evE_ite (ρ : Env) (M : Mem) : evE Γ cf (.ite cc ca cb) ρ M = (evC Γ cf cc ρ M).bind fun k M1 => if k = true then evE Γ cf ca ρ M1 else evE Γ cf cb ρ M1 := by
  rw [evE]
  unfold evC
  cases evE Γ cf cc ρ M with
  | err => rfl
  | exc c as M1 => rfl
  | ok x M1 =>
    dsimp only [Out.bind]
    cases e2 : truthD (rd M1 x) with
    | none => rfl
    | some k => cases k <;> rfl
theorem s_ite (hc : PT X c (tT Γ cf X.K L E cc)) (ha : PE X a (tI Γ cf X.K L E ca)) (hb : PE X b (tI Γ cf X.K L E cb)) : PE X (.IfExp c a b pos) (tI Γ cf X.K L E (.ite cc ca cb)) := by
  refine (pe_ifExp hc ha hb).imp fun σ H Q h => ?_
  obtain ⟨S, M, ρ, sr, er, h⟩ := h
  rw [evE_ite] at h
  refine ⟨S, M, ρ, sr, er, h.bind.imp fun k M1 S1 H1 st1 sr1 h1 => ?_⟩
  cases k with
  | true => exact iteT ⟨S1, M1, ρ, sr1, er.mono st1.le, h1⟩
  | false => exact iteF ⟨S1, M1, ρ, sr1, er.mono st1.le, h1⟩
/-! ### comparisons -/
theorem cmp_val {o : COp} {S : RS} {M : Mem} {H : Hp} {Q : VK} {x y : V} {dx dy : D} (sr : SR X.K L S M H) (rx : Rep X.K L S dx x) (ry : Rep X.K L S dy y)
    (h : Fin X.K L S H E (Out.of ((cmpD o (rd M dx) (rd M dy)).map .bl) M) (fun d _ S' H' => ∀ v, Rep X.K L S' d v → Q v H')) : rV X.K L (fun x y => (cmpD o x y).map .bl) x y H Q := fin_rV sr rx ry h
theorem s_cmp {o : COp} (hu : X.A.units + 65 < cLine) (ha : PE X a (tI Γ cf X.K L E ca)) (hb : PE X b (tI Γ cf X.K L E cb)) (hm : behindInMarks (opC o) b = false) : PE X (.Compare a [opC o] [b] pos) (tI Γ cf X.K L E (.cmp o ca cb)) := by
  refine (pe_cmpR (opR_cmp (L := L) hu o) ha hb hm).imp fun σ H Q h => ?_
  obtain ⟨S, M, ρ, sr, er, h⟩ := h
  rw [evE] at h
  refine ⟨S, M, ρ, sr, er, h.bind.imp fun x M1 S1 H1 st1 sr1 h1 v rv => ⟨S1, M1, ρ, sr1, er.mono st1.le, h1.bind.imp fun y M2 S2 H2 st2 sr2 h2 u ru => ?_⟩⟩
  exact cmp_val sr2 (rv.mono st2.le) ru h2
theorem s_tcmp {o : COp} (hu : X.A.units + 65 < cLine) (ha : PE X a (tI Γ cf X.K L E ca)) (hb : PE X b (tI Γ cf X.K L E cb)) (hm : behindInMarks (opC o) b = false) : PT X (.Compare a [opC o] [b] pos) (tT Γ cf X.K L E (.cmp o ca cb)) := by
  refine (pt_cmpR (opR_cmp (L := L) hu o) ha hb hm).imp fun σ H Q h => ?_
  obtain ⟨S, M, ρ, sr, er, h⟩ := h
  unfold evC at h
  rw [evE] at h
  refine ⟨S, M, ρ, sr, er, h.bind.bind.imp fun x M1 S1 H1 st1 sr1 h1 v rv => ⟨S1, M1, ρ, sr1, er.mono st1.le, h1.bind.imp fun y M2 S2 H2 st2 sr2 h2 u ru => ?_⟩⟩
  obtain ⟨d, e, h3⟩ := h2.of sr2
  cases e1 : cmpD o (rd M2 x) (rd M2 y) with
  | none => rw [e1] at e; cases e
  | some k =>
    rw [e1] at e
    cases e
    refine ⟨S2, M2, _, _, .bl k, sr2, (rv.mono st2.le).rd sr2, ru.rd sr2, by show Option.map _ _ = _; rw [e1]; rfl, fun w S' H' st sr' r => ?_⟩
    rw [Rep] at r
    subst r
    exact ⟨k, rfl, Fin.now sr' (h3 S' H' st sr')⟩
theorem s_cmp2 {o p : COp} (hu : X.A.units + 65 < cLine) (ha : PE X a (tI Γ cf X.K L E ca)) (hb : PE X b (tI Γ cf X.K L E cb)) (hc : PE X c (tI Γ cf X.K L E cc)) (hm : lastMarks [opC o, opC p] [b, c] = false) : PE X (.Compare a [opC o, opC p] [b, c] pos) (tI Γ cf X.K L E (.cmp2 o p ca cb cc)) := by
  refine (pe_chain (opR_cmp (L := L) hu o) (opR_cmp (L := L) hu p) ha hb hc hm).imp fun σ H Q h => ?_
  obtain ⟨S, M, ρ, sr, er, h⟩ := h
  rw [evE] at h
  refine ⟨S, M, ρ, sr, er, h.bind.imp fun x M1 S1 H1 st1 sr1 h1 v rv => ⟨S1, M1, ρ, sr1, er.mono st1.le, h1.bind.imp fun y M2 S2 H2 st2 sr2 h2 u ru => ?_⟩⟩
  cases e1 : cmpD o (rd M2 x) (rd M2 y) with
  | none => rw [e1] at h2; exact (show False from h2).elim
  | some k =>
    rw [e1] at h2
    refine ⟨S2, M2, _, _, .bl k, sr2, (rv.mono st2.le).rd sr2, ru.rd sr2, by show Option.map _ _ = _; rw [e1]; rfl, fun w S' H' st sr' r => ?_⟩
    rw [Rep] at r
    subst r
    refine ⟨k, rfl, ?_⟩
    cases k with
    | true =>
      refine iteT ⟨S', M2, ρ, sr', ((er.mono st1.le).mono st2.le).mono st.le, (Fin.bind (Fin.step st h2)).imp fun z M3 S3 H3 st3 sr3 h3 u' ru' => ?_⟩
      exact cmp_val sr3 ((ru.mono st.le).mono st3.le) ru' h3
    | false => exact iteF (tI_ok (σ := σ) sr' (Fin.step st h2) rep_bl)
theorem s_tcmp2 {o p : COp} (hu : X.A.units + 65 < cLine) (ha : PE X a (tI Γ cf X.K L E ca)) (hb : PE X b (tI Γ cf X.K L E cb)) (hc : PE X c (tI Γ cf X.K L E cc)) (hm : lastMarks [opC o, opC p] [b, c] = false) : PT X (.Compare a [opC o, opC p] [b, c] pos) (tT Γ cf X.K L E (.cmp2 o p ca cb cc)) := by
  refine (pt_chain (opR_cmp (L := L) hu o) (opR_cmp (L := L) hu p) ha hb hc hm).imp fun σ H Q h => ?_
  obtain ⟨S, M, ρ, sr, er, h⟩ := h
  unfold evC at h
  rw [evE] at h
  refine ⟨S, M, ρ, sr, er, h.bind.bind.imp fun x M1 S1 H1 st1 sr1 h1 v rv => ⟨S1, M1, ρ, sr1, er.mono st1.le, h1.bind.imp fun y M2 S2 H2 st2 sr2 h2 u ru => ?_⟩⟩
  cases e1 : cmpD o (rd M2 x) (rd M2 y) with
  | none => rw [e1] at h2; exact (show False from h2).elim
  | some k =>
    rw [e1] at h2
    refine ⟨S2, M2, _, _, .bl k, sr2, (rv.mono st2.le).rd sr2, ru.rd sr2, by show Option.map _ _ = _; rw [e1]; rfl, fun w S' H' st sr' r => ?_⟩
    rw [Rep] at r
    subst r
    refine ⟨k, rfl, ?_⟩
    cases k with
    | true =>
      refine iteT ⟨S', M2, ρ, sr', ((er.mono st1.le).mono st2.le).mono st.le, (Fin.bind (Fin.step st h2)).imp fun z M3 S3 H3 st3 sr3 h3 u' ru' => ?_⟩
      obtain ⟨d, e, h4⟩ := h3.of sr3
      cases e2 : cmpD p (rd M3 y) (rd M3 z) with
      | none => rw [e2] at e; cases e
      | some k2 =>
        rw [e2] at e
        cases e
        refine ⟨S3, M3, _, _, .bl k2, sr3, (((ru.mono st.le).mono st3.le)).rd sr3, ru'.rd sr3, by show Option.map _ _ = _; rw [e2]; rfl, fun w S4 H4 st4 sr4 r => ?_⟩
        rw [Rep] at r
        subst r
        exact ⟨k2, rfl, Fin.now sr4 (h4 S4 H4 st4 sr4)⟩
    | false =>
      refine iteF ⟨false, rfl, ?_⟩
      have h5 := Fin.now sr' (Fin.step st h2)
      exact Fin.now sr' h5
/-! ### argument lists, displays -/
theorem s_nil : PA X [] (tAs Γ cf X.K L E .nil) := pa_nil.imp fun σ H Q ⟨S, M, ρ, sr, er, h⟩ => by
  rw [evEs] at h
  exact h.now sr [] .nil
theorem s_cons (ha : PE X a (tI Γ cf X.K L E ca)) (hr : PA X es (tAs Γ cf X.K L E cs)) (hs : starEach (a :: es) X.env = (false, eval a X.env) :: starEach es X.env) : PA X (a :: es) (tAs Γ cf X.K L E (.cons ca cs)) := by
  refine (pa_cons ha hr hs).imp fun σ H Q h => ?_
  obtain ⟨S, M, ρ, sr, er, h⟩ := h
  rw [evEs] at h
  refine ⟨S, M, ρ, sr, er, h.bind.imp fun x M1 S1 H1 st1 sr1 h1 v rv => ⟨S1, M1, ρ, sr1, er.mono st1.le, h1.bind.imp fun y M2 S2 H2 st2 sr2 h2 u ru => ?_⟩⟩
  exact Fin.now sr2 h2 _ (.cons (rv.mono st2.le) ru)
theorem s_tup {k : Nat} (h : PA X es (tAs Γ cf X.K L E cs)) : PE X (.Tuple es k pos) (tI Γ cf X.K L E (.tup cs)) := by
  refine (pe_tup h).imp fun σ H Q h => ?_
  obtain ⟨S, M, ρ, sr, er, h⟩ := h
  rw [evE] at h
  refine ⟨S, M, ρ, sr, er, h.bind.imp fun xs M1 S1 H1 st1 sr1 h1 vs rv => ?_⟩
  split at h1
  · rename_i hz
    refine ⟨by rw [rv.length, sl_eq]; exact hz, fun p hp => ?_⟩
    obtain ⟨sr', st⟩ := sr1.newF (o := .tup vs) hp
    exact h1 _ _ st sr' _ (rep_tup st.le upd_same rv)
  · exact (show False from h1).elim
theorem s_lst {live : Bool} (h : PA X es (tAs Γ cf X.K L E cs)) : PE X (.List es pos) (tI Γ cf X.K L E (.lst live cs)) := by
  refine (pe_lst h).imp fun σ H Q h => ?_
  obtain ⟨S, M, ρ, sr, er, h⟩ := h
  rw [evE] at h
  refine ⟨S, M, ρ, sr, er, h.bind.imp fun xs M1 S1 H1 st1 sr1 h1 vs rv => ?_⟩
  split at h1
  · rename_i hz
    refine ⟨by rw [rv.length, sl_eq]; exact hz, fun p hp => ?_⟩
    cases live with
    | false =>
      obtain ⟨sr', st⟩ := sr1.newF (o := .lst vs) hp
      exact h1 _ _ st sr' _ (rep_lst st.le upd_same rv)
    | true =>
      obtain ⟨sr', st⟩ := sr1.newL (p := p) (ho := .lst vs) (o := .lst xs) hp ⟨vs, rfl, rv.mono (show Le S1 ⟨S1.HF, S1.φ ++ [p]⟩ from ⟨fun _ _ h => h, [p], rfl⟩)⟩
      refine h1 _ _ st sr' _ ?_
      rw [Rep]
      exact ⟨p, by show (S1.φ ++ [p])[M1.length]? = some p; rw [← sr1.len]; simp, rfl⟩
  · exact (show False from h1).elim
/-! ### subscripts -/
theorem s_ix (ha : PE X a (tI Γ cf X.K L E ca)) (hb : PE X b (tI Γ cf X.K L E cb)) (hs : PlainIx b) : PE X (.Subscript a b pos) (tI Γ cf X.K L E (.ix ca cb)) := by
  refine (pe_ix (ixR (L := L)) ha hb hs).imp fun σ H Q h => ?_
  obtain ⟨S, M, ρ, sr, er, h⟩ := h
  rw [evE] at h
  refine ⟨S, M, ρ, sr, er, h.bind.imp fun x M1 S1 H1 st1 sr1 h1 v rv => ⟨S1, M1, ρ, sr1, er.mono st1.le, h1.bind.imp fun y M2 S2 H2 st2 sr2 h2 u ru => ?_⟩⟩
  obtain ⟨d, e, h3⟩ := h2.of sr2
  refine ⟨S2, M2, _, _, d, sr2, (rv.mono st2.le).rd sr2, ?_, e, fun w S' H' st sr' r => h3 S' H' st sr' w r⟩
  exact ru.top sr2
end
end GW

set_option Elab.async false
set_option linter.all false
set_option autoImplicit false
set_option maxRecDepth 100000
set_option maxHeartbeats 4000000
/-! Built-in functions; isinstance; slices. -/
namespace GW
open PySem PySem.Spec PyProof.Rows L2
section
variable {X : Cx} {L : Link}
def Tops (K : PySem.W.Frag) (L : Link) (S : RS) (H : Hp) (ds : List D) (vs : List V) : Prop := Paired (Top K L S H) ds vs
theorem tops_of {K : PySem.W.Frag} {S : RS} {M : Mem} {H : Hp} (sr : SR K L S M H) : ∀ {ds : List D} {vs : List V}, Reps K L S ds vs → Tops K L S H (ds.map (rd M)) vs
  | [], vs, h => by rw [h.nil_inv]; exact .nil
  | d :: ds, vs, h => by
    obtain ⟨v, vr, rfl, r, t⟩ := h.cons_inv
    exact .cons (r.rd sr) (tops_of sr t)
def rB (K : PySem.W.Frag) (L : Link) (f : List D → Option D) : List V → Hp → VK → Prop := fun xs H Q => ∃ S M ds d, SR K L S M H ∧ Tops K L S H ds xs ∧ f ds = some d ∧
  ∀ v S' H', Step S H S' H' → SR K L S' M H' → Rep K L S' d v → Q v H'
theorem ints_reps {K : PySem.W.Frag} {S : RS} : ∀ {xs : List D} {ns : List Int} {vs : List V}, intsOf xs = some ns → Reps K L S xs vs → vs = ns.map V.int
  | [], ns, vs, e, r => by rw [r.nil_inv]; cases e; rfl
  | d :: xs, ns, vs, e, r => by
    obtain ⟨v, vr, rfl, r1, t⟩ := r.cons_inv
    cases d <;> simp only [intsOf] at e <;> try (cases e; done)
    case int i =>
      cases e1 : intsOf xs with
      | none => rw [e1] at e; cases e
      | some ms =>
        rw [e1] at e
        cases e
        rw [Rep] at r1
        subst r1
        rw [ints_reps e1 t]
        rfl
theorem bls_reps {K : PySem.W.Frag} {S : RS} : ∀ {xs : List D} {ns : List Bool} {vs : List V}, blsOf xs = some ns → Reps K L S xs vs → vs = ns.map V.bl
  | [], ns, vs, e, r => by rw [r.nil_inv]; cases e; rfl
  | d :: xs, ns, vs, e, r => by
    obtain ⟨v, vr, rfl, r1, t⟩ := r.cons_inv
    cases d <;> simp only [blsOf] at e <;> try (cases e; done)
    case bl i =>
      cases e1 : blsOf xs with
      | none => rw [e1] at e; cases e
      | some ms =>
        rw [e1] at e
        cases e
        rw [Rep] at r1
        subst r1
        rw [bls_reps e1 t]
        rfl
theorem maxI_is : ∀ (r : List Int) (i : Int), maxI i r ∈ i :: r ∧ ∀ y ∈ i :: r, y ≤ maxI i r
  | [], i => by simp [maxI]
  | j :: r, i => by
    have q := maxI_is r (if j > i then j else i)
    rw [maxI]
    by_cases h : j > i
    · rw [if_pos h] at q ⊢
      refine ⟨List.mem_cons_of_mem _ q.1, fun y hy => ?_⟩
      rcases List.mem_cons.mp hy with e | hy
      · have := q.2 j List.mem_cons_self
        omega
      · exact q.2 y hy
    · rw [if_neg h] at q ⊢
      refine ⟨?_, fun y hy => ?_⟩
      · rcases List.mem_cons.mp q.1 with e | e
        · rw [e]; exact List.mem_cons_self
        · exact List.mem_cons_of_mem _ (List.mem_cons_of_mem _ e)
      · have q0 := q.2 i List.mem_cons_self
        rcases List.mem_cons.mp hy with e | hy
        · omega
        · rcases List.mem_cons.mp hy with e | hy
          · omega
          · exact q.2 y (List.mem_cons_of_mem _ hy)
theorem minI_is : ∀ (r : List Int) (i : Int), minI i r ∈ i :: r ∧ ∀ y ∈ i :: r, minI i r ≤ y
  | [], i => by simp [minI]
  | j :: r, i => by
    have q := minI_is r (if j < i then j else i)
    rw [minI]
    by_cases h : j < i
    · rw [if_pos h] at q ⊢
      refine ⟨List.mem_cons_of_mem _ q.1, fun y hy => ?_⟩
      rcases List.mem_cons.mp hy with e | hy
      · have := q.2 j List.mem_cons_self
        omega
      · exact q.2 y hy
    · rw [if_neg h] at q ⊢
      refine ⟨?_, fun y hy => ?_⟩
      · rcases List.mem_cons.mp q.1 with e | e
        · rw [e]; exact List.mem_cons_self
        · exact List.mem_cons_of_mem _ (List.mem_cons_of_mem _ e)
      · have q0 := q.2 i List.mem_cons_self
        rcases List.mem_cons.mp hy with e | hy
        · omega
        · rcases List.mem_cons.mp hy with e | hy
          · omega
          · exact q.2 y (List.mem_cons_of_mem _ hy)
def bltId : BI → Value
  | .len => .builtin "len" | .all => .builtin "all" | .any => .builtin "any" | .abs => .builtin "abs" | .int => .type "int"
  | .max1 => .builtin "max" | .min1 => .builtin "min" | .max2 => .builtin "max" | .min2 => .builtin "min" | .sum => .builtin "sum" | .tuple => .type "tuple" | .list => .type "list" | .tuplek => .type "tuple"
theorem tops1 {K : PySem.W.Frag} {S : RS} {H : Hp} {d : D} {ds : List D} {vs : List V} (h : Tops K L S H (d :: ds) vs) : ∃ v vr, vs = v :: vr ∧ Top K L S H d v ∧ Tops K L S H ds vr := by
  cases h with
  | cons h t => exact ⟨_, _, rfl, h, t⟩
theorem tops0 {K : PySem.W.Frag} {S : RS} {H : Hp} {vs : List V} (h : Tops K L S H [] vs) : vs = [] := by cases h; rfl
/-- one list is handed over -/
theorem blt_lst {f : List D → Option D} (b : BI) (h : ∀ ds d, bltD b ds = some d → (∃ xs, ds = [.lst xs] ∧ f xs = some d) ∨ False)
    (k : ∀ (pins : List (Addr × Obj)) (s : Shared) (σ : L2.St) (H : Hp) (us : List Value) (Q : VK) (S : RS) (M : Mem) (xs : List D) (d : D) (a : Addr) (vs : List V), Inv X pins σ H s → Vals [.ref a] us → SR X.K L S M H → Rd H a (.lst vs) → Reps X.K L S xs vs → f xs = some d →
      (∀ v S' H', Step S H S' H' → SR X.K L S' M H' → Rep X.K L S' d v → Q v H') → wpAny (model X.prog X.w) X.A (call (bltId b) us) (EP X pins σ Q) X.xe s) : CallR X (bltId b) (rB X.K L (bltD b)) := by
  intro pins s σ H vs us Q I r h'
  obtain ⟨S, M, ds, d, sr, t, e, q⟩ := h'
  rcases h ds d e with ⟨xs, rfl, e'⟩ | z
  · obtain ⟨v, vr, rfl, t1, t2⟩ := tops1 t
    obtain rfl := tops0 t2
    obtain ⟨a, ws, rfl, h1, h2⟩ := t1
    exact k pins s σ H us Q S M xs d a ws I r sr h1 h2 e' q
  · exact z.elim
/-- tuple(list), the new tuple's object told -/
theorem call_tuple_kn : CallR X (.type "tuple") (fun xs H Q => ∃ p ys, xs = [.ref p] ∧ SqL X.K H p ys ∧ ∀ l o, H l = none → o.dict = none → Q (.ref l) (upd H l (.frz o (.tup ys)))) := by
  intro pins s σ H xs us Q I r h
  obtain ⟨p, ys, rfl, hs, q⟩ := h
  obtain ⟨v, rfl, rv0⟩ := vals1 r
  obtain rfl : v = .ref p := rv0
  obtain ⟨its, rv, pl, hz⟩ := I.list hs
  refine call_tuple_list pl.isList (fun h' hk => ?_) (by rw [List.size_toArray, ← rv.length]; exact hz)
  have I1 : Inv X pins σ H { s with heap := h' } := I.kept (t' := s.toks) hk
  have e : (h'.push { cls := .type "tuple", data := .seq its.toArray }).get? h'.objs.size = some { cls := .type "tuple", data := .seq its.toArray } := Heap.get?_push_size h' rfl
  have I2 : Inv X pins σ (upd H h'.objs.size (.frz { cls := .type "tuple", data := .seq its.toArray } (.tup ys))) { s with heap := h'.push { cls := .type "tuple", data := .seq its.toArray } } :=
    I1.laid (t' := s.toks) (fun b o e => Heap.get?_push_of_some _ e) (Nat.le_refl _) (show ObjOk X.prog X.w _ _ _ (.frz _ (.tup ys)) from ⟨e, hz, its, rv, IsTup.new _ _⟩)
  exact ⟨.ref h'.objs.size, _, I2, rfl, q _ _ (I1.hok.fresh (Nat.le_refl _)) rfl⟩
theorem rep_tupk {K : PySem.W.Frag} {S S' : RS} {p : Addr} {o : Obj} {xs : List D} {vs : List V} (le : Le S S') (h : S'.HF p = some (.frz o (.tup vs))) (hd : o.dict = none) (r : Reps K L S xs vs) : Rep K L S' (.tupk xs) (.ref p) := by
  rw [Rep]; exact ⟨p, vs, rfl, .inl ⟨o, h, hd⟩, r.mono le⟩
theorem bltR (hc : X.calm = true) (b : BI) : CallR X (bltId b) (rB X.K L (bltD b)) := by
  cases b with
  | len =>
    intro pins s σ H vs us Q I r h
    obtain ⟨S, M, ds, d, sr, t, e, q⟩ := h
    have key : ∃ x, ds = [x] := by
      unfold bltD at e
      split at e <;> first | exact ⟨_, rfl⟩ | (simp_all; done) | cases e
    obtain ⟨x, rfl⟩ := key
    obtain ⟨v, vr, rfl, t1, t2⟩ := tops1 t
    obtain rfl := tops0 t2
    cases x <;> simp only [bltD] at e <;> try (cases e; done)
    case tup xs =>
      cases e
      obtain ⟨a, ws, rfl, _, h1, rr⟩ := top_tup sr t1
      refine call_len pins s σ H _ us Q I r ⟨_, _, rfl, .inr ⟨ws, h1, rfl⟩, ?_⟩
      rw [rr.length]
      exact fin_pure sr q rep_int
    case lst xs =>
      cases e
      obtain ⟨a, ws, rfl, h1, rr⟩ := t1
      refine call_len pins s σ H _ us Q I r ⟨_, _, rfl, .inl ⟨ws, .inl h1, rfl⟩, ?_⟩
      rw [rr.length]
      exact fin_pure sr q rep_int
    case str z =>
      cases e
      obtain ⟨rfl, hz⟩ := top_str t1
      exact call_len pins s σ H _ us Q I r ⟨_, _, rfl, ⟨hz, rfl⟩, fin_pure sr q rep_int⟩
  | all =>
    refine blt_lst (f := fun xs => (blsOf xs).map fun bs => .bl (bs.all id)) .all (fun ds d e => ?_) fun pins s σ H us Q S M xs d a vs I r sr h1 h2 e q => ?_
    · unfold bltD at e
      split at e <;> first | exact .inl ⟨_, rfl, e⟩ | (simp_all; done) | cases e
    · cases e1 : blsOf xs with
      | none => simp only [e1] at e; cases e
      | some bs =>
        simp only [e1] at e
        cases e
        exact cr_all hc pins s σ H _ us Q I r ⟨a, bs, rfl, by rw [← bls_reps e1 h2]; exact .inl h1, fin_pure sr q rep_bl⟩
  | any =>
    refine blt_lst (f := fun xs => (blsOf xs).map fun bs => .bl (bs.any id)) .any (fun ds d e => ?_) fun pins s σ H us Q S M xs d a vs I r sr h1 h2 e q => ?_
    · unfold bltD at e
      split at e <;> first | exact .inl ⟨_, rfl, e⟩ | (simp_all; done) | cases e
    · cases e1 : blsOf xs with
      | none => simp only [e1] at e; cases e
      | some bs =>
        simp only [e1] at e
        cases e
        exact cr_any hc pins s σ H _ us Q I r ⟨a, bs, rfl, by rw [← bls_reps e1 h2]; exact .inl h1, fin_pure sr q rep_bl⟩
  | sum =>
    refine blt_lst (f := fun xs => (intsOf xs).map fun ns => .int ns.sum) .sum (fun ds d e => ?_) fun pins s σ H us Q S M xs d a vs I r sr h1 h2 e q => ?_
    · unfold bltD at e
      split at e <;> first | exact .inl ⟨_, rfl, e⟩ | (simp_all; done) | cases e
    · cases e1 : intsOf xs with
      | none => simp only [e1] at e; cases e
      | some bs =>
        simp only [e1] at e
        cases e
        exact cr_sum hc pins s σ H _ us Q I r ⟨a, bs, rfl, by rw [← ints_reps e1 h2]; exact .inl h1, fin_pure sr q rep_int⟩
  | max1 =>
    refine blt_lst (f := fun xs => match intsOf xs with | some (i :: r) => some (.int (maxI i r)) | _ => none) .max1 (fun ds d e => ?_) fun pins s σ H us Q S M xs d a vs I r sr h1 h2 e q => ?_
    · unfold bltD at e
      split at e <;> first | exact .inl ⟨_, rfl, e⟩ | (simp_all; done) | cases e
    · cases e1 : intsOf xs with
      | none => simp only [e1] at e; cases e
      | some bs =>
        cases bs with
        | nil => simp only [e1] at e; cases e
        | cons i bs =>
          simp only [e1] at e
          cases e
          refine cr_max hc pins s σ H _ us Q I r ⟨a, i :: bs, rfl, by rw [← ints_reps e1 h2]; exact .inl h1, by simp, fun m hm hle => ?_⟩
          have q1 := maxI_is bs i
          have em : m = maxI i bs := by
            have := hle _ q1.1
            have := q1.2 m hm
            omega
          rw [em]
          exact fin_pure sr q rep_int
  | min1 =>
    refine blt_lst (f := fun xs => match intsOf xs with | some (i :: r) => some (.int (minI i r)) | _ => none) .min1 (fun ds d e => ?_) fun pins s σ H us Q S M xs d a vs I r sr h1 h2 e q => ?_
    · unfold bltD at e
      split at e <;> first | exact .inl ⟨_, rfl, e⟩ | (simp_all; done) | cases e
    · cases e1 : intsOf xs with
      | none => simp only [e1] at e; cases e
      | some bs =>
        cases bs with
        | nil => simp only [e1] at e; cases e
        | cons i bs =>
          simp only [e1] at e
          cases e
          refine cr_min hc pins s σ H _ us Q I r ⟨a, i :: bs, rfl, by rw [← ints_reps e1 h2]; exact .inl h1, by simp, fun m hm hle => ?_⟩
          have q1 := minI_is bs i
          have em : m = minI i bs := by
            have := hle _ q1.1
            have := q1.2 m hm
            omega
          rw [em]
          exact fin_pure sr q rep_int
  | abs =>
    intro pins s σ H vs us Q I r h
    obtain ⟨S, M, ds, d, sr, t, e, q⟩ := h
    have key : ∃ i, ds = [.int i] ∧ d = .int (if i < 0 then -i else i) := by
      unfold bltD at e
      split at e <;> first | (cases e; exact ⟨_, rfl, rfl⟩) | (simp_all; done) | cases e
    obtain ⟨i, rfl, rfl⟩ := key
    obtain ⟨v, vr, rfl, t1, t2⟩ := tops1 t
    obtain rfl := tops0 t2
    obtain rfl := top_int t1
    exact call_abs pins s σ H _ us Q I r ⟨i, rfl, fin_pure sr q rep_int⟩
  | int =>
    intro pins s σ H vs us Q I r h
    obtain ⟨S, M, ds, d, sr, t, e, q⟩ := h
    have key : (∃ i, ds = [.int i] ∧ d = .int i) ∨ ∃ b, ds = [.bl b] ∧ d = .int (if b then 1 else 0) := by
      unfold bltD at e
      split at e <;> first | (cases e; exact .inl ⟨_, rfl, rfl⟩) | (cases e; exact .inr ⟨_, rfl, rfl⟩) | (simp_all; done) | cases e
    rcases key with ⟨i, rfl, rfl⟩ | ⟨b, rfl, rfl⟩
    · obtain ⟨v, vr, rfl, t1, t2⟩ := tops1 t
      obtain rfl := tops0 t2
      obtain rfl := top_int t1
      exact call_int1 pins s σ H _ us Q I r (.inl ⟨i, rfl, fin_pure sr q rep_int⟩)
    · obtain ⟨v, vr, rfl, t1, t2⟩ := tops1 t
      obtain rfl := tops0 t2
      obtain rfl := top_bl t1
      exact call_int1 pins s σ H _ us Q I r (.inr ⟨b, rfl, fin_pure sr q rep_int⟩)
  | max2 =>
    intro pins s σ H vs us Q I r h
    obtain ⟨S, M, ds, d, sr, t, e, q⟩ := h
    have key : ∃ i j, ds = [.int i, .int j] ∧ d = .int (if j > i then j else i) := by
      unfold bltD at e
      split at e <;> first | (cases e; exact ⟨_, _, rfl, rfl⟩) | (simp_all; done) | cases e
    obtain ⟨i, j, rfl, rfl⟩ := key
    obtain ⟨v, vr, rfl, t1, t2⟩ := tops1 t
    obtain ⟨v, vr, rfl, t3, t4⟩ := tops1 t2
    obtain rfl := tops0 t4
    obtain rfl := top_int t1
    obtain rfl := top_int t3
    exact call_max2 hc pins s σ H _ us Q I r ⟨i, j, rfl, fin_pure sr q rep_int⟩
  | min2 =>
    intro pins s σ H vs us Q I r h
    obtain ⟨S, M, ds, d, sr, t, e, q⟩ := h
    have key : ∃ i j, ds = [.int i, .int j] ∧ d = .int (if j < i then j else i) := by
      unfold bltD at e
      split at e <;> first | (cases e; exact ⟨_, _, rfl, rfl⟩) | (simp_all; done) | cases e
    obtain ⟨i, j, rfl, rfl⟩ := key
    obtain ⟨v, vr, rfl, t1, t2⟩ := tops1 t
    obtain ⟨v, vr, rfl, t3, t4⟩ := tops1 t2
    obtain rfl := tops0 t4
    obtain rfl := top_int t1
    obtain rfl := top_int t3
    exact call_min2 hc pins s σ H _ us Q I r ⟨i, j, rfl, fin_pure sr q rep_int⟩
  | tuple =>
    intro pins s σ H vs us Q I r h
    obtain ⟨S, M, ds, d, sr, t, e, q⟩ := h
    have key : ∃ xs, (ds = [.lst xs] ∨ ds = [.tup xs]) ∧ d = .tup xs := by
      unfold bltD at e
      split at e <;> first | (cases e; exact ⟨_, .inl rfl, rfl⟩) | (cases e; exact ⟨_, .inr rfl, rfl⟩) | (simp_all; done) | cases e
    obtain ⟨xs, key, rfl⟩ := key
    rcases key with rfl | rfl
    · obtain ⟨v, vr, rfl, t1, t2⟩ := tops1 t
      obtain rfl := tops0 t2
      obtain ⟨a, ws, rfl, h1, rr⟩ := t1
      exact call_tuple_of pins s σ H _ us Q I r ⟨a, ws, rfl, .inl ⟨.inl h1, fun p hp => fin_new sr q hp fun S' le h => rep_tup le h rr⟩⟩
    · obtain ⟨v, vr, rfl, t1, t2⟩ := tops1 t
      obtain rfl := tops0 t2
      have t0 := t1
      obtain ⟨a, ws, rfl, _, h1, rr⟩ := top_tup sr t1
      exact call_tuple_of pins s σ H _ us Q I r ⟨a, ws, rfl, .inr ⟨h1, fin_pure sr q t0⟩⟩
  | list =>
    intro pins s σ H vs us Q I r h
    obtain ⟨S, M, ds, d, sr, t, e, q⟩ := h
    have key : ∃ xs, (ds = [.lst xs] ∨ ds = [.tup xs]) ∧ d = .lst xs := by
      unfold bltD at e
      split at e <;> first | (cases e; exact ⟨_, .inl rfl, rfl⟩) | (cases e; exact ⟨_, .inr rfl, rfl⟩) | (simp_all; done) | cases e
    obtain ⟨xs, key, rfl⟩ := key
    rcases key with rfl | rfl
    · obtain ⟨v, vr, rfl, t1, t2⟩ := tops1 t
      obtain rfl := tops0 t2
      obtain ⟨a, ws, rfl, h1, rr⟩ := t1
      exact call_list_of pins s σ H _ us Q I r ⟨a, ws, rfl, .inl (.inl h1), fun p hp => fin_new sr q hp fun S' le h => rep_lst le h rr⟩
    · obtain ⟨v, vr, rfl, t1, t2⟩ := tops1 t
      obtain rfl := tops0 t2
      obtain ⟨a, ws, rfl, _, h1, rr⟩ := top_tup sr t1
      exact call_list_of pins s σ H _ us Q I r ⟨a, ws, rfl, .inr h1, fun p hp => fin_new sr q hp fun S' le h => rep_lst le h rr⟩
  | tuplek =>
    intro pins s σ H vs us Q I r h
    obtain ⟨S, M, ds, d, sr, t, e, q⟩ := h
    have key : ∃ xs, ds = [.lst xs] ∧ d = .tupk xs := by
      unfold bltD at e
      split at e <;> first | (cases e; exact ⟨_, rfl, rfl⟩) | (simp_all; done) | cases e
    obtain ⟨xs, rfl, rfl⟩ := key
    obtain ⟨v, vr, rfl, t1, t2⟩ := tops1 t
    obtain rfl := tops0 t2
    obtain ⟨a, ws, rfl, h1, rr⟩ := t1
    exact call_tuple_kn pins s σ H _ us Q I r ⟨a, ws, rfl, .inl h1, fun p o hp ho => fin_new sr q hp fun S' le h => rep_tupk le h ho rr⟩
end
end GW

set_option Elab.async false
set_option linter.all false
set_option autoImplicit false
set_option maxRecDepth 100000
set_option maxHeartbeats 4000000
/-! Slices, attributes, isinstance, calls. -/
namespace GW
open PySem PySem.Spec PyProof.Rows L2
def noStar : Expr → Bool
  | .Starred _ _ => false
  | _ => true
theorem star_cons {e : Expr} {es : List Expr} {env : PySem.Env} (h : noStar e = true) : starEach (e :: es) env = (false, eval e env) :: starEach es env := by
  cases e <;> first | rfl | exact absurd (show false = true from h) Bool.false_ne_true
theorem star_any {pos : Pos} {env : PySem.Env} : ∀ {es : List Expr}, es.all noStar = true → (backTo pos (starEach es env)).any (·.1) = false
  | [], _ => rfl
  | e :: es, h => by
    simp only [List.all_cons, Bool.and_eq_true] at h
    rw [star_cons h.1]
    show (false || (backTo pos (starEach es env)).any (·.1)) = false
    rw [star_any h.2]
    rfl
/-! ### t[::-1] of a tuple -/
section
variable {prog : Program} {w : World} {A : Around} {E : Value → Shared → Prop} {s : Shared}
theorem sliceApplied_rev {sl : Addr} {vl vu vk : Value} {n : Nat} {Q : Int × Int × Nat → Shared → Prop} (hs : s.heap.IsSliceOf sl vl vu vk) (pl : IsPart vl none) (pu : IsPart vu none) (pk : IsPart vk (some (-1)))
    (h : Q ((n : Int) - 1, -1, n) s) : wpAny (model prog w) A (Builtin.Slice.sliceApplied (.ref sl) (pure (n : Int))) Q E s := by
  obtain ⟨os, hos, hcs, hds⟩ := id hs
  unfold Builtin.Slice.sliceApplied Builtin.Slice.sliceFields
  refine wpAny_bind (wpAny_bind (wpAny_field hos hds (x := vl) rfl (wpAny_bind (wpAny_field hos hds (x := vu) rfl (wpAny_bind (wpAny_field hos hds (x := vk) rfl (wpAny_pure ?_)))))))
  refine wpAny_bind (HT.slicePart_ pk ?_)
  show wpAny _ _ (if ((-1 : Int) == 0) = true then _ else _) _ _ s
  rw [if_neg (by decide)]
  refine wpAny_bind (HT.slicePart_ pl (wpAny_bind (HT.slicePart_ pu (wpAny_bind (wpAny_pure ?_)))))
  have e : Builtin.Slice.sliceAdjust none none (-1) (n : Int) = ((n : Int) - 1, -1) := by
    unfold Builtin.Slice.sliceAdjust
    rfl
  have e2 : Builtin.Slice.slicePlaces ((n : Int) - 1) (-1) (-1) = n := by
    unfold Builtin.Slice.slicePlaces
    rw [if_neg (by decide)]
    by_cases hn : (n : Int) - 1 ≤ -1
    · have : n = 0 := by omega
      subst this
      rfl
    · simp only [Int.reduceNeg, Int.neg_neg, Int.ediv_one]
      split <;> omega
  show wpAny _ _ (match Builtin.Slice.sliceAdjust none none (-1) (n : Int) with | (lo, hi) => pure (lo, (-1 : Int), Builtin.Slice.slicePlaces lo hi (-1))) _ _ s
  rw [e]
  show wpAny _ _ (pure ((n : Int) - 1, (-1 : Int), Builtin.Slice.slicePlaces ((n : Int) - 1) (-1) (-1))) _ _ s
  rw [e2]
  exact wpAny_pure h
theorem fm_congr {α β : Type} {f g : α → Option β} : ∀ {l : List α}, (∀ m ∈ l, f m = g m) → l.filterMap f = l.filterMap g
  | [], _ => rfl
  | a :: l, h => by
    rw [List.filterMap_cons, List.filterMap_cons, h a List.mem_cons_self, fm_congr fun m hm => h m (List.mem_cons_of_mem _ hm)]
theorem pick_rev (xs : Array Value) : ((List.range xs.size).filterMap fun (m : Nat) => xs[((xs.size : Int) - 1 + (m : Int) * (-1)).toNat]?).toArray = xs.toList.reverse.toArray := by
  rw [← PySem.W.krv_pick]
  unfold slicePick
  rw [PySem.W.krv_bounds]
  dsimp only
  rw [PySem.W.krv_sliceRange, List.filterMap_map]
  congr 1
  apply fm_congr
  intro m hm
  have hm' : m < xs.size := List.mem_range.mp hm
  show xs[((xs.size : Int) - 1 + (m : Int) * (-1)).toNat]? = xs[xs.size - 1 - m]?
  congr 1
  omega
theorem getItem_tuple_rev {t sl : Addr} {items : Array Value} {vl vu vk : Value} {Q : Value → Shared → Prop} (ht : IsTup s.heap t items) (hs : s.heap.IsSliceOf sl vl vu vk) (pl : IsPart vl none) (pu : IsPart vu none) (pk : IsPart vk (some (-1)))
    (h : Q (.ref s.heap.objs.size) { s with heap := s.heap.push { cls := .type "tuple", data := .seq items.toList.reverse.toArray } })
    (hsz : items.size ≤ sizeLine) : wpAny (model prog w) A (getItem (.ref t) (.ref sl)) Q E s := by
  have htake : sizeOk (.seq items.toList.reverse.toArray) := by
    show items.toList.reverse.toArray.size ≤ sizeLine
    rw [List.size_toArray, List.length_reverse, Array.length_toList]
    exact hsz
  obtain ⟨os, hos, hcs, hds⟩ := id hs
  have hTs : s.TypeIs (.ref sl) "slice" := ⟨os, hos, hcs⟩
  unfold getItem
  try with_reducible refine wpAny_holding ?_
  first | refine wpAny_bind (wpAny_pure ?_) | skip
  refine wpAny_bind (wpAny_sequenceKey ht.typeIs (by decide) ?_)
  refine wpAny_bind (wpAny_callSpecial?_slot (name := Str.ofString "__getitem__") ht.typeIs PyProof.Rows.slot_tuple_getitem
    (wpAny_call_entry PyProof.Rows.slot_tuple_getitem ht.typeIs entry_tuple_getitem ?_ (args_tuple_getitem _ _)))
  show wpAny _ _ (Builtin.Tuple.tupleItemsOf (.ref t) >>= _) _ _ s
  refine wpAny_bind (tupleItemsOf_ ht ?_)
  refine wpAny_bind (wpAny_typeOf hTs ?_)
  rw [if_pos (by decide)]
  refine wpAny_bind (sliceApplied_rev hs pl pu pk ?_)
  have hno : ¬ ((((items.size : Int) - 1) == 0 && (-1 : Int) == 1 && items.size == items.size) = true) := by
    rw [show ((-1 : Int) == 1) = false from by decide]
    simp
  show wpAny _ _ (if ((((items.size : Int) - 1) == 0 && (-1 : Int) == 1 && items.size == items.size) = true) then _ else _) _ _ s
  rw [if_neg hno, pick_rev]
  first
    | exact wpAny_bind (m := Builtin.Tuple.tupleExact _) (wpAny_newObj_type (wpAny_pure ⟨_, rfl, wpAny_pure h⟩) htake)
    | exact wpAny_bind (m := Builtin.Tuple.tupleExact _) (wpAny_newObj_type (wpAny_bind (wpAny_pure (wpAny_pure ⟨_, rfl, wpAny_pure h⟩))) htake)
    | exact wpAny_bind (wpAny_bind (m := Builtin.Tuple.tupleExact _) (wpAny_newObj_type (wpAny_pure (wpAny_pure ⟨_, rfl, wpAny_pure h⟩)) htake))
    | exact wpAny_bind (wpAny_bind (m := Builtin.Tuple.tupleExact _) (wpAny_newObj_type (wpAny_pure ⟨_, rfl, wpAny_pure h⟩) htake))
end
section
variable {X : Cx}
/-- x[::-1] of a list or a tuple -/
def tRevA (K : PySem.W.Frag) (te : TE) : TE := fun σ H Q => te σ H fun x H1 => ∃ a xs, x = .ref a ∧ ((SqL K H1 a xs ∧ ∀ p, H1 p = none → Q (.ref p) (upd H1 p (.lst xs.reverse))) ∨ (SqT K H1 a xs ∧ ∀ p, H1 p = none → Q (.ref p) (upd H1 p (.tup xs.reverse))))
theorem pe_revA {e : Expr} {te : TE} {k : Nat} {p1 p2 p3 pos : Pos} (he : PE X e te) : PE X (.Subscript e (.Slice none none (some (.UnaryOp .USub (.Constant (.int 1) k p1) p2)) p3) pos) (tRevA X.K te) := by
  refine ⟨fun pins s σ H Q I h => ?_⟩
  refine Subscript_ (thn (he.run pins s σ H _ I h) fun v s1 ⟨x, H1, I1, r1, q1⟩ => ?_)
  obtain ⟨a, xs, ex, q⟩ := q1
  subst ex
  cases r1
  have hst : PO X (some (.UnaryOp .USub (.Constant (.int 1) k p1) p2)) (tPart (tUn (rU fun i => .int (-i)) (tC (.int 1)))) := po_some (pe_un un_neg pe_int)
  refine wpAny_Slice (thn (po_none.run pins s1 σ H1 (fun o H2 => o = none ∧ H2 = H1) I1 ⟨rfl, rfl⟩) fun vl s2 ⟨l, H2, I2, pl, el, e2⟩ => ?_)
  subst el e2
  refine thn (po_none.run pins s2 σ H2 (fun o H3 => o = none ∧ H3 = H2) I2 ⟨rfl, rfl⟩) fun vu s3 ⟨u, H3, I3, pu, eu, e3⟩ => ?_
  subst eu e3
  refine thn (hst.run pins s3 σ H3 (fun o H4 => o = some (-1) ∧ H4 = H3) I3 ⟨1, rfl, -1, rfl, rfl, rfl⟩) fun vs s4 ⟨o, H4, I4, ps, eo, e4⟩ => ?_
  subst eo e4
  have I5 : Inv X pins σ H4 { s4 with heap := s4.heap.push { cls := .type "slice", data := .fields #[vl, vu, vs] } } := I4.kept (t' := s4.toks) fun b ob q => Heap.get?_push_of_some _ q
  rcases q with ⟨hx, q⟩ | ⟨hx, q⟩
  · obtain ⟨its, r, ht, hz⟩ := I5.list hx
    have hlen := r.length
    show wpAny (model X.prog X.w) X.A (subscriptTail e (.Slice none none (some (.UnaryOp .USub (.Constant (.int 1) k p1) p2)) p3) (.ref a) (.ref s4.heap.objs.size)) (EP X pins σ Q) X.xe { s4 with heap := s4.heap.push { cls := .type "slice", data := .fields #[vl, vu, vs] } }
    refine tail_any (ops := [.ref a, .ref s4.heap.objs.size]) ht.isList.typeIs (PySem.slot_list_getitem.lookup) ?_ (by with_unfolding_all rfl)
    refine wpAny_getItem_list_slice ht.isList (Heap.IsSliceOf.new _ vl vu vs) pl pu ps (by decide) ?_ (by rw [List.size_toArray]; omega)
    rw [PySem.W.krv_pick]
    refine ⟨.ref _, _, I5.laid (t' := s4.toks) (o := .lst xs.reverse) (fun b ob q => Heap.get?_push_of_some _ q) (Nat.le_refl _) ?_, rfl, q _ (I5.hok.fresh (Nat.le_refl _))⟩
    exact ⟨by rw [List.length_reverse]; exact hz, _, 0, r.reverse, Heap.get?_push_size _ rfl⟩
  · obtain ⟨its, r, ht, hz⟩ := I5.tuple hx
    have hlen := r.length
    show wpAny (model X.prog X.w) X.A (subscriptTail e (.Slice none none (some (.UnaryOp .USub (.Constant (.int 1) k p1) p2)) p3) (.ref a) (.ref s4.heap.objs.size)) (EP X pins σ Q) X.xe { s4 with heap := s4.heap.push { cls := .type "slice", data := .fields #[vl, vu, vs] } }
    refine tail_any (ops := [.ref a, .ref s4.heap.objs.size]) ht.typeIs (PyProof.Rows.slot_tuple_getitem.lookup) ?_ (by with_unfolding_all rfl)
    refine getItem_tuple_rev ht (Heap.IsSliceOf.new _ vl vu vs) pl pu ps ?_ (by rw [List.size_toArray]; omega)
    refine ⟨.ref _, _, I5.laid (t' := s4.toks) (o := .tup xs.reverse) (fun b ob q => Heap.get?_push_of_some _ q) (Nat.le_refl _) ?_, rfl, q _ (I5.hok.fresh (Nat.le_refl _))⟩
    exact ⟨by rw [List.length_reverse]; exact hz, _, r.reverse, IsTup.new _ _⟩
end
section
variable {X : Cx} {Γ : Prog} {cf : Calls} {L : Link} {E : XK} {a b c e : Expr} {es : List Expr} {ca cb cc ce : CE} {cs : CEs} {pos : Pos}
theorem s_rev {k : Nat} {p1 p2 p3 : Pos} (ha : PE X a (tI Γ cf X.K L E ca)) : PE X (.Subscript a (.Slice none none (some (.UnaryOp .USub (.Constant (.int 1) k p1) p2)) p3) pos) (tI Γ cf X.K L E (.rev ca)) := by
  refine (pe_revA ha).imp fun σ H Q h => ?_
  obtain ⟨S, M, ρ, sr, er, h⟩ := h
  rw [evE] at h
  refine ⟨S, M, ρ, sr, er, h.bind.imp fun x M1 S1 H1 st1 sr1 h1 v rv => ?_⟩
  obtain ⟨d, e, h2⟩ := h1.of sr1
  have t := rv.rd sr1
  cases e1 : rd M1 x <;> rw [e1] at e t <;> simp only [revD] at e <;> try (cases e; done)
  case tup xs =>
    cases e
    obtain ⟨p, vs, rfl, _, q, r⟩ := top_tup sr1 t
    refine ⟨p, vs, rfl, .inr ⟨q, fun l hl => ?_⟩⟩
    obtain ⟨sr', st⟩ := sr1.newF (o := .tup vs.reverse) hl
    exact h2 _ _ st sr' _ (rep_tup st.le upd_same r.reverse)
  case lst xs =>
    cases e
    obtain ⟨p, vs, rfl, q, r⟩ := t
    refine ⟨p, vs, rfl, .inl ⟨.inl q, fun l hl => ?_⟩⟩
    obtain ⟨sr', st⟩ := sr1.newF (o := .lst vs.reverse) hl
    exact h2 _ _ st sr' _ (rep_lst st.le upd_same r.reverse)
/-! ### slices -/
def tPO (Γ : Prog) (cf : Calls) (K : PySem.W.Frag) (L : Link) (E : XK) (c : CO) : TO := fun σ H Q => ∃ S M ρ, SR K L S M H ∧ EnvR K L S ρ σ ∧ Fin K L S H E ((evO Γ cf c ρ M).bind fun l M2 => Out.of (partI l) M2) (fun i _ _ H' => Q i H')
theorem s_pno : PO X none (tPO Γ cf X.K L E .no) := ⟨fun pins s σ H Q I ⟨S, M, ρ, sr, er, h⟩ => po_none.run pins s σ H Q I (by
  rw [evO] at h
  exact Fin.now sr h)⟩
theorem s_pyes (ha : PE X a (tI Γ cf X.K L E ca)) : PO X (some a) (tPO Γ cf X.K L E (.yes ca)) := ⟨fun pins s σ H Q I ⟨S, M, ρ, sr, er, h⟩ => (po_some ha).run pins s σ H Q I (by
  rw [evO] at h
  refine ⟨S, M, ρ, sr, er, h.bind.bind.imp fun x M1 S1 H1 st1 sr1 h1 v rv => ?_⟩
  obtain ⟨i, e, q⟩ := Fin.of sr1 (Fin.now sr1 h1)
  cases x <;> simp only [partI] at e <;> try (cases e; done)
  cases e
  rw [Rep] at rv
  exact ⟨_, rv, q S1 H1 (.refl _ _) sr1⟩)⟩
theorem s_slc {lo hi : Option Expr} {cl ch : CO} {p2 : Pos} (ha : PE X a (tI Γ cf X.K L E ca)) (hl : PO X lo (tPO Γ cf X.K L E cl)) (hh : PO X hi (tPO Γ cf X.K L E ch)) : PE X (.Subscript a (.Slice lo hi none p2) pos) (tI Γ cf X.K L E (.slc ca cl ch)) := by
  refine (pe_slice (slR (L := L)) ha hl hh).imp fun σ H Q h => ?_
  obtain ⟨S, M, ρ, sr, er, h⟩ := h
  rw [evE] at h
  refine ⟨S, M, ρ, sr, er, h.bind.imp fun x M1 S1 H1 st1 sr1 h1 v rv => ⟨S1, M1, ρ, sr1, er.mono st1.le, h1.bind.imp fun l M2 S2 H2 st2 sr2 h2 => ⟨S2, M2, ρ, sr2, (er.mono st1.le).mono st2.le, h2.bind.imp fun u M3 S3 H3 st3 sr3 h3 => ?_⟩⟩⟩
  obtain ⟨d, e, h4⟩ := h3.of sr3
  exact ⟨S3, M3, _, d, sr3, (rv.mono (st2.le.trans st3.le)).rd sr3, e, fun w S' H' st sr' r => h4 S' H' st sr' w r⟩
end
end GW

set_option Elab.async false
set_option linter.all false
set_option autoImplicit false
set_option maxRecDepth 100000
set_option maxHeartbeats 4000000
/-! An exception of a class of the program: class E(B) with B(ValueError) in between, __init__ by super().__init__('..') and fields. -/
namespace GW
open PySem PySem.Spec PyProof.Rows L2
/-- self.f = f, one after another -/
def storesOf : List Stmt → Option (List Str)
  | [] => some []
  | .Assign [.Attribute (.Name s _) f _] (.Name p _) _ :: r => if s = ("self" : Str) ∧ p = f then (storesOf r).map (f :: ·) else none
  | _ => none
def initOf : List Stmt → Option (List Str)
  | .Expr (.Call (.Attribute (.Call (.Name s _) [] [] _) i p2) [.Constant (.str m) _ _] [] p4) _ :: r => if s = ("super" : Str) ∧ i = ("__init__" : Str) ∧ (p2.endLine == p4.line) = true then storesOf r else none
  | _ => none
def initScope (sc : Scope) (fs : List Str) : Bool :=
  decide (sc.kind = .function) && !sc.isCoroutine && !sc.isGenerator && decide (sc.names.lookup ("super" : Str) = some .globalImplicit) && decide (sc.names.lookup ("__class__" : Str) = some .free) && decide (sc.names.lookup ("self" : Str) = some .local) &&
    (fs.all fun f => decide (sc.names.lookup f = some .local)) && sc.names.all fun y => !decide (y.2 = .cell)
/-- what the written part says of the class at C, its __init__ at fI -/
structure InitK (prog : Program) (K : PySem.W.Frag) (C fI : Addr) (fs : List Str) : Prop where
  ox : OexC K C
  fn : ∃ (name qual : Str) (params : Arguments) (body : List Stmt) (scope : Scope) (kV doc pm ct oc : Value) (an od : Option Addr) (osl : Array (Option Value)) (cda cc : Addr),
    K.lookup fI = some ⟨oc, od, .func (PySem.W.ksFn name qual params body scope .none kV doc pm an (.ref cda) ct cc), osl⟩ ∧ PySem.W.codeIn K (.ref cda) qual = true ∧
    (∃ (o1 : Value) (o2 : Option Addr) (vs : Array Value) (o3 : Array (Option Value)) (file : Str) (tf : Tok), K.lookup cda = some ⟨o1, o2, .fields vs, o3⟩ ∧ vs[2]? = some (.str file tf) ∧ ((prog.main.file : Str) == file) = true) ∧
    (∃ (o1 : Value) (o2 : Option Addr) (o3 : Array (Option Value)), K.lookup cc = some ⟨o1, o2, .cell (some (.ref C)), o3⟩) ∧ initOf body = some fs ∧ initScope scope fs = true ∧
    (params.posonlyargs ++ params.args).head?.map (·.arg) = some ("self" : Str) ∧
    ∀ us : List Value, us.length = fs.length + 1 → bindArgs (PySem.W.ksFn name qual params body scope .none kV doc pm an (.ref cda) ct cc) ⟨us, []⟩ = pure ((("self" : Str) :: fs).zip us)
  nd : (("self" : Str) :: fs).Nodup
  top : (prog.main.scope.names.lookup ("super" : Str)).isSome = false
  iC : PySem.W.findIn K (.ref C) "__init__" = some (some (.ref fI))
  tI : PySem.W.typeIn K (.ref fI) = some (.type "function")
  sup : PySem.W.ks_superIn K C C "__init__" = some (some (.builtin "ValueError.__init__"))
  sub : PySem.W.subIn K (.ref C) (.type "ValueError") = some true
  mro : PySem.W.mroIn K C (.ref C) = some true
  thi : PySem.W.nsIn K cStatics "thirdparty.any" = some none
  nof : ∀ f ∈ fs, PySem.W.findIn K (.ref C) f = some none
  dbg : ∀ f ∈ fs, (f == ("__debug__" : Str)) = false
  few : fs.length ≤ 900
  noK : True
abbrev excD (C t : Addr) (dv : Option Addr) : Obj := { cls := .ref C, dict := dv, data := .fields #[.ref t, .none, .none, .none, .bool false, .none] }
/-- what stands in the exception's dict -/
def putM : List (Str × Value) → (Str → Option Value)
  | [] => fun _ => none
  | (f, v) :: r => fun y => if y = f then some v else putM r y
section
variable {prog : Program} {w : World} {K : PySem.W.Frag} {C fI a : Addr} {fs : List Str} {A : Around} {mg : Str → Option Value}
theorem within_putM : ∀ done : List (Str × Value), Within (putM done) (done.map (·.1))
  | [], y, h => absurd rfl h
  | (f, v) :: r, y, h => by
    by_cases e : y = f
    · rw [e]
      exact List.mem_cons_self ..
    · refine List.mem_cons_of_mem _ (within_putM r y ?_)
      intro z
      apply h
      show (if y = f then some v else putM r y) = none
      rw [if_neg e]
      exact z
/-- the stores -/
theorem raw_stores (ox : OexC K C) {env : PySem.Env} {m : Str → Option Value} (hk : env.scope.kind = .function) (hself : env.kindOf ("self" : Str) = some .local) (hms : m ("self" : Str) = some (.ref a)) {E : Value → Shared → Prop} {Q : Flow → Shared → Prop} {h0 : Heap} {t1 : Addr} (hLa : env.locals ≠ a) {g0 : Array GenState} {o0 : OsState} {d0 : Drawn} :
    ∀ (body : List Stmt) (fs : List Str) (us : List Value) (done : List (Str × Value)) (dv : Option Addr) (h : Heap) (tk : Nat), storesOf body = some fs → (∀ f ∈ fs, env.kindOf f = some .local ∧ PySem.W.findIn K (.ref C) f = some none ∧ (f == ("__debug__" : Str)) = false) → fs.length = us.length → (∀ (i : Nat) (f : Str) (u : Value), fs[i]? = some f → us[i]? = some u → m f = some u) →
      K.In h → h.Ns env.locals m → h.get? a = some (excD C t1 dv) → ((done = [] ∧ dv = none) ∨ ∃ dx, dv = some dx ∧ dx ≠ a ∧ dx ≠ env.locals ∧ h0.get? dx = none ∧ K.lookup dx = none ∧ h.Ns1 dx (putM done) ∧ done ≠ []) → done.length + fs.length ≤ 900 → K.In h0 → K.lookup a = none → (∀ b o, b ≠ a → h0.get? b = some o → h.get? b = some o) →
      (∀ h' tk' dv', h'.get? a = some (excD C t1 dv') → (((fs.zip us).reverse ++ done = [] ∧ dv' = none) ∨ ∃ dx, dv' = some dx ∧ dx ≠ a ∧ h0.get? dx = none ∧ h'.Ns1 dx (putM ((fs.zip us).reverse ++ done)) ∧ (fs.zip us).reverse ++ done ≠ []) → (∀ b o, b ≠ a → h0.get? b = some o → h'.get? b = some o) → Q .next ⟨h', g0, d0, tk', o0⟩) →
      wpAny (model prog w) A (execs body env) Q E ⟨h, g0, d0, tk, o0⟩
  | [], fs, us, done, dv, h, tk, hb, hf, hl, hm, KX, hN, ha, hd, hn, K0, Ka, hk0, hq => by
    simp only [storesOf, Option.some.injEq] at hb
    subst hb
    have hu : us = [] := List.length_eq_zero_iff.mp hl.symm
    subst hu
    refine wpAny_execs_nil (hq h tk dv ha ?_ hk0)
    rcases hd with ⟨rfl, rfl⟩ | ⟨dx, rfl, h1, h2, h3, _, h4, h6⟩
    · exact .inl ⟨rfl, rfl⟩
    · exact .inr ⟨dx, rfl, h1, h3, h4, h6⟩
  | st :: body, fs, us, done, dv, h, tk, hb, hf, hl, hm, KX, hN, ha, hd, hn, K0, Ka, hk0, hq => by
    unfold storesOf at hb
    split at hb
    · rename_i z; cases z
    · rename_i s p1 f p2 p p3 p4 r z
      cases z
      split at hb
      · rename_i hsp
        obtain ⟨rfl, rfl⟩ := hsp
        rw [Option.map_eq_some_iff] at hb
        obtain ⟨fr, hb, rfl⟩ := hb
        match us, hl, hm, hq with
        | u :: us, hl, hm, hq =>
        obtain ⟨kl, ho, hdb⟩ := hf p (List.mem_cons_self ..)
        have hmp : m p = some u := hm 0 p u rfl rfl
        obtain ⟨nm, q, N, bs, bm, sn, sub, ab, col, dd, k0, k1, k2, k3, k5, hC, hbm⟩ := ox.cls
        have hcl : PySem.W.clsIn K C = some { name := nm, bases := bs, mro := .ref C :: bm, ns := N, qualname := q, hasDict := true, slotNames := sn, subclasses := sub, abstract := ab, collection := col, hasDel := false } := by unfold PySem.W.clsIn; rw [hC] <;> rfl
        have rest : ∀ (h1 : Heap) (tk1 : Nat) (dx : Addr), K.In h1 → h1.Ns env.locals m → h1.get? a = some (excD C t1 (some dx)) → dx ≠ a → dx ≠ env.locals → h0.get? dx = none → K.lookup dx = none → h1.Ns1 dx (putM ((p, u) :: done)) → (∀ b o, b ≠ a → h0.get? b = some o → h1.get? b = some o) → wpAny (model prog w) A (execs body env) Q E ⟨h1, g0, d0, tk1, o0⟩ := fun h1 tk1 dx KX1 N1 a1 n1 n2 n3 n5 n4 k1 =>
          raw_stores ox hk hself hms hLa body fr us ((p, u) :: done) (some dx) h1 tk1 hb (fun f hf' => hf f (List.mem_cons_of_mem _ hf')) (by simpa using hl) (fun i f u e1 e2 => hm (i + 1) f u e1 e2) KX1 N1 a1 (.inr ⟨dx, rfl, n1, n2, n3, n5, n4, List.cons_ne_nil _ _⟩) (by simp at hn ⊢; omega) K0 Ka k1
            (fun h' tk' dv' x1 x2 x3 => hq h' tk' dv' x1 (by simpa using x2) x3)
        have KN : ∀ (h1 : Heap), (∀ b o, b ≠ a → K.lookup b = some o → h1.get? b = some o) → K.In h1 := fun h1 k b o e => k b o (fun z => by rw [z, Ka] at e; cases e) e
        refine wpAny_execs_cons (plainObj_wpAny_Assign_Attribute (wpAny_Name (wpAny_loadName_local hk kl hN hmp ?_) hdb))
        refine wpAny_Name (wpAny_loadName_local hk hself hN hms ?_)
        rcases hd with ⟨rfl, rfl⟩ | ⟨dx, rfl, h1, h2, h3, h5, h4, h6⟩
        · refine PySem.W.set_plain KX (ox := excD C t1 none) (od := none) ⟨ha, rfl, rfl, trivial⟩ ox.sa ?_
          refine PySem.HandSPX.exc_osa KX ha hcl (show PySem.HandSPX.refsVE (.ref C :: bm) = true from hbm) rfl ho (fun h' tk' dx k dn dne hx hn' => ?_)
          have hd0 : h0.get? dx = none := by
            cases e : h0.get? dx with
            | none => rfl
            | some o => exact absurd (Heap.lt_size (hk0 dx o dne e)) (Nat.not_lt.mpr dn)
          obtain ⟨oL, es, ep, gL, rL⟩ := hN
          refine rest h' tk' dx (KN h' fun b o hb e => k b o hb (KX b o e)) ⟨oL, es, ep, k _ _ hLa gL, rL⟩ hx dne (fun z => ?_) hd0 ?_ hn' (fun b o hb e => k b o hb (hk0 b o hb e))
          · exact absurd (Heap.lt_size gL) (Nat.not_lt.mpr (by rw [← z]; exact dn))
          · cases e : K.lookup dx with
            | none => rfl
            | some o => exact absurd (Heap.lt_size (KX dx o e)) (Nat.not_lt.mpr dn)
        · have hw := within_putM done
          obtain ⟨oD, _, _, hoD, _, _⟩ := h4.count hw
          refine PySem.W.set_plain KX (ox := excD C t1 (some dx)) (od := some oD) ⟨ha, rfl, rfl, hoD⟩ ox.sa ?_
          refine PySem.OEX.osa_old KX ha h4 hw (by rw [List.length_map]; simp at hn; omega) hcl (show PySem.HandSPX.refsVE (.ref C :: bm) = true from hbm) rfl ho (fun h' tk' k hn' => ?_)
          obtain ⟨oL, es, ep, gL, rL⟩ := hN
          refine rest h' tk' dx (KN h' fun b o hb e => k b o (fun z => by rw [z, h5] at e; cases e) (KX b o e)) ⟨oL, es, ep, k _ _ (Ne.symm h2) gL, rL⟩ (k _ _ (Ne.symm h1) ha) h1 h2 h3 h5 hn' (fun b o hb e => k b o (fun z => by rw [z, h3] at e; cases e) (hk0 b o hb e))
      · cases hb
    · cases hb
theorem initOf_some {body : List Stmt} {fs : List Str} (h : initOf body = some fs) : ∃ (p0 p1 p2 p3 p4 p5 : Pos) (k : Nat) (msg : Str) (rest : List Stmt), body = .Expr (.Call (.Attribute (.Call (.Name "super" p0) [] [] p1) "__init__" p2) [.Constant (.str msg) k p3] [] p4) p5 :: rest ∧ (p2.endLine == p4.line) = true ∧ storesOf rest = some fs := by
  unfold initOf at h
  split at h
  · split at h
    · rename_i z
      obtain ⟨rfl, rfl, z⟩ := z
      exact ⟨_, _, _, _, _, _, _, _, _, rfl, z, h⟩
    · cases h
  · cases h
/-- super().__init__(..), looked at whole -/
theorem sup_ht {msg : Str} {k : Nat} {p0 p1 p2 p3 p4 : Pos} {env : PySem.Env} (hl : (p2.endLine == p4.line) = true) : ∃ pl : Sem Bool, eval (.Call (.Attribute (.Call (.Name "super" p0) [] [] p1) "__init__" p2) [.Constant (.str msg) k p3] [] p4) env = (do
      let ov ← attributeBase (.Call (.Name "super" p0) [] [] p1) "__init__" env (eval (.Call (.Name "super" p0) [] [] p1) env)
      standAt p2.atName
      let (f, first) ← holding [ov] (getMethod ov "__init__" pl)
      callWith p4 f first (backTo p4 (starEach [.Constant (.str msg) k p3] env)) []) := by
  refine ⟨(do return (← importBound (.Call (.Name "super" p0) [] [] p1) env).getD true), ?_⟩
  have e1 : eval (.Call (.Attribute (.Call (.Name "super" p0) [] [] p1) "__init__" p2) [.Constant (.str msg) k p3] [] p4) env = (do
      let ov ← attributeBase (.Call (.Name "super" p0) [] [] p1) "__init__" env (eval (.Call (.Name "super" p0) [] [] p1) env)
      standAt p2.atName
      methodCall (.Call (.Name "super" p0) [] [] p1) "__init__" p2 p4 env ov 1 (backTo p4 (starEach [.Constant (.str msg) k p3] env)) []) := rfl
  rw [e1]
  unfold methodCall
  have hf : methodCallForm 1 (backTo p4 (starEach [.Constant (.str msg) k p3] env)) [] = true := rfl
  rw [hf]
  have e2 : methodCallPos true (.Call (.Name "super" p0) [] [] p1) env p2 p4 = pure p4 := by
    unfold methodCallPos
    rw [hl]
    rfl
  rw [e2]
  rfl
theorem raw_init {h : Heap} {g0 : Array GenState} {o0 : OsState} {d0 : Drawn} {tk : Nat} {t0 : Addr} {us : List Value} {R : Result → Shared → Prop} (IK : InitK prog K C fI fs) (KX : K.In h) (Ka : K.lookup a = none) (nl : h.NoLimit) (hroom : A.depth < recursionLimit) (hg : h.Ns mainGlobals mg) (hms : mg ("super" : Str) = none)
    (hb : ∃ mb, h.Ns builtinsNs mb ∧ ∀ x : Str, x ≠ "__name__" → mb x = bootBuiltins x) (he : h.get? a = some (PySem.HandSPX.excO C t0)) (hl : us.length = fs.length) (hf9 : fs.length ≤ 900) (hdb : ∀ f ∈ fs, (f == ("__debug__" : Str)) = false)
    (hq : ∀ h' tk' t1 dv, h'.get? a = some (excD C t1 dv) → ((fs = [] ∧ dv = none) ∨ ∃ dx, dv = some dx ∧ dx ≠ a ∧ h.get? dx = none ∧ h'.Ns1 dx (putM (fs.zip us).reverse) ∧ fs ≠ []) → (∀ b o, b ≠ a → h.get? b = some o → h'.get? b = some o) → R (.ok (.ret .none)) ⟨h', g0, d0, tk', o0⟩) :
    codeAny (model prog w) A (.call (.ref fI) ⟨.ref a :: us, []⟩) R ⟨h, g0, d0, tk, o0⟩ := by
  obtain ⟨name, qual, params, body, scope, kV, doc, pm, ct, oc, an, od, osl, cda, cc, lk, hcd, ⟨o1, o2, vs, o3, file, tf, hcode, hvs, hfile⟩, ⟨c1, c2, c3, hcell⟩, hbody, hsc, hpar, hbind⟩ := IK.fn
  obtain ⟨p0, p1, p2, p3, p4, p5, k, msg, rest, rfl, hpl, hst⟩ := initOf_some hbody
  unfold initScope at hsc
  simp only [Bool.and_eq_true, Bool.not_eq_true', decide_eq_true_eq, List.all_eq_true, decide_eq_false_iff_not] at hsc
  obtain ⟨⟨⟨⟨⟨⟨⟨s1, s2⟩, s3⟩, s4⟩, s5⟩, s6⟩, s7⟩, s8⟩ := hsc
  obtain ⟨nm, q, N, bs, bm, sn, sub, ab, col, dd, k0, k1, k2, k3, k5, hC, hbm⟩ := IK.ox.cls
  have hcl : PySem.W.clsIn K C = some { name := nm, bases := bs, mro := .ref C :: bm, ns := N, qualname := q, hasDict := true, slotNames := sn, subclasses := sub, abstract := ab, collection := col, hasDel := false } := by unfold PySem.W.clsIn; rw [hC] <;> rfl
  have hlen : (Value.ref a :: us).length = (("self" : Str) :: fs).length := by simp [hl]
  refine ks_codeAny_call_defAt (fd := PySem.W.ksFn name qual params _ scope .none kV doc pm an (.ref cda) ct cc) (binds := (("self" : Str) :: fs).zip (.ref a :: us)) hroom (KX _ _ lk) rfl nl (PySem.W.codeRec_of KX hcd) rfl (BindsTo.of_eq (hbind (.ref a :: us) (by simp [hl]))) (fun x hx e => by
    have := s8 x hx
    rw [e] at this
    exact absurd rfl this) (fun x hx => ?_) (fun h1 hn1 hk1 => ?_) s2 s3 s1
  · have hm : x.1 ∈ (("self" : Str) :: fs) := (List.of_mem_zip (show (x.1, x.2) ∈ _ from hx)).1
    rcases List.mem_cons.mp hm with e | e
    · rw [e]; exact s6
    · exact s7 x.1 e
  have e1 := hk1 _ _ he
  have K1 : K.In h1 := fun b o e => hk1 b o (KX b o e)
  have hls : h.objs.size ≠ a := Nat.ne_of_gt (Heap.lt_size he)
  have hbinds : ∀ (l : List (Str × Value)) (x : Str) (v : Value), (l.map (·.1)).Nodup → (x, v) ∈ l → l.reverse.lookup x = some v := by
    intro l x v hnd hmem
    have hnd2 : (l.reverse.map (·.1)).Nodup := by rw [List.map_reverse]; exact List.pairwise_reverse.mpr (hnd.imp Ne.symm)
    have hmem2 : (x, v) ∈ l.reverse := List.mem_reverse.mpr hmem
    generalize l.reverse = l2 at hnd2 hmem2
    induction l2 with
    | nil => cases hmem2
    | cons y l2 ih =>
      obtain ⟨y1, y2⟩ := y
      rw [List.map_cons, List.nodup_cons] at hnd2
      rcases List.mem_cons.mp hmem2 with e | e
      · cases e
        rw [List.lookup_cons_self]
      · rw [List.lookup_cons]
        have : (x == y1) = false := by
          rw [beq_eq_false_iff_ne]
          intro z
          subst z
          exact hnd2.1 (List.mem_map_of_mem (f := (·.1)) e)
        rw [this]
        exact ih hnd2.2 e
  have hzn : (((("self" : Str) :: fs).zip (Value.ref a :: us)).map (·.1)).Nodup := by
    rw [List.map_fst_zip (by rw [hlen]; exact Nat.le_refl _)]
    exact IK.nd
  have mself : ((("self" : Str) :: fs).zip (Value.ref a :: us)).reverse.lookup ("self" : Str) = some (.ref a) := hbinds _ _ _ hzn (by rw [List.zip_cons_cons]; exact List.mem_cons_self ..)
  have hint : interactive (callEnv (PySem.W.ksFn name qual params (.Expr (.Call (.Attribute (.Call (.Name "super" p0) [] [] p1) "__init__" p2) [.Constant (.str msg) k p3] [] p4) p5 :: rest) scope .none kV doc pm an (.ref cda) ct cc) h.objs.size fI) = false := by
    unfold interactive
    show (scope.kind == .module && _) = false
    rw [s1]
    rfl
  refine ks_wpAt_execs_cons (ks_wpAt_Expr_any ?_ hint rfl)
  obtain ⟨pl, hpl2⟩ := sup_ht (msg := msg) (k := k) (p0 := p0) (p1 := p1) (p2 := p2) (p3 := p3) (p4 := p4) (env := callEnv (PySem.W.ksFn name qual params (.Expr (.Call (.Attribute (.Call (.Name "super" p0) [] [] p1) "__init__" p2) [.Constant (.str msg) k p3] [] p4) p5 :: rest) scope .none kV doc pm an (.ref cda) ct cc) h.objs.size fI) hpl
  refine ks_wpAt_MethodCall (pl := pl) ?_ hpl2
  obtain ⟨oD, hD1, hD2⟩ : ∃ oD, h1.get? C = some oD ∧ oD.data = .cls { name := nm, bases := bs, mro := .ref C :: bm, ns := N, qualname := q, hasDict := true, slotNames := sn, subclasses := sub, abstract := ab, collection := col, hasDel := false } := ⟨_, K1 _ _ hC, rfl⟩
  obtain ⟨ar, har, har2⟩ := Option.map_eq_some_iff.mp hpar
  obtain ⟨mb, hb1, hb2⟩ := hb
  have Iat : PySem.W.InstAt h1 a (PySem.HandSPX.excO C t0) C none := ⟨e1, rfl, rfl, trivial⟩
  refine ks_wpAt_super_base s4 s5 (by decide) rfl (K1 _ _ lk) rfl har rfl (K1 _ _ hcode) rfl hvs hfile IK.top ?_
  refine PySem.W.ks_loadName_global s1 s4 (Calls.loadGlobal_builtin (hg.keeps hk1) hms (hb1.keeps hk1) ((hb2 _ (by decide)).trans (by decide +kernel)) ⟨rfl, ?_⟩)
  refine wpAny_loadName_free s1 s5 rfl ⟨_, K1 _ _ hcell, rfl⟩ ?_
  rw [har2]
  refine wpAny_loadName_local s1 s6 hn1 mself ?_
  refine ks_wpAny_isType_cls hD1 hD2 ⟨rfl, ?_⟩
  refine ks_wpAny_call_super hD1 hD2 e1 rfl (fun c z => nomatch z) (PySem.W.looks_mroIn K1 IK.mro) (fun h2 hso hk2 => ?_)
  have K2 : K.In h2 := fun b o e => hk2 b o (K1 b o e)
  have e2 := hk2 _ _ e1
  have I2 : PySem.W.InstAt h2 a (PySem.HandSPX.excO C t0) C none := ⟨e2, rfl, rfl, trivial⟩
  have hal : PySem.W.alongIn K "__init__" (((Value.ref C :: bm).dropWhile (· != .ref C)).drop 1) = some (some (.builtin "ValueError.__init__")) := by
    have := IK.sup
    unfold PySem.W.ks_superIn at this
    rw [hcl] at this
    exact this
  refine PySem.W.kxs_getMethod PySem.W.kxs_ValueError hso (PySem.W.looks_opaque K2 IK.thi) (l₀ := .ref C :: bm) ?_ rfl K2 hal (I2.type.andThen (PySem.W.looks_subIn K2 IK.sub)) (PySem.W.ks_ne K2 I2 hcl) (by decide) ?_
  · exact fun A Q E s k q => wpAny_bind ((PySem.W.looks_clsIn K2 hcl) A _ E s k (wpAny_pure q))
  generalize hh3 : h2.push (PySem.W.kxs_mw "ValueError.__init__" a) = h3
  have hu3 : h3.get? h2.objs.size = some (PySem.W.kxs_mw "ValueError.__init__" a) := by rw [← hh3]; exact Heap.get?_push_at rfl rfl
  have hk3 : ∀ b o, h2.get? b = some o → h3.get? b = some o := fun b o e => by rw [← hh3]; exact Heap.get?_push_of_some _ e
  refine PySem.W.kxs_callWith (i := "ValueError.__init__") (x := a) rfl (Calls.evalArgs_plain (x := eval (.Constant (.str msg) k p3) _) (rest := []) (Calls.spliced_cons (Calls.Constant_str (Calls.spliced_nil ⟨hu3, ?_⟩))))
  have e3 := hk3 _ _ e2
  have K3 : K.In h3 := fun b o e => hk3 b o (K2 b o e)
  refine wpAny_call (codeAny_of_tree ?_)
  show wpAny _ _ (callAny (.ref h2.objs.size) ⟨_, []⟩) _ _ _
  simp only [callAny]
  refine wpAny_bind (wpAny_load hu3 ?_)
  simp only [PySem.W.kxs_mw, show (Value.type "method-wrapper" == Value.type "method" || Value.type "method-wrapper" == Value.type "builtin_function_or_method" || Value.type "method-wrapper" == Value.type "method-wrapper") = true by decide, if_true]
  refine PySem.W.KFB.if_so (by decide) ?_
  refine wpAny_bind (PySem.W.check_bound_init F.excBase_ValueError.toExcCallFacts (K3 _ _ hC) e3 rfl ?_)
  refine wpAny_bind (wpAny_pure (wpAny_pure ?_))
  refine ⟨plainId_quiet F.excBase_ValueError.init.plain _, codeAny_builtin F.excBase_ValueError.initEntry ?_⟩
  refine PySem.W.exc_init_tree (cls := .ref C) (t0 := t0) (dv := none) (c2 := .none) (c3 := .none) (b4 := .bool false) e3 (by simp; decide) (fun h4 hk4 e4 _ => ?_)
  -- the fields
  obtain ⟨oL, es, ep, gL, rL⟩ := hn1
  have hk14 : ∀ b o, b ≠ a → h1.get? b = some o → h4.get? b = some o := fun b o hb e => hk4 b o hb (hk3 _ _ (hk2 _ _ e))
  have hk04 : ∀ b o, b ≠ a → h.get? b = some o → h4.get? b = some o := fun b o hb e => hk14 b o hb (hk1 b o e)
  refine wpAt_of_wpAny (raw_stores (env := callEnv (PySem.W.ksFn name qual params (.Expr (.Call (.Attribute (.Call (.Name "super" p0) [] [] p1) "__init__" p2) [.Constant (.str msg) k p3] [] p4) p5 :: rest) scope .none kV doc pm an (.ref cda) ct cc) h.objs.size fI) (h0 := h) (a := a) (C := C) IK.ox s1 s6 mself hls rest fs us [] none h4 _ hst (fun f hf => ⟨s7 f hf, IK.nof f hf, hdb f hf⟩) hl.symm (fun i f u x1 x2 => ?_) (fun b o e => hk4 b o (fun z => by rw [z, Ka] at e; cases e) (K3 b o e)) ⟨oL, es, ep, hk14 _ _ hls gL, rL⟩ e4 (.inl ⟨rfl, rfl⟩) (by simpa using hf9) KX Ka hk04 (fun h' tk' dv' x1 x2 x3 => ?_))
  · refine hbinds _ _ _ hzn ?_
    rw [List.zip_cons_cons]
    refine List.mem_cons_of_mem _ ?_
    refine List.mem_of_getElem? (i := i) ?_
    rw [List.getElem?_zip_eq_some]
    exact ⟨x1, x2⟩
  · refine hq h' tk' _ dv' x1 ?_ x3
    rw [List.append_nil] at x2
    rcases x2 with ⟨x2, x4⟩ | x2
    · refine .inl ⟨?_, x4⟩
      have := congrArg List.length x2
      simp [hl] at this
      exact this
    · obtain ⟨dx, y1, y2, y3, y4, y5⟩ := x2
      exact .inr ⟨dx, y1, y2, y3, y4, fun z => by subst z; simp at y5⟩
theorem putM_look : ∀ (l : List (Str × Value)) (y : Str), putM l y = l.lookup y
  | [], y => rfl
  | (f, v) :: r, y => by
    show (if y = f then some v else putM r y) = _
    rw [List.lookup_cons]
    by_cases e : y = f
    · subst e
      simp
    · rw [if_neg e, putM_look r y, beq_false_of_ne e]
theorem look_mem {α : Type} : ∀ {l : List (Str × α)} {y : Str} {v : α}, (l.map (·.1)).Nodup → (l.lookup y = some v ↔ (y, v) ∈ l)
  | [], y, v, _ => by simp
  | (f, u) :: r, y, v, h => by
    rw [List.map_cons, List.nodup_cons] at h
    rw [List.lookup_cons]
    by_cases e : y = f
    · subst e
      simp only [BEq.rfl]
      constructor
      · intro z
        cases z
        exact List.mem_cons_self ..
      · intro z
        rcases List.mem_cons.mp z with z | z
        · cases z; rfl
        · exact absurd (List.mem_map_of_mem (f := (·.1)) z) h.1
    · rw [beq_false_of_ne e]
      simp only
      rw [look_mem h.2]
      simp [e]
theorem look_rev {α : Type} {l : List (Str × α)} (h : (l.map (·.1)).Nodup) (y : Str) : l.reverse.lookup y = l.lookup y := by
  have h2 : (l.reverse.map (·.1)).Nodup := by rw [List.map_reverse]; exact List.pairwise_reverse.mpr (h.imp Ne.symm)
  apply Option.ext
  intro v
  rw [look_mem h2, look_mem h]
  exact List.mem_reverse
theorem relO_zip : ∀ {fs : List Str} {vs : List V} {us : List Value}, Vals vs us → ∀ y, RelO ((fs.zip vs).lookup y) ((fs.zip us).lookup y)
  | [], vs, us, r, y => by simp [RelO]
  | f :: fs, _, _, .nil, y => by simp [RelO]
  | f :: fs, _, _, .cons (a := v) (b := u) r rr, y => by
    rw [List.zip_cons_cons, List.zip_cons_cons, List.lookup_cons, List.lookup_cons]
    by_cases e : y = f
    · subst e
      simp only [BEq.rfl]
      exact r
    · rw [beq_false_of_ne e]
      exact relO_zip rr y
end
section
variable {X : Cx} {C fI : Addr} {fs : List Str} {k : Nat} {x : Str} {es : List Expr} {ta : TA} {p pos : Pos}
/-- C(..), an exception of a class of the program -/
def tExc (C : Addr) (fs : List Str) (ta : TA) : L2.St → Hp → XK → Prop := fun σ H Q => ta σ H fun vs H1 => vs.length = fs.length ∧ ((fs = [] ∧ Q (.ref C) none H1) ∨ (fs ≠ [] ∧ ∀ d, H1 d = none → Q (.ref C) (some d) (upd H1 d (.xd (fs.zip vs)))))
/-- the making itself -/
theorem exc_make (IK : InitK X.prog X.K C fI fs) (hr : Room (k + 1) X.A) (hsup : X.mg "super" = none) {pins : List (Addr × Obj)} {σ : L2.St} {H1 : Hp} {s1 : Shared} {Q : XK} {us : List Value} {vs : List V} (I1 : Inv X pins σ H1 s1) (r1 : Vals vs us) (hl : vs.length = fs.length)
    (q : (fs = [] ∧ Q (.ref C) none H1) ∨ (fs ≠ [] ∧ ∀ d, H1 d = none → Q (.ref C) (some d) (upd H1 d (.xd (fs.zip vs))))) : wpAny (model X.prog X.w) X.A (call (.ref C) us) (MkP X pins σ Q) X.xe s1 := by
  obtain ⟨nm, qn, N, bs, bm, sn, sub, ab, col, dd, k0, k1, k2, k3, k5, hC, hbm⟩ := IK.ox.cls
  obtain ⟨hp, g, dr, tk, os⟩ := s1
  have hsz : hp.objs.size ≤ hp.objs.size + 1 := Nat.le_succ _
  have hn : H1 (hp.objs.size + 1) = none := I1.hok.fresh hsz
  generalize ha : hp.objs.size + 1 = a at hsz hn
  have kk : ∀ b o, hp.get? b = some o → ((hp.push (PySem.W.kdv_tup us)).push (PySem.HandSPX.excO C hp.objs.size)).get? b = some o := fun b o e => Heap.get?_push_of_some _ (Heap.get?_push_of_some _ e)
  have hget : ((hp.push (PySem.W.kdv_tup us)).push (PySem.HandSPX.excO C hp.objs.size)).get? a = some (PySem.HandSPX.excO C hp.objs.size) := by rw [← ha]; heap_get
  have I2 : Inv X pins σ (upd H1 a (exo a C none)) ⟨(hp.push (PySem.W.kdv_tup us)).push (PySem.HandSPX.excO C hp.objs.size), g, dr, tk, os⟩ :=
    I1.laid (t' := tk) (a := a) (o := exo a C none) (h' := (hp.push (PySem.W.kdv_tup us)).push (PySem.HandSPX.excO C hp.objs.size)) kk hsz (exo_ok hget)
  generalize hh2 : (hp.push (PySem.W.kdv_tup us)).push (PySem.HandSPX.excO C hp.objs.size) = hp2 at kk hget I2
  have hus : us.length ≤ sizeLine := by
    rw [← Paired.length r1, hl, sizeLine_eq]
    have := IK.few
    omega
  have nha : ∀ {b : Addr} {o : Obj}, hp.get? b = some o → b ≠ a := fun {b o} z => Nat.ne_of_lt (Nat.lt_of_lt_of_le (Heap.lt_size z) hsz)
  have Ka : X.K.lookup a = none := by
    cases e : X.K.lookup a with
    | none => rfl
    | some o => exact absurd rfl (nha (I1.kIn a o e))
  have blt := I2.mod.blt
  refine wpAny_call (PySem.HandSPX.call_own F.excBase_ValueError (fun Y => PySem.HandSPX.refsVE_contains Y bm hbm) (I1.kIn _ _ hC) (PySem.W.looks_findIn I1.kIn IK.iC) (fun self => PySem.W.bind_fn I1.kIn self IK.tI) hus ?_)
  rw [hh2, ha]
  refine raw_init (mg := X.mg) (h := hp2) (g0 := g) (o0 := os) (d0 := dr) (tk := tk) IK I2.kIn Ka (I2.mod.nolimit.keeps I2.bk) (hr.make C us []).depth (I2.mod.glob.keeps I2.bk) hsup (by obtain ⟨mb, b1, b2⟩ := blt; exact ⟨mb, b1.keeps I2.bk, b2⟩) hget (by rw [← Paired.length r1, hl]) IK.few IK.dbg (fun h' tk' t1 dv hx hd hk => ?_)
  refine ⟨rfl, ?_⟩
  rcases hd with ⟨rfl, rfl⟩ | ⟨dx, rfl, dne, dn, hns, fne⟩
  · -- no fields
    rcases q with ⟨_, q⟩ | ⟨z, _⟩
    case inr => exact absurd rfl z
    obtain ⟨G, g1', g2'⟩ := restrict h' fun b => decide (b ≠ a)
    have gk : ∀ b, b ≠ a → G.get? b = h'.get? b := fun b hb => g1' b (decide_eq_true hb)
    have ge : G.get? a = none := g2' a (by simp)
    have J : Inv X pins σ H1 ⟨G, g, dr, tk', os⟩ := I1.kept (t' := tk') fun b o e => (gk b (nha e)).trans (hk b o (nha e) (kk b o e))
    refine ⟨a, _, _, ⟨G, g, dr, tk', os⟩, H1, .ref C, none, rfl, J, fun b o e => ?_, ge, hx, ⟨rfl, rfl⟩, rfl, rfl, hn, rfl, I1.bare, raises_own IK.ox.exC IK.ox.tyC, q⟩
    by_cases hb : b = a
    · rw [hb, ge] at e; cases e
    · rw [gk b hb] at e; exact e
  · rcases q with ⟨z, _⟩ | ⟨_, q⟩
    · exact absurd z fne
    have hd1 : H1 dx = none := by
      cases e : H1 dx with
      | none => rfl
      | some o =>
        obtain ⟨u, hu⟩ := objOk_get (I1.hok dx o e)
        rw [kk dx u hu] at dn
        cases dn
    have H2a : (upd H1 a (exo a C none)) dx = none := by rw [upd_ne dne]; exact hd1
    have ea : (upd H1 a (exo a C none)) a = some (exo a C none) := upd_same
    generalize hH : upd H1 a (exo a C none) = Hm at I2 H2a ea
    have na : ∀ {b : Addr}, Hm b = none → b ≠ a := fun {b} n z => by
      rw [z, ea] at n
      cases n
    have ndx : ∀ {b : Addr} {o : Obj}, hp2.get? b = some o → b ≠ dx := fun {b o} z e => by rw [e, dn] at z; cases z
    have rel : ∀ f, RelO ((fs.zip vs).lookup f) (putM (fs.zip us).reverse f) := fun f => by
      rw [putM_look, look_rev]
      · exact relO_zip r1 f
      · rw [List.map_fst_zip (by rw [← Paired.length r1, hl]; exact Nat.le_refl _)]
        have := IK.nd
        rw [List.nodup_cons] at this
        exact this.2
    have Un1 : Un (frs X.stack) [] Hm (upd (upd Hm dx (exd dx (fs.zip vs))) a (exo a C (some dx))) hp2 h' := {
      keep := fun b o q n _ _ => hk b o (na n) q
      slot := fun b o q n _ _ => ⟨o.slots, hk b o (na n) q⟩
      free := fun b o q n _ => by rw [upd_ne (na n), upd_ne (ndx q)]; exact n
      there := fun b o q _ => by
        by_cases hb : b = a
        · exact ⟨_, by rw [hb]; exact hx⟩
        · exact ⟨o, hk b o hb q⟩
      tups := fun b xs q => by rw [upd_ne (at_ne ea q exo_tup), upd_ne (ne_of_none q H2a)]; exact q
      frzs := fun b o v q => by rw [upd_ne (at_ne ea q exo_frz), upd_ne (ne_of_none q H2a)]; exact q
      tbls := fun b ps q => ⟨#[], by rw [upd_ne (at_ne ea q exo_tbl), upd_ne (ne_of_none q H2a), q]; simp⟩ }
    have hok2 : HOk X.prog X.w (upd (upd Hm dx (exd dx (fs.zip vs))) a (exo a C (some dx))) h' := fun b o q => by
      by_cases hb : b = a
      · subst hb
        rw [upd_same] at q
        cases q
        exact exo_ok hx
      · rw [upd_ne hb] at q
        by_cases hd : b = dx
        · subst hd
          rw [upd_same] at q
          cases q
          exact exd_ok hns rel
        · rw [upd_ne hd] at q
          exact (I2.hok b o q).stay (fun c v hc z => hk c v (by
              rcases hc with hc | hc
              · rw [hc]
                exact hb
              · exact at_ne ea hc exo_own) z)
            (fun c hc => by rw [upd_ne (at_ne ea hc exo_own), upd_ne (ne_of_none hc H2a)]; exact hc) (fun c xs hc => by rw [upd_ne (at_ne ea hc exo_tup), upd_ne (ne_of_none hc H2a)]; exact hc)
    rw [← hH] at Un1 hok2
    refine mk_end (raises_own IK.ox.exC IK.ox.tyC) I1 hsz kk Un1 hok2 rfl I1.bare upd_same (by rw [upd_ne dne, upd_same]) hd1 ?_
    have eH : upd (del (upd (upd (upd H1 a (exo a C none)) dx (exd dx (fs.zip vs))) a (exo a C (some dx))) a) dx (.xd (fs.zip vs)) = upd H1 dx (.xd (fs.zip vs)) := by
      funext b
      by_cases hb : b = dx
      · rw [hb, upd_same, upd_same]
      · rw [upd_ne hb, upd_ne hb]
        by_cases hb2 : b = a
        · rw [hb2, del_same, hn]
        · rw [del_ne hb2, upd_ne hb2, upd_ne hb, upd_ne hb2]
    rw [eH]
    exact q dx hd1
theorem pmk_exc (IK : InitK X.prog X.K C fI fs) (hr : Room (k + 1) X.A) (hsup : X.mg "super" = none) (hg : Gl X x) (hm : X.mg x = some (.ref C)) (hd : (x == ("__debug__" : Str)) = false) (hs : es.all noStar = true) (ha : PA X es ta) (hnil : es = [] → ∀ σ H Q, ta σ H Q → Q [] H) : PMk X (.Call (.Name x p) es [] pos) (tExc C fs ta) := by
  intro pins s σ H Q I h
  refine wpAny_Call_Name_kw (ld_glob I hg hm ?_ hd)
  cases es with
  | nil =>
    obtain ⟨hl, q⟩ := hnil rfl σ H _ h
    exact PySem.W.callWith_K0 I.kIn IK.ox.kC (exc_make (us := []) (vs := []) IK hr hsup I .nil hl q)
  | cons e es =>
    simp only [List.all_cons, Bool.and_eq_true] at hs
    refine PySem.W.callWith_K (h₀ := X.base) I.ok.mod.kin IK.ox.kC (thn (ha.run pos pins s σ H _ I h) fun us s1 ⟨vs, H1, I1, r1, hl, q1⟩ => ⟨I1.kIn, ?_⟩) (star_cons hs.1) (star_any hs.2)
    exact exc_make IK hr hsup I1 r1 hl q1
end
end GW

set_option Elab.async false
set_option linter.all false
set_option autoImplicit false
set_option maxRecDepth 100000
set_option maxHeartbeats 4000000
/-! a def's promise with the guards known: no repr under way at its start -/
namespace GW
open L2
open PySem PySem.Spec PyProof.Rows
structure FnG (P : Program) (w : World) (K : PySem.W.Frag) (mg : Str → Option Value) (base : Heap) (CX : CXT) (k : Nat) (f : Addr) (fd : FuncData) (ps : List Str) (sp : Sp) : Prop where
  len : ∀ vs H Q E, sp vs H Q E → vs.length = ps.length
  run : ∀ (A : Around) (outer : List PySem.Env) (s : Shared) (H : Hp) (args : Args) (us : List Value) (vs : List V) (Q : VK) (E : XK), A.guards = some [] → Room k A → Env0 P w K mg base A outer s H → BindsTo s fd args (ps.zip us) → Vals vs us → sp vs H Q E →
    codeAny (model P w) A (.call (.ref f) args) (CR CX outer P w H s Q E) s
theorem FnG.mono {P : Program} {w : World} {K : PySem.W.Frag} {mg : Str → Option Value} {base : Heap} {CX : CXT} {j k : Nat} {f : Addr} {fd : FuncData} {ps : List Str} {sp : Sp} (F : FnG P w K mg base CX j f fd ps sp) (h : j ≤ k) :
    FnG P w K mg base CX k f fd ps sp := ⟨F.len, fun A outer s H args us vs Q E g hr => F.run A outer s H args us vs Q E g (hr.mono h)⟩
theorem FnG.of {P : Program} {w : World} {K : PySem.W.Frag} {mg : Str → Option Value} {base : Heap} {CX : CXT} {k : Nat} {f : Addr} {fd : FuncData} {ps : List Str} {sp : Sp} (F : FnOk P w K mg base CX k f fd ps sp) :
    FnG P w K mg base CX k f fd ps sp := ⟨F.len, fun A outer s H args us vs Q E _ hr => F.run A outer s H args us vs Q E hr⟩
section
variable {X : Cx} {CX : CXT} {k : Nat} {f C : Addr} {fd : FuncData} {ps : List Str} {sp : Sp} {dvs : List V} {ds : List Value} {E : XK} {x m : Str} {p pos apos : Pos} {e o : Expr} {es : List Expr} {ta : TE} {t : TA}
theorem run_fnG {pins : List (Addr × Obj)} {σ : L2.St} {H : Hp} {s : Shared} {Q : L2.VK} {us : List Value} {vs : List V} (F : FnG X.prog X.w X.K X.mg X.base CX k f fd ps sp) (hG : X.A.guards = some []) (hr : Room k X.A) (hb : Binds X.K fd ps ds) (hd : Vals dvs ds) (hx : Passes CX X E)
    (I : Inv X pins σ H s) (r : Vals vs us) (h : sp (vs ++ dvs) H Q E) : wpAny (model X.prog X.w) X.A (call (.ref f) us) (EP X pins σ Q) X.xe s := by
  have r2 : Vals (vs ++ dvs) (us ++ ds) := r.append hd
  have hl : (us ++ ds).length = ps.length := by rw [← r2.length]; exact F.len _ _ _ _ h
  refine wpAny_call (codeAny_mono (F.run X.A X.stack s H ⟨us, []⟩ (us ++ ds) (vs ++ dvs) Q E hG hr I.env0 (hb s us I.kIn hl) r2 h) fun r s' hq => ?_)
  cases r with
  | error e => exact hx pins σ H s e s' I hq
  | ok fl =>
    cases fl with
    | ret u => exact I.after hq
    | next => exact False.elim hq
    | brk => exact False.elim hq
    | cont => exact False.elim hq
theorem run_makeG {pins : List (Addr × Obj)} {σ : L2.St} {H : Hp} {s : Shared} {Q : L2.VK} {us : List Value} {vs : List V} (M : Mk X.K C f) (F : FnG X.prog X.w X.K X.mg X.base CX k f fd ps sp) (hG : X.A.guards = some []) (hr : Room (k + 1) X.A) (hb : Binds X.K fd ps ds) (hd : Vals dvs ds)
    (hx : Passes CX X E) (I : Inv X pins σ H s) (r : Vals vs us)
    (h : ∀ x dx, H x = none → H dx = none → dx ≠ x → sp (.ref x :: (vs ++ dvs)) (upd (upd H dx (.own x)) x (.ins C dx [])) (fun v H2 => v = .non ∧ Q (.ref x) H2) E) :
    wpAny (model X.prog X.w) X.A (call (.ref C) us) (EP X pins σ Q) X.xe s := by
  have hq := h (s.heap.objs.size + 1) s.heap.objs.size (I.hok.fresh (Nat.le_succ _)) (I.hok.fresh (Nat.le_refl _)) (Nat.ne_of_lt (Nat.lt_succ_self _))
  have I2 := Inv.made (C := C) I
  have r2 : Vals (V.ref (s.heap.objs.size + 1) :: (vs ++ dvs)) (Value.ref (s.heap.objs.size + 1) :: (us ++ ds)) := .cons rfl (r.append hd)
  have hl : (Value.ref (s.heap.objs.size + 1) :: us ++ ds).length = ps.length := by
    have e := r2.length
    rw [F.len _ _ _ _ hq] at e
    exact e.symm
  refine wpAny_call (make_map (f := f) I.kIn M.makes M.init (beq_iff_eq.mp M.fn) (codeAny_mono (F.run _ X.stack _ _ ⟨Value.ref (s.heap.objs.size + 1) :: us, []⟩ (Value.ref (s.heap.objs.size + 1) :: (us ++ ds)) _ _ E hG (hr.make C us [])
    (I2.env0.make C us []) (hb _ (Value.ref (s.heap.objs.size + 1) :: us) I2.kIn hl) r2 hq) fun r s' hq' => ?_))
  cases r with
  | error e => exact hx pins σ _ _ e s' I2 hq'
  | ok fl =>
    cases fl with
    | ret u =>
      obtain ⟨v, H', I3, rv, ev, q3⟩ := I2.after hq'
      subst ev
      exact ⟨rv, ⟨V.ref (s.heap.objs.size + 1), H', I3, rfl, q3⟩⟩
    | next => exact False.elim hq'
    | brk => exact False.elim hq'
    | cont => exact False.elim hq'
theorem pe_makeG (M : Mk X.K C f) (F : FnG X.prog X.w X.K X.mg X.base CX k f fd ps sp) (hG : X.A.guards = some []) (hr : Room (k + 1) X.A) (hg : Gl X x) (hm : X.mg x = some (.ref C)) (hb : Binds X.K fd ps ds) (hd : Vals dvs ds) (hx : Passes CX X E)
    (ha : PA X (e :: es) t) (hdb : (x == ("__debug__" : Str)) = false := by decide) (he : starEach (e :: es) X.env = (false, eval e X.env) :: starEach es X.env := by rfl) (hpl : (backTo pos (starEach es X.env)).any (·.1) = false := by rfl) :
    PE X (.Call (.Name x p) (e :: es) [] pos) (tMake C sp dvs E t) := by
  refine ⟨fun pins s σ H Q I h => ?_⟩
  refine wpAny_Call_Name_kw (ld_glob I hg hm ?_ hdb)
  refine PySem.W.callWith_K (h₀ := X.base) I.ok.mod.kin M.kp (thn (ha.run pos pins s σ H _ I h) fun us s1 ⟨vs, H1, I1, r, q⟩ => ⟨I1.kIn, ?_⟩) he hpl
  exact run_makeG M F hG hr hb hd hx I1 r q
end
theorem fnG_of {CX : CXT} {P : Program} {w : World} {K : PySem.W.Frag} {mg : Str → Option Value} {base : Heap} {k : Nat} {f : Addr} {name qual : Str} {params : Arguments} {body : List Stmt} {scope : Scope} {dV kV doc pm cdv ct oc : Value} {an od : Option Addr}
    {osl : Array (Option Value)} {N ps : List Str} {sp : Sp} (lk : K.lookup f = some ⟨oc, od, .func (PySem.W.fnOf name qual params body scope dV kV doc pm an cdv ct), osl⟩) (hcd : PySem.W.codeIn K cdv qual = true) (S : FnScope N ps scope)
    (len : ∀ vs H Q E, sp vs H Q E → vs.length = ps.length)
    (hbody : ∀ (A : Around) (outer : List PySem.Env) (s : Shared) (H : Hp) (vs : List V) (Q : VK) (E : XK), A.guards = some [] → Room k (A.deeper (envOfC qual scope s.heap.objs.size f cdv)) → sp vs H Q E →
      ∃ t, PSs (cxOf CX P w K mg base N qual scope f cdv A outer s H E) body t ∧ t { nx := fun _ H' => Q .non H', rt := Q } (start N vs) H) :
    FnG P w K mg base CX (k + 1) f (PySem.W.fnOf name qual params body scope dV kV doc pm an cdv ct) ps sp := by
  refine ⟨len, fun A outer s H args us vs Q E hG hr e0 hb r hsp => ?_⟩
  have hl := len _ _ _ _ hsp
  have KX : K.In s.heap := e0.mod.kin.keeps fun b o e => (e0.bs b o e).1
  have lim : s.heap.NoLimit := e0.mod.nolimit.keeps fun b o e => (e0.bs b o e).1
  have hkind : ∀ y ∈ ps.zip us, scope.names.lookup y.1 = some .local ∨ (scope.names.lookup y.1 = some .cell ∧ ((cellsFrom (s.heap.objs.size + 1) scope.names []).lookup y.1).isSome = true) := fun ⟨n, v⟩ hy => by
    rcases S.par n (List.of_mem_zip hy).1 with q | q
    · exact .inl q
    · exact .inr ⟨q, PySem.W.cellsFrom_some _ _ _ (.inl q)⟩
  refine codeAny_call_function hr.depth (KX _ _ lk) rfl S.co S.gen rfl (PySem.W.codeRec_of KX hcd) (hb _ _ _ _ ?_)
  refine wpAny_newFunctionEnv_cells S.kind hkind fun env he s1 x => ?_
  subst he
  refine ⟨lim.keeps x.toInCall.keep, codeAny_func ?_⟩
  obtain ⟨t, ht, hq⟩ := hbody A outer s H vs Q E hG (hr.deeper _) hsp
  have I : Inv (cxOf CX P w K mg base N qual scope f cdv A outer s H E) [] (start N vs) H s1 := inv_start S hr.hd e0 hl r x
  refine wpAny_mono (ht.run [] s1 (start N vs) H _ I hq) (fun fl s' hs => ?_) fun e s' hs => hs
  have fin : ∀ {σ' : L2.St} {H' : Hp} {v : V} {u : Value}, Inv (cxOf CX P w K mg base N qual scope f cdv A outer s H E) [] σ' H' s' → RelV v u → Q v H' → L2.CE outer P w H s Q u s' :=
    fun {σ' H' v u} J rv q => ⟨v, H', J.os, J.bare, J.base, J.hok, rv, q⟩
  cases fl with
  | ret u =>
    obtain ⟨v, σ', H', J, rv, q⟩ := hs
    exact fin J rv q
  | next =>
    obtain ⟨σ', H', J, q⟩ := hs
    exact fin (v := V.non) (u := Value.none) J rfl q
  | brk =>
    obtain ⟨_, _, _, q⟩ := hs
    exact False.elim q
  | cont =>
    obtain ⟨_, _, _, q⟩ := hs
    exact False.elim q
#print axioms fnG_of
#print axioms run_makeG
#print axioms run_fnG
end GW

set_option Elab.async false
set_option linter.all false
set_option autoImplicit false
set_option maxRecDepth 100000
set_option maxHeartbeats 4000000
/-! How the core is linked with the text; attributes, isinstance, calls. -/
namespace GW
open PySem PySem.Spec PyProof.Rows L2
def bltName : BI → Str
  | .len => "len" | .all => "all" | .any => "any" | .abs => "abs" | .int => "int" | .max1 => "max" | .min1 => "min" | .max2 => "max" | .min2 => "min" | .sum => "sum" | .tuple => "tuple" | .list => "list" | .tuplek => "tuple"
def bltNames : List Str := ["len", "all", "any", "abs", "int", "max", "min", "sum", "tuple", "list", "bool", "str", "dict", "isinstance", "range", "zip", "enumerate", "sorted", "repr", "set", "super", "ValueError"]
def tyName (T : Tbl) : Ty → Str
  | .int => "int" | .bool => "bool" | .str => "str" | .tuple => "tuple" | .list => "list" | .dict => "dict" | .cls c => T.cl c
def tyStr : Ty → String
  | .int => "int" | .bool => "bool" | .str => "str" | .tuple => "tuple" | .list => "list" | .dict => "dict" | .cls _ => ""
def tyV (L : Link) : Ty → V
  | .cls c => .ref (L.ca c)
  | t => .ty (tyStr t)
def tyVal (L : Link) : Ty → Value
  | .cls c => .ref (L.ca c)
  | t => .type (tyStr t)
def tyNames : List String := ["NoneType", "bool", "int", "str", "tuple", "list", "dict"]
/-- what an exception class says for its instances to be asked -/
structure ExcX (K : PySem.W.Frag) (C : Addr) : Prop where
  ga : PySem.W.findIn K (.ref C) "__getattribute__" = some (some (.builtin "BaseException.__getattribute__"))
  gg : PySem.W.findIn K (.ref C) "__getattr__" = some none
  exC : PySem.W.subIn K (.ref C) (.type "BaseException") = some true
  hd : PySem.W.hasDictIn K C = true
  cl : (PySem.W.clsIn K C).isSome = true
  ha : PySem.W.findIn K (.ref C) "__class__" = some (some (.builtin "object.__class__"))
  hn : PySem.W.specialIn K (.builtin "object.__class__") "__get__" = some (some (.builtin "getset_descriptor.__get__"))
  ht : PySem.W.takesIn K (.builtin "object.__class__") = some true
  hm : PySem.W.mroIn K C (.type "object") = some true
structure LinkOk (Γ : Prog) (K : PySem.W.Frag) (L : Link) (mg : Str → Option Value) : Prop where
  inj : ∀ f g, L.T.nm f = L.T.nm g → f = g
  cls : ∀ c x, Γ.cls c = some x → Cls K (L.ca c)
  noA : ∀ c f, Γ.fld c f = true → (Γ.cls c).isSome = true ∧ NoAttr K (L.ca c) (L.T.nm f)
  isC : ∀ c x, Γ.cls c = some x → PySem.W.findIn K (.ref (L.ca c)) "__class__" = some (some (.builtin "object.__class__")) ∧ PySem.W.specialIn K (.builtin "object.__class__") "__get__" = some (some (.builtin "getset_descriptor.__get__")) ∧
    PySem.W.takesIn K (.builtin "object.__class__") = some true ∧ PySem.W.mroIn K (L.ca c) (.type "object") = some true
  kt : ∀ c x T, Γ.cls c = some x → T ∈ tyNames → PySem.W.kitOne K (.type T) (.ref (L.ca c)) = some false
  kb : ∀ c x T, Γ.cls c = some x → T ∈ tyNames → PySem.W.kitOne K (.ref (L.ca c)) (.type T) = some false
  kc : ∀ c x c' x', Γ.cls c = some x → Γ.cls c' = some x' → PySem.W.kitOne K (.ref (L.ca c)) (.ref (L.ca c')) = some (decide (c' = c))
  mth : ∀ c m f, Γ.mth c m = some f → (Γ.cls c).isSome = true ∧ Meth K (L.ca c) (L.T.nm m) (L.fa f)
  mks : ∀ c f z, Γ.cls c = some (f, z) → Mk K (L.ca c) (L.fa f)
  xc : ∀ c, Γ.xcl c = true → ExcX K (L.ca c) ∧ mg (L.T.cl c) = some (.ref (L.ca c)) ∧ PySem.W.kitOne K (.ref (L.ca c)) (.type "ValueError") = some true ∧ (Γ.xfl c).map L.T.nm = L.T.xf c ∧ ∀ f ∈ Γ.xfl c, PySem.W.findIn K (.ref (L.ca c)) (L.T.nm f) = some none
  kx : ∀ c c', Γ.xcl c = true → Γ.xcl c' = true → PySem.W.kitOne K (.ref (L.ca c)) (.ref (L.ca c')) = some (decide (c' = c))
  gfn : ∀ f, Γ.glf f = true → mg (L.T.fn f) = some (.ref (L.fa f)) ∧ PySem.W.keepIn K (.ref (L.fa f)) = true
  nft : ∀ c x, Γ.cls c = some x → PySem.W.notFirst K (L.ca c) (.type "tuple") = true
  nfc : ∀ c x c' x', Γ.cls c = some x → Γ.cls c' = some x' → PySem.W.notFirst K (L.ca c) (.ref (L.ca c')) = true
  gcl : ∀ c x, Γ.cls c = some x → mg (L.T.cl c) = some (.ref (L.ca c))
  glb : ∀ g d, Γ.glb g = some d → ∃ v u, mg (L.T.gl g) = some u ∧ RelV v u ∧ ∀ S, Rep K L S d v
  blt : ∀ x ∈ bltNames, mg x = none
theorem boot_blt (b : BI) : bootBuiltins (bltName b) = some (bltId b) := by cases b <;> decide +kernel
/-- the promise of a def: what the core says of it -/
def spI (K : PySem.W.Frag) (L : Link) (cf : Calls) (f n : Nat) : Sp := fun vs H Q E => vs.length = n ∧ ∃ S M ds, SR K L S M H ∧ Reps K L S ds vs ∧ Fin K L S H E (cf f ds M) (fun d _ S' H' => ∀ v, Rep K L S' d v → Q v H')
/-- the context of a piece of the text, an exception at hand or not -/
structure GoodH (Γ : Prog) (L : Link) (N : List Str) (sc : Scope) (st : Str → Bool) (X : Cx) : Prop where
  hN : X.N = N
  nd : N.Nodup
  sc : X.env.scope = sc
  sto : ∀ x, st x = true → X.fn x = true ∨ X.env.scope.names.lookup x = some .local
  lk : LinkOk Γ X.K L X.mg
  hu : X.A.units + 65 < cLine
  xn : ∀ a c dd, L.xn = some (a, c, dd) → ∃ oe : Obj, (a, oe) ∈ X.pn ∧ Zc (.ref (L.ca c)) dd oe ∧ ∃ vs, oe.data = .fields vs
/-- .. none at hand -/
structure Good (Γ : Prog) (L : Link) (cf : Calls) (k : Nat) (E : XK) (N : List Str) (sc : Scope) (st : Str → Bool) (X : Cx) : Prop extends GoodH Γ L N sc st X where
  nx : L.xn = none
  calm : X.calm = true
  room : Room (k + 1) X.A
  gd : X.A.guards = some []
  tk : Takes X (fun c d _ H => E c d H)
  ar : ∀ f F ds M, Γ.fn f = some F → cf f ds M ≠ .err → ds.length = F.ar
  no : ∀ f ds M, Γ.fn f = none → cf f ds M = .err
  exc : ∀ c, Γ.xcl c = true → ∃ fI, InitK X.prog X.K (L.ca c) fI (L.T.xf c) ∧ X.mg (L.T.cl c) = some (.ref (L.ca c))
  fns : ∀ f F, Γ.fn f = some F → ∃ fd ps, ps.length = F.ar ∧ FnG X.prog X.w X.K X.mg X.base (L2.CX X.prog X.w) k (L.fa f) fd ps (spI X.K L cf f F.ar) ∧ Binds X.K fd ps [] ∧ PySem.W.keepIn X.K (.ref (L.fa f)) = true
section
variable {X : Cx} {Γ : Prog} {L : Link} {cf : Calls} {k : Nat} {E : XK} {N : List Str} {sc : Scope} {st : Str → Bool} {a b c e : Expr} {es : List Expr} {ca cb cc ce : CE} {cs : CEs} {pos : Pos}
theorem Good.pass (G : Good Γ L cf k E N sc st X) : Passes (L2.CX X.prog X.w) X E := passes_call G.tk fun _ _ _ _ h => h
/-! ### built-in functions -/
theorem fin_rB {S : RS} {M : Mem} {H : Hp} {Q : VK} {vs : List V} {ds : List D} {f : List D → Option D} (sr : SR X.K L S M H) (r : Reps X.K L S ds vs)
    (h : Fin X.K L S H E (Out.of (f (ds.map (rd M))) M) (fun d _ S' H' => ∀ v, Rep X.K L S' d v → Q v H')) : rB X.K L f vs H Q := by
  obtain ⟨d, e, h⟩ := h.of sr
  exact ⟨S, M, _, d, sr, tops_of sr r, e, fun v S' H' st sr' r => h S' H' st sr' v r⟩
theorem s_blt {bi : BI} {p : Pos} (G : Good Γ L cf k E N sc st X) (hg : Gl X (bltName bi)) (hs : (a :: es).all noStar = true) (ha : PA X (a :: es) (tAs Γ cf X.K L E cs)) : PE X (.Call (.Name (bltName bi) p) (a :: es) [] pos) (tI Γ cf X.K L E (.blt bi cs)) := by
  have hm : X.mg (bltName bi) = none := G.lk.blt _ (by cases bi <;> decide +kernel)
  have n1 : bltName bi ≠ "__name__" := by cases bi <;> decide +kernel
  have n2 : (bltName bi == ("__debug__" : Str)) = false := by cases bi <;> decide +kernel
  have hv := boot_blt bi
  have hr := bltR (L := L) G.calm bi
  simp only [List.all_cons, Bool.and_eq_true] at hs
  have he : starEach (a :: es) X.env = (false, eval a X.env) :: starEach es X.env := star_cons hs.1
  have hp : (backTo pos (starEach es X.env)).any (·.1) = false := star_any hs.2
  have key : PE X (.Call (.Name (bltName bi) p) (a :: es) [] pos) (tCB (rB X.K L (bltD bi)) (tAs Γ cf X.K L E cs)) := by
    cases bi <;> first
      | exact pe_callB hr hg hm hv ha n1 n2 he hp
      | exact pe_callTy hr hg hm hv ha n1 n2 he hp
  refine key.imp fun σ H Q h => ?_
  obtain ⟨S, M, ρ, sr, er, h⟩ := h
  rw [evE] at h
  exact ⟨S, M, ρ, sr, er, h.bind.imp fun xs M1 S1 H1 st1 sr1 h1 vs rv => fin_rB sr1 rv h1⟩
/-! ### isinstance -/
theorem ty_of {S : RS} {M : Mem} {H : Hp} {d : D} {v : V} (lk : LinkOk Γ X.K L X.mg) (sr : SR X.K L S M H) (t : Top X.K L S H d v) : (∃ tv, TyX X.K H v tv ∧ ∀ ty b, okTy Γ ty = true → isTy Γ d ty = some b → PySem.W.kitOne X.K tv (tyVal L ty) = some b) ∨ ∀ ty, isTy Γ d ty = none := by
  have bi : ∀ (T : String) (f : Ty → Bool), T ∈ tyNames → (∀ c, f (.cls c) = false) → (∀ ty, (∀ c, ty ≠ .cls c) → kitB T (tyStr ty) = some (f ty)) → ∀ ty, okTy Γ ty = true → PySem.W.kitOne X.K (.type T) (tyVal L ty) = some (f ty) := fun T f hT hc h ty ok => by
    cases ty with
    | cls c =>
      cases e : Γ.cls c with
      | none => simp [okTy, e] at ok
      | some x =>
        rw [hc]
        exact lk.kt c x T e hT
    | _ => exact kit_ty (h _ (fun c z => nomatch z))
  cases d with
  | non =>
    obtain rfl := top_non t
    refine .inl ⟨_, .base .non, fun ty b ok e => ?_⟩
    cases e
    exact bi "NoneType" (fun _ => false) (by decide) (fun _ => rfl) (fun ty h => by cases ty <;> first | exact absurd rfl (h _) | decide +kernel) ty ok
  | bl x =>
    obtain rfl := top_bl t
    refine .inl ⟨_, .base (.bl x), fun ty b ok e => ?_⟩
    cases e
    exact bi "bool" (fun t => decide (t = .bool ∨ t = .int)) (by decide) (fun _ => by simp) (fun ty h => by cases ty <;> first | exact absurd rfl (h _) | decide +kernel) ty ok
  | int x =>
    obtain rfl := top_int t
    refine .inl ⟨_, .base (.int x), fun ty b ok e => ?_⟩
    cases e
    exact bi "int" (fun t => decide (t = .int)) (by decide) (fun _ => by simp) (fun ty h => by cases ty <;> first | exact absurd rfl (h _) | decide +kernel) ty ok
  | str x =>
    obtain ⟨rfl, _⟩ := top_str t
    refine .inl ⟨_, .base (.str x), fun ty b ok e => ?_⟩
    cases e
    exact bi "str" (fun t => decide (t = .str)) (by decide) (fun _ => by simp) (fun ty h => by cases ty <;> first | exact absurd rfl (h _) | decide +kernel) ty ok
  | tup xs =>
    obtain ⟨a, vs, rfl, _, h, r⟩ := top_tup sr t
    refine .inl ⟨.type "tuple", ?_, fun ty b ok e => ?_⟩
    · rcases h with (h | ⟨o, h⟩) | ⟨o, its, n, h1, h2, _⟩
      · exact .base (.tup h)
      · exact .fTuple h
      · exact .kTuple h1 h2
    · cases e
      exact bi "tuple" (fun t => decide (t = .tuple)) (by decide) (fun _ => by simp) (fun ty h => by cases ty <;> first | exact absurd rfl (h _) | decide +kernel) ty ok
  | lst xs =>
    obtain ⟨a, vs, rfl, h, r⟩ := t
    refine .inl ⟨.type "list", ?_, fun ty b ok e => ?_⟩
    · rcases h with h | ⟨o, h⟩
      · exact .base (.lst h)
      · exact .base (.frz h)
    · cases e
      exact bi "list" (fun t => decide (t = .list)) (by decide) (fun _ => by simp) (fun ty h => by cases ty <;> first | exact absurd rfl (h _) | decide +kernel) ty ok
  | dct ks vs =>
    have q : Rep X.K L S (.dct ks vs) v := t
    rw [Rep] at q
    obtain ⟨a, kvs, rfl, h⟩ := q
    refine .inl ⟨.type "dict", .base (.dK (sr.sub _ _ h)), fun ty b ok e => ?_⟩
    cases e
    exact bi "dict" (fun t => decide (t = .dict)) (by decide) (fun _ => by simp) (fun ty h => by cases ty <;> first | exact absurd rfl (h _) | decide +kernel) ty ok
  | ins c fs xs =>
    cases e0 : Γ.cls c with
    | none => exact .inr fun ty => by simp [isTy, e0]
    | some x0 =>
      obtain ⟨a, dx, vs, rfl, h, r, _⟩ := t
      obtain ⟨k1, k2, k3, k4⟩ := lk.isC c x0 e0
      refine .inl ⟨.ref (L.ca c), .base (.ins h (lk.cls c x0 e0) k1 k2 k3 k4), fun ty b ok e => ?_⟩
      simp only [isTy, e0, Option.isSome_some, if_true] at e
      cases e
      cases ty with
      | cls c' =>
        cases e1 : Γ.cls c' with
        | none => simp [okTy, e1] at ok
        | some x1 =>
          have := lk.kc c x0 c' x1 e0 e1
          rw [show tyVal L (.cls c') = .ref (L.ca c') from rfl, this]
          simp
      | _ =>
        rw [show tyVal L _ = Value.type _ from rfl, lk.kb c x0 _ e0 (by decide)]
        simp
  | fn f => exact .inr fun ty => rfl
  | ref n => exact .inr fun ty => rfl
  | tupk xs => exact .inr fun ty => rfl
  | exn _ _ => exact .inr fun ty => rfl
theorem any_of {S : RS} {M : Mem} {H : Hp} {d : D} {v : V} (lk : LinkOk Γ X.K L X.mg) (sr : SR X.K L S M H) (t : Top X.K L S H d v) {ts : List Ty} {b : Bool} (hne : ts ≠ []) (e : isAny Γ d ts = some b) :
    ∃ tv, TyX X.K H v tv ∧ PySem.W.kitAny X.K tv (ts.map (tyVal L)) = some b := by
  rcases ty_of lk sr t with ⟨tv, h1, h2⟩ | h
  · refine ⟨tv, h1, ?_⟩
    clear hne
    induction ts generalizing b with
    | nil => cases e; rfl
    | cons ty ts ih =>
      simp only [isAny] at e
      split at e
      · rename_i ok
        cases e1 : isTy Γ d ty with
        | none => rw [e1] at e; cases e
        | some q =>
          rw [e1] at e
          have := h2 ty q ok e1
          rw [List.map_cons]
          show (match PySem.W.kitOne X.K tv (tyVal L ty) with | some true => some true | some false => PySem.W.kitAny X.K tv (ts.map (tyVal L)) | none => none) = some b
          rw [this]
          cases q with
          | true => exact e
          | false => exact ih e
      · cases e
  · cases ts with
    | nil => exact absurd rfl hne
    | cons ty ts =>
      simp only [isAny, h] at e
      split at e <;> cases e
theorem ty_pe (G : GoodH Γ L N sc st X) {t : Ty} {p : Pos} (ok : okTy Γ t = true) (hg : Gl X (tyName L.T t)) (hd : (tyName L.T t == ("__debug__" : Str)) = false) : PE X (.Name (tyName L.T t) p) (tC (tyV L t)) := by
  cases t with
  | cls c =>
    cases e : Γ.cls c with
    | none => simp [okTy, e] at ok
    | some x => exact pe_glob hg (G.lk.gcl c x e) rfl hd
  | int => exact pe_bltn (x := ("int" : Str)) hg (G.lk.blt _ (by decide +kernel)) (u := .type "int") (by decide +kernel) rfl
  | bool => exact pe_bltn (x := ("bool" : Str)) hg (G.lk.blt _ (by decide +kernel)) (u := .type "bool") (by decide +kernel) rfl
  | str => exact pe_bltn (x := ("str" : Str)) hg (G.lk.blt _ (by decide +kernel)) (u := .type "str") (by decide +kernel) rfl
  | tuple => exact pe_bltn (x := ("tuple" : Str)) hg (G.lk.blt _ (by decide +kernel)) (u := .type "tuple") (by decide +kernel) rfl
  | list => exact pe_bltn (x := ("list" : Str)) hg (G.lk.blt _ (by decide +kernel)) (u := .type "list") (by decide +kernel) rfl
  | dict => exact pe_bltn (x := ("dict" : Str)) hg (G.lk.blt _ (by decide +kernel)) (u := .type "dict") (by decide +kernel) rfl
theorem clsV_ty (t : Ty) : ClsV (tyV L t) (tyVal L t) := by cases t <;> first | exact .own _ | exact .ty _
theorem s_isi1 (G : GoodH Γ L N sc st X) {t : Ty} {p p2 : Pos} (hi : Gl X "isinstance") (ok : okTy Γ t = true) (hg : Gl X (tyName L.T t)) (hd : (tyName L.T t == ("__debug__" : Str)) = false) (hs : noStar a = true) (ha : PE X a (tI Γ cf X.K L E ca)) :
    PE X (.Call (.Name "isinstance" p) [a, .Name (tyName L.T t) p2] [] pos) (tI Γ cf X.K L E (.isi ca [t])) := by
  have hm : X.mg "isinstance" = none := G.lk.blt _ (by decide +kernel)
  have hA : PA X [a, .Name (tyName L.T t) p2] (tCons (tI Γ cf X.K L E ca) (tCons (tC (tyV L t)) tNil)) := pa_cons ha (pa_cons (ty_pe G ok hg hd) pa_nil) (star_cons hs)
  refine (pe_callB call_isi hi hm (by decide +kernel) hA (by decide +kernel) (by decide +kernel) (star_cons hs) rfl).imp fun σ H Q h => ?_
  obtain ⟨S, M, ρ, sr, er, h⟩ := h
  rw [evE] at h
  refine ⟨S, M, ρ, sr, er, h.bind.imp fun x M1 S1 H1 st1 sr1 h1 v rv => ?_⟩
  obtain ⟨d, e, h2⟩ := h1.of sr1
  cases e1 : isAny Γ (rd M1 x) [t] with
  | none => rw [e1] at e; cases e
  | some r =>
    rw [e1] at e
    cases e
    obtain ⟨tv, h3, h4⟩ := any_of G.lk sr1 (rv.rd sr1) (by simp) e1
    refine ⟨v, tyV L t, tv, tyVal L t, r, rfl, clsV_ty t, h3, ?_, h2 S1 H1 (.refl _ _) sr1 _ rep_bl⟩
    have h4 : (match PySem.W.kitOne X.K tv (tyVal L t) with | some true => some true | some false => some false | none => none) = some r := h4
    cases e2 : PySem.W.kitOne X.K tv (tyVal L t) with
    | none => rw [e2] at h4; cases h4
    | some q => rw [e2] at h4; cases q <;> exact h4
/-- names of classes in a row -/
inductive TyEs (Γ : Prog) (T : Tbl) (X : Cx) : List Expr → List Ty → Prop
  | nil : TyEs Γ T X [] []
  | cons {t : Ty} {ts : List Ty} {es : List Expr} {p : Pos} : okTy Γ t = true → Gl X (tyName T t) → (tyName T t == ("__debug__" : Str)) = false → TyEs Γ T X es ts → TyEs Γ T X (.Name (tyName T t) p :: es) (t :: ts)
def tVs : List V → TA
  | [] => tNil
  | v :: vs => tCons (tC v) (tVs vs)
theorem tVs_run {σ : L2.St} {H : Hp} : ∀ {vs : List V} {Q : List V → Hp → Prop}, Q vs H → tVs vs σ H Q
  | [], Q, h => h
  | v :: vs, Q, h => tVs_run (vs := vs) (Q := fun xs H' => Q (v :: xs) H') h
theorem tyEs_pa (G : GoodH Γ L N sc st X) {es : List Expr} {ts : List Ty} (h : TyEs Γ L.T X es ts) : PA X es (tVs (ts.map (tyV L))) := by
  induction h with
  | nil => exact pa_nil
  | cons h1 h2 h3 _ ih => exact pa_cons (ty_pe G h1 h2 h3) ih
theorem clsV_tys : ∀ ts : List Ty, Paired ClsV (ts.map (tyV L)) (ts.map (tyVal L))
  | [] => .nil
  | t :: ts => .cons (clsV_ty t) (clsV_tys ts)
theorem s_isi (G : GoodH Γ L N sc st X) {ts : List Ty} {tes : List Expr} {n : Nat} {p p2 : Pos} (hi : Gl X "isinstance") (hT : TyEs Γ L.T X tes ts) (hn : ts ≠ []) (hz : ts.length ≤ 100) (hs : noStar a = true) (ha : PE X a (tI Γ cf X.K L E ca)) :
    PE X (.Call (.Name "isinstance" p) [a, .Tuple tes n p2] [] pos) (tI Γ cf X.K L E (.isi ca ts)) := by
  have hm : X.mg "isinstance" = none := G.lk.blt _ (by decide +kernel)
  have hA : PA X [a, .Tuple tes n p2] (tCons (tI Γ cf X.K L E ca) (tCons (tTup (tVs (ts.map (tyV L)))) tNil)) := pa_cons ha (pa_cons (pe_tup (tyEs_pa G hT)) pa_nil) (star_cons hs)
  refine (pe_callB call_isiT hi hm (by decide +kernel) hA (by decide +kernel) (by decide +kernel) (star_cons hs) rfl).imp fun σ H Q h => ?_
  obtain ⟨S, M, ρ, sr, er, h⟩ := h
  rw [evE] at h
  refine ⟨S, M, ρ, sr, er, h.bind.imp fun x M1 S1 H1 st1 sr1 h1 v rv => tVs_run ⟨?_, fun p hp => ?_⟩⟩
  · rw [List.length_map]
    exact Nat.le_trans hz (by rw [sl_eq]; decide)
  · obtain ⟨sr', st'⟩ := sr1.newF (o := .tup (ts.map (tyV L))) hp
    obtain ⟨d, e, h2⟩ := (Fin.step st' h1).of sr'
    cases e1 : isAny Γ (rd M1 x) ts with
    | none => rw [e1] at e; cases e
    | some r =>
      rw [e1] at e
      cases e
      obtain ⟨tv, h3, h4⟩ := any_of G.lk sr' ((rv.mono st'.le).rd sr') hn e1
      exact ⟨v, p, ts.map (tyV L), tv, ts.map (tyVal L), r, rfl, upd_same, clsV_tys ts, h3, h4, h2 _ _ (.refl _ _) sr' _ rep_bl⟩
end
end GW

set_option Elab.async false
set_option linter.all false
set_option autoImplicit false
set_option maxRecDepth 100000
set_option maxHeartbeats 4000000
/-! Attributes, calls of defs and methods, new instances, methods of lists. -/
namespace GW
open PySem PySem.Spec PyProof.Rows L2
section
variable {K : PySem.W.Frag} {L : Link} {S : RS}
theorem getF_look (inj : ∀ f g, L.T.nm f = L.T.nm g → f = g) : ∀ {fs : List Nat} {xs : List D} {ws : List V} {f : Nat} {d : D}, getF fs xs f = some d → Reps K L S xs ws → ∃ w, ((fs.map L.T.nm).zip ws).lookup (L.T.nm f) = some w ∧ Rep K L S d w
  | [], _, _, _, _, e, _ => by simp [getF] at e
  | _ :: _, [], _, _, _, e, _ => by simp [getF] at e
  | g :: fs, x :: xs, ws, f, d, e, r => by
    obtain ⟨w, wr, rfl, r1, t⟩ := r.cons_inv
    rw [getF] at e
    by_cases h : g = f
    · rw [if_pos h] at e
      cases e
      refine ⟨w, ?_, r1⟩
      rw [List.map_cons, List.zip_cons_cons, h, List.lookup_cons_self]
    · rw [if_neg h] at e
      obtain ⟨w', h1, h2⟩ := getF_look inj e t
      refine ⟨w', ?_, h2⟩
      have hb : (L.T.nm f == L.T.nm g) = false := beq_eq_false_iff_ne.mpr fun z => h (inj _ _ z).symm
      rw [List.map_cons, List.zip_cons_cons, List.lookup_cons, hb]
      exact h1
theorem look_none (inj : ∀ f g, L.T.nm f = L.T.nm g → f = g) : ∀ {fs : List Nat} {ws : List V} {m : Nat}, fs.contains m = false → ((fs.map L.T.nm).zip ws).lookup (L.T.nm m) = none
  | [], _, _, _ => rfl
  | _ :: _, [], _, _ => rfl
  | g :: fs, w :: ws, m, h => by
    have h1 : m ≠ g ∧ fs.contains m = false := by simpa using h
    have hb : (L.T.nm m == L.T.nm g) = false := beq_eq_false_iff_ne.mpr fun z => h1.1 (inj _ _ z)
    rw [List.map_cons, List.zip_cons_cons, List.lookup_cons, hb]
    exact look_none inj h1.2
theorem putF_put (inj : ∀ f g, L.T.nm f = L.T.nm g → f = g) {f : Nat} {d : D} {v : V} (rv : Rep K L S d v) : ∀ {fs : List Nat} {xs : List D} {ws : List V}, fs.length = xs.length → Reps K L S xs ws →
    ∃ ws', L2.putF (L.T.nm f) v ((fs.map L.T.nm).zip ws) = (((GW.putF f d fs xs).1.map L.T.nm).zip ws') ∧ Reps K L S (GW.putF f d fs xs).2 ws' ∧ (GW.putF f d fs xs).1.length = (GW.putF f d fs xs).2.length
  | [], [], ws, _, r => by
    rw [r.nil_inv]
    exact ⟨[v], rfl, .cons rv .nil, rfl⟩
  | [], _ :: _, _, e, _ => by simp at e
  | _ :: _, [], _, e, _ => by simp at e
  | g :: fs, x :: xs, ws, e, r => by
    obtain ⟨w, wr, rfl, r1, t⟩ := r.cons_inv
    have e' : fs.length = xs.length := by simpa using e
    obtain ⟨ws', h1, h2, h3⟩ := putF_put inj rv e' t
    rw [GW.putF, List.map_cons, List.zip_cons_cons, L2.putF]
    by_cases h : g = f
    · rw [if_pos h, if_pos (by rw [h])]
      refine ⟨v :: wr, ?_, .cons rv t, by simpa using e'⟩
      rw [h]
      rfl
    · rw [if_neg h, if_neg (fun z => h (inj _ _ z)), h1]
      exact ⟨w :: ws', rfl, .cons r1 h2, by simpa using h3⟩
end
def plainObj : Expr → Bool
  | .Call (.Name _ _) [] [] _ => false
  | _ => true
theorem attr_base {e : Expr} {f : Str} {env : PySem.Env} {w : Sem Value} (h : plainObj e = true) : attributeBase e f env w = w := by
  cases e <;> try rfl
  rename_i fn as ks pos
  cases fn <;> try rfl
  cases as with
  | cons _ _ => rfl
  | nil =>
    cases ks with
    | cons _ _ => rfl
    | nil => exact absurd (show false = true from h) Bool.false_ne_true
section
variable {X : Cx} {Γ : Prog} {L : Link} {cf : Calls} {k : Nat} {E : XK} {N : List Str} {sc : Scope} {st : Str → Bool} {a b c e : Expr} {es : List Expr} {ca cb cc ce : CE} {cs : CEs} {pos : Pos}
theorem s_att (G : GoodH Γ L N sc st X) {f : Nat} (hb : plainObj a = true) (ha : PE X a (tI Γ cf X.K L E ca)) : PE X (.Attribute a (L.T.nm f) pos) (tI Γ cf X.K L E (.att ca f)) := by
  refine (pe_fld ha (attr_base hb)).imp fun σ H Q h => ?_
  obtain ⟨S, M, ρ, sr, er, h⟩ := h
  rw [evE] at h
  refine ⟨S, M, ρ, sr, er, h.bind.imp fun x M1 S1 H1 st1 sr1 h1 v rv => ?_⟩
  have t := rv.rd sr1
  cases e1 : rd M1 x <;> rw [e1] at h1 t <;> try exact (show False from h1).elim
  rename_i c fs xs
  by_cases hf : Γ.fld c f = true
  · dsimp only at h1
    rw [if_pos hf] at h1
    obtain ⟨d, e2, h2⟩ := h1.of sr1
    obtain ⟨p, dx, ws, rfl, hp, r, z⟩ := t
    obtain ⟨w, hw, rw'⟩ := getF_look G.lk.inj e2 r
    obtain ⟨q1, q2⟩ := G.lk.noA c f hf
    obtain ⟨y, hy⟩ := Option.isSome_iff_exists.mp q1
    exact ⟨p, _, dx, _, w, rfl, hp, G.lk.cls c y hy, q2, hw, h2 S1 H1 (.refl _ _) sr1 _ rw'⟩
  · dsimp only at h1
    rw [if_neg hf] at h1
    exact (show False from h1).elim
/-! ### calls of defs -/
theorem Good.get (G : Good Γ L cf k E N sc st X) {f : Nat} {ds : List D} {M : Mem} (h : cf f ds M ≠ .err) : ∃ F fd ps, Γ.fn f = some F ∧ ds.length = F.ar ∧ ps.length = F.ar ∧ FnG X.prog X.w X.K X.mg X.base (L2.CX X.prog X.w) k (L.fa f) fd ps (spI X.K L cf f F.ar) ∧ Binds X.K fd ps [] ∧ PySem.W.keepIn X.K (.ref (L.fa f)) = true := by
  cases e : Γ.fn f with
  | none => exact absurd (G.no f ds M e) h
  | some F =>
    obtain ⟨fd, ps, h1, h2, h3, h4⟩ := G.fns f F e
    exact ⟨F, fd, ps, rfl, G.ar f F ds M e h, h1, h2, h3, h4⟩
theorem fin_ne {K : PySem.W.Frag} {α : Type} {S : RS} {H : Hp} {E : XK} {r : Out α} {Q : α → Mem → RS → Hp → Prop} (h : Fin K L S H E r Q) : r ≠ .err := fun z => by rw [z] at h; exact h
/-- a def's address called with values -/
theorem run_cf (G : Good Γ L cf k E N sc st X) {f : Nat} {pins : List (Addr × Obj)} {σ : L2.St} {H : Hp} {s : Shared} {Q : VK} {us : List Value} {vs : List V} {S : RS} {M : Mem} {ds : List D} (I : Inv X pins σ H s) (r : Vals vs us) (sr : SR X.K L S M H) (rd : Reps X.K L S ds vs)
    (h : Fin X.K L S H E (cf f ds M) (fun d _ S' H' => ∀ v, Rep X.K L S' d v → Q v H')) : wpAny (model X.prog X.w) X.A (call (.ref (L.fa f)) us) (EP X pins σ Q) X.xe s := by
  obtain ⟨F, fd, ps, h1, h2, h3, h4, h5, h6⟩ := G.get (fin_ne h)
  exact run_fnG h4 G.gd (G.room.mono (Nat.le_succ k)) h5 .nil G.pass I r ⟨by rw [List.append_nil, rd.length, h2], S, M, ds, sr, by rw [List.append_nil]; exact rd, h⟩
theorem s_call (G : Good Γ L cf k E N sc st X) {f : Nat} {x : Str} {p : Pos} (hg : Gl X x) (hm : X.mg x = some (.ref (L.fa f))) (hk : PySem.W.keepIn X.K (.ref (L.fa f)) = true) (hd : (x == ("__debug__" : Str)) = false) (hs : (a :: es).all noStar = true) (ha : PA X (a :: es) (tAs Γ cf X.K L E cs)) :
    PE X (.Call (.Name x p) (a :: es) [] pos) (tI Γ cf X.K L E (.call f cs)) := by
  simp only [List.all_cons, Bool.and_eq_true] at hs
  refine ⟨fun pins s σ H Q I h => ?_⟩
  obtain ⟨S, M, ρ, sr, er, h⟩ := h
  rw [evE] at h
  refine wpAny_Call_Name_kw (ld_glob I hg hm ?_ hd)
  refine PySem.W.callWith_K (h₀ := X.base) I.ok.mod.kin hk (thn (ha.run pos pins s σ H _ I ⟨S, M, ρ, sr, er, h.bind.imp fun xs M1 S1 H1 st1 sr1 h1 vs rv => (⟨S1, M1, xs, sr1, rv, h1⟩ : ∃ S M ds, SR X.K L S M H1 ∧ Reps X.K L S ds vs ∧ Fin X.K L S H1 E (cf f ds M) (fun d _ S' H' => ∀ v, Rep X.K L S' d v → Q v H'))⟩) fun us s1 ⟨vs, H1, I1, r, q⟩ => ⟨I1.kIn, ?_⟩) (star_cons hs.1) (star_any hs.2)
  obtain ⟨S1, M1, xs, sr1, rv, h1⟩ := q
  exact run_cf G I1 r sr1 rv h1
theorem s_call0 (G : Good Γ L cf k E N sc st X) {f : Nat} {x : Str} {p : Pos} (hg : Gl X x) (hm : X.mg x = some (.ref (L.fa f))) (hk : PySem.W.keepIn X.K (.ref (L.fa f)) = true) (hd : (x == ("__debug__" : Str)) = false) :
    PE X (.Call (.Name x p) [] [] pos) (tI Γ cf X.K L E (.call f .nil)) := by
  refine ⟨fun pins s σ H Q I h => ?_⟩
  obtain ⟨S, M, ρ, sr, er, h⟩ := h
  rw [evE, evEs] at h
  refine wpAny_Call_Name_kw (ld_glob I hg hm ?_ hd)
  exact PySem.W.callWith_K0 I.kIn hk (run_cf (us := []) (vs := []) G I .nil sr .nil h)
/-- f(..), f a local that holds a def -/
theorem s_calv (G : Good Γ L cf k E N sc st X) {i : Nat} {x : Str} {p : Pos} (hN : X.N[i]? = some x) (hv : Vis X.env.scope x) (hd : (x == ("__debug__" : Str)) = false) (hcd : (x == ("__classdict__" : Str)) = false) (hs : (a :: es).all noStar = true) (ha : PA X (a :: es) (tAs Γ cf X.K L E cs)) :
    PE X (.Call (.Name x p) (a :: es) [] pos) (tI Γ cf X.K L E (.calv i cs)) := by
  simp only [List.all_cons, Bool.and_eq_true] at hs
  refine ⟨fun pins s σ H Q I h => ?_⟩
  obtain ⟨S, M, ρ, sr, er, h⟩ := h
  rw [evE] at h
  cases e1 : ρ[i]? with
  | none => rw [e1] at h; exact (show False from h).elim
  | some o =>
    cases o with
    | none => rw [e1] at h; exact (show False from h).elim
    | some d =>
      cases d <;> rw [e1] at h <;> try exact (show False from h).elim
      rename_i f
      dsimp only at h
      by_cases hsome : (Γ.fn f).isSome = true
      case neg => rw [if_neg hsome] at h; exact (show False from h).elim
      rw [if_pos hsome] at h
      obtain ⟨F, hF⟩ := Option.isSome_iff_exists.mp hsome
      obtain ⟨fd, ps, _, _, _, hk⟩ := G.fns f F hF
      obtain ⟨v, hv1, rv⟩ := er.get i _ e1
      rw [Rep] at rv
      subst rv
      refine wpAny_Call_Name_kw (thn ((pe_var (pos := p) (i := i) hN hv hd hcd).run pins s σ H (fun v H1 => v = .ref (L.fa f) ∧ H1 = H) I ⟨_, hv1, rfl, rfl⟩) fun u s1 ⟨v, H1, I1, r1, q1⟩ => ?_)
      obtain ⟨ev, eH⟩ := q1
      subst ev eH
      obtain rfl : u = Value.ref (L.fa f) := r1
      refine PySem.W.callWith_K (h₀ := X.base) I1.ok.mod.kin hk (thn (ha.run pos pins s1 σ H1 _ I1 ⟨S, M, ρ, sr, er, h.bind.imp fun xs M1 S1 H1 st1 sr1 h1 vs rv => (⟨S1, M1, xs, sr1, rv, h1⟩ : ∃ S M ds, SR X.K L S M H1 ∧ Reps X.K L S ds vs ∧ Fin X.K L S H1 E (cf f ds M) (fun d _ S' H' => ∀ v, Rep X.K L S' d v → Q v H'))⟩) fun us s1 ⟨vs, H1, I1, r, q⟩ => ⟨I1.kIn, ?_⟩) (star_cons hs.1) (star_any hs.2)
      obtain ⟨S1, M1, xs, sr1, rv, h1⟩ := q
      exact run_cf G I1 r sr1 rv h1
/-! ### methods -/
/-- a tracked thing that the core does not know -/
theorem SR.extra {K : PySem.W.Frag} {S : RS} {M : Mem} {H : Hp} {p : Addr} {o : HO} (sr : SR K L S M H) (hp : H p = none) : SR K L S M (upd H p o) ∧ Step S H S (upd H p o) := by
  have np : ∀ a ∈ S.φ, a ≠ p := fun a ha z => by
    obtain ⟨o', e⟩ := sr.al a ha
    rw [z, hp] at e
    cases e
  refine ⟨⟨fun a u h => ?_, sr.len, sr.nd, fun a ha => ?_, fun n u a h1 h2 => ?_, sr.fr, tabs_new hp sr.tb, fun a ha u e => sr.nt a ha u (by rw [upd_ne (np a ha)] at e; exact e), sr.nh⟩, .refl S, fun b u h n _ => ⟨?_, n⟩, fun _ _ _ _ _ h => h⟩
  · rw [upd_ne (ne_of_none (sr.sub a u h) hp)]
    exact sr.sub a u h
  · rw [upd_ne (np a ha)]
    exact sr.al a ha
  · rw [upd_ne (np a (List.mem_of_getElem? h2))]
    exact sr.rp n u a h1 h2
  · rw [upd_ne (ne_of_none h hp)]
    exact h
theorem s_mth (G : Good Γ L cf k E N sc st X) (hnil : es = [] → cs = .nil) {m : Nat} {o : Expr} {co : CE} {apos : Pos} (ho : PE X o (tI Γ cf X.K L E co)) (hs : es.all noStar = true) (ha : PA X es (tAs Γ cf X.K L E cs)) {pl : Sem Bool}
    (ht : eval (.Call (.Attribute o (L.T.nm m) apos) es [] pos) X.env = (do
      let ov ← eval o X.env
      standAt apos.atName
      let (f, first) ← holding [ov] (getMethod ov (L.T.nm m) pl)
      callWith pos f first (backTo pos (starEach es X.env)) (backToKw pos (keywordEach [] X.env)))) :
    PE X (.Call (.Attribute o (L.T.nm m) apos) es [] pos) (tI Γ cf X.K L E (.mth m co cs)) := by
  refine ⟨fun pins s σ H Q I h => ?_⟩
  obtain ⟨S, M, ρ, sr, er, h⟩ := h
  rw [evE] at h
  have hpo := ho.run pins s σ H (fun v H1 => ∃ S1 M1 x, SR X.K L S1 M1 H1 ∧ EnvR X.K L S1 ρ σ ∧ Rep X.K L S1 x v ∧ Fin X.K L S1 H1 E ((Out.of (mthOf Γ m (rd M1 x)) M1).bind fun f M1 => (evEs Γ cf cs ρ M1).bind fun xs M2 => cf f (x :: xs) M2) (fun d _ S' H' => ∀ v, Rep X.K L S' d v → Q v H')) I
    ⟨S, M, ρ, sr, er, h.bind.imp fun x M1 S1 H1 st1 sr1 h1 v rv => ⟨S1, M1, x, sr1, er.mono st1.le, rv, h1⟩⟩
  refine PySem.W.methodCall_KW (pl := pl) (thn hpo fun u s1 ⟨x, H1, I1, rx, S1, M1, dx, sr1, er1, rd1, h1⟩ => ?_) ht
  have t := rd1.rd sr1
  obtain ⟨f, e0, h1⟩ := h1.bind.of sr1
  have h1 : Fin X.K L S1 H1 E ((evEs Γ cf cs ρ M1).bind fun xs M2 => cf f (dx :: xs) M2) (fun d _ S' H' => ∀ v, Rep X.K L S' d v → Q v H') := h1 S1 H1 (.refl _ _) sr1
  cases e1 : rd M1 dx <;> rw [e1] at e0 t <;> simp only [mthOf] at e0 <;> try (cases e0; done)
  case ins c fs xs =>
    by_cases hc : fs.contains m = true
    case pos => rw [if_pos hc] at e0; cases e0
    rw [if_neg hc] at e0
    obtain ⟨p, dd, ws, rfl, hp, r, z⟩ := t
    obtain rfl : u = Value.ref p := rx
    obtain ⟨q1, q2⟩ := G.lk.mth c m f e0
    obtain ⟨y, hy⟩ := Option.isSome_iff_exists.mp q1
    have hno : ((fs.map L.T.nm).zip ws).lookup (L.T.nm m) = none := look_none G.lk.inj (by simpa using hc)
    refine getmeth_ok I1 hp (G.lk.cls c y hy) q2 hno ?_
    have hpa := ha.run pos pins s1 σ H1 (fun vs H2 => ∃ S M ds, SR X.K L S M H2 ∧ Reps X.K L S ds (.ref p :: vs) ∧ Fin X.K L S H2 E (cf f ds M) (fun d _ S' H' => ∀ v, Rep X.K L S' d v → Q v H')) I1 ⟨S1, M1, ρ, sr1, er1, h1.bind.imp fun xs M2 S2 H2 st2 sr2 h2 vs rv => ⟨S2, M2, dx :: xs, sr2, .cons (rd1.mono st2.le) rv, h2⟩⟩
    cases es with
    | nil =>
      refine PySem.W.callWith_K0 (first := [.ref p]) I1.kIn q2.kp ?_
      -- no argument: the list is empty
      rw [hnil rfl, evEs] at h1
      exact run_cf (us := [.ref p]) (vs := [.ref p]) G I1 (.cons rfl .nil) sr1 (.cons rd1 .nil) h1
    | cons a es =>
      simp only [List.all_cons, Bool.and_eq_true] at hs
      refine PySem.W.callWith_K (first := [.ref p]) (h₀ := X.base) I.ok.mod.kin q2.kp (thn hpa fun us s2 ⟨vs, H2, I2, r2, S2, M2, ds, sr2, rv2, h2⟩ => ⟨I2.kIn, ?_⟩) (star_cons hs.1) (star_any hs.2)
      exact run_cf (us := .ref p :: us) (vs := .ref p :: vs) G I2 (.cons rfl r2) sr2 rv2 h2
end
end GW

set_option Elab.async false
set_option linter.all false
set_option autoImplicit false
set_option maxRecDepth 100000
set_option maxHeartbeats 4000000
/-! New instances, methods of lists, freezing. -/
namespace GW
open PySem PySem.Spec PyProof.Rows L2
section
variable {X : Cx} {Γ : Prog} {L : Link} {cf : Calls} {k : Nat} {E : XK} {N : List Str} {sc : Scope} {st : Str → Bool} {a b c e : Expr} {es : List Expr} {ca cb cc ce : CE} {cs : CEs} {pos : Pos}
theorem Fin.err_elim {K : PySem.W.Frag} {α : Type} {S : RS} {H : Hp} {Q : α → Mem → RS → Hp → Prop} {P : Prop} (h : Fin K L S H E (.err : Out α) Q) : P := False.elim h
/-- behind __init__: what the core's new instance is -/
theorem new_fin {K : PySem.W.Frag} {S : RS} {M : Mem} {H : Hp} {x dx : Addr} {Q : VK} {c f : Nat} {fz : Bool} {ds : List D} (inj : ∀ f g, L.T.nm f = L.T.nm g → f = g) (hc : Γ.cls c = some (f, fz)) (sr : SR K L S M H) (hx : H x = none) (hdx : H dx = none) (ne : dx ≠ x)
    (h : Fin K L S H E (newD Γ cf c ds M) (fun d _ S' H' => ∀ v, Rep K L S' d v → Q v H')) :
    ∃ S2, SR K L S2 (M ++ [.ins c [] []]) (upd (upd H dx (.own x)) x (.ins (L.ca c) dx [])) ∧ Step S H S2 (upd (upd H dx (.own x)) x (.ins (L.ca c) dx [])) ∧ Rep K L S2 (.ref M.length) (.ref x) ∧
      Fin K L S2 (upd (upd H dx (.own x)) x (.ins (L.ca c) dx [])) E (cf f (.ref M.length :: ds) (M ++ [.ins c [] []])) (fun d _ S' H' => ∀ v, Rep K L S' d v → v = .non ∧ Q (.ref x) H') := by
  obtain ⟨sr1, st1⟩ := sr.extra (o := .own x) hdx
  have hx1 : upd H dx (.own x) x = none := by rw [upd_ne (Ne.symm ne)]; exact hx
  obtain ⟨sr2, st2⟩ := sr1.newL (p := x) (ho := .ins (L.ca c) dx []) (o := .ins c [] []) hx1 ⟨dx, [], rfl, .nil, rfl⟩
  have st12 := st1.trans st2
  have hlen := sr.len
  refine ⟨_, sr2, st12, ?_, ?_⟩
  · rw [Rep]
    exact ⟨x, by show (S.φ ++ [x])[M.length]? = some x; rw [← hlen]; simp, rfl⟩
  · unfold newD at h
    rw [hc] at h
    dsimp only at h
    cases e1 : cf f (.ref M.length :: ds) (M ++ [.ins c [] []]) with
    | err => rw [e1] at h; exact h
    | exc cc as M' =>
      rw [e1] at h
      exact fun S' H' dd st sr' x => h S' H' dd (st12.trans st) sr' x
    | ok r M3 =>
      rw [e1] at h
      intro S3 H3 st3 sr3 v rv
      have st13 := st12.trans st3
      dsimp only [Out.bind] at h
      cases r <;> first
        | exact (show False from h).elim
        | skip
      rw [Rep] at rv
      refine ⟨rv, ?_⟩
      have hat : S3.φ[M.length]? = some x := st3.le.at (by show (S.φ ++ [x])[M.length]? = some x; rw [← hlen]; simp)
      cases fz with
      | false =>
        have h : Fin K L S H E (.ok (.ref M.length) M3) (fun d _ S' H' => ∀ v, Rep K L S' d v → Q v H') := h
        refine h S3 H3 st13 sr3 _ ?_
        rw [Rep]
        exact ⟨x, hat, rfl⟩
      | true =>
        rw [if_pos rfl] at h
        cases e2 : M3[M.length]? with
        | none => rw [e2] at h; exact (show False from h).elim
        | some o =>
          cases o <;> rw [e2] at h <;> try exact (show False from h).elim
          rename_i c2 fs vs
          have h : Fin K L S H E (.ok (.ins c2 fs vs) (shrink M vs (M3.set M.length .dead))) (fun d _ S' H' => ∀ v, Rep K L S' d v → Q v H') := h
          obtain ⟨dx2, ws, e3, r3, z3⟩ := sr3.rp _ _ _ e2 hat
          obtain ⟨sr4, st4⟩ := sr3.freeze e2 hat rfl e3
          have st14 := st13.trans st4
          have r4 : Reps K L ⟨upd S3.HF x (.ins (L.ca c2) dx2 ((fs.map L.T.nm).zip ws)), S3.φ⟩ vs ws := r3.mono st4.le
          by_cases hs : Shrinks M vs (M3.set M.length .dead)
          · obtain ⟨sr5, st5, cut⟩ := sr.cut st14 sr4 hs
            have hsh : shrink M vs (M3.set M.length .dead) = (M3.set M.length .dead).take M.length := if_pos hs
            rw [hsh] at h
            refine h _ H3 st5 sr5 _ ?_
            rw [Rep]
            exact ⟨x, dx2, ws, rfl, upd_same, cut ws r4, z3⟩
          · have hsh : shrink M vs (M3.set M.length .dead) = M3.set M.length .dead := if_neg hs
            rw [hsh] at h
            refine h _ H3 st14 sr4 _ ?_
            rw [Rep]
            exact ⟨x, dx2, ws, rfl, upd_same, r4, z3⟩
theorem s_new (G : Good Γ L cf k E N sc st X) {c f : Nat} {fz : Bool} {F : FD} {p : Pos} (hc : Γ.cls c = some (f, fz)) (hF : Γ.fn f = some F) (hg : Gl X (L.T.cl c)) (hd : (L.T.cl c == ("__debug__" : Str)) = false) (hs : (a :: es).all noStar = true) (ha : PA X (a :: es) (tAs Γ cf X.K L E cs)) :
    PE X (.Call (.Name (L.T.cl c) p) (a :: es) [] pos) (tI Γ cf X.K L E (.new c cs)) := by
  simp only [List.all_cons, Bool.and_eq_true] at hs
  obtain ⟨fd, ps, h1, h2, h3, h4⟩ := G.fns f F hF
  refine (pe_makeG (G.lk.mks c f fz hc) h2 G.gd G.room hg (G.lk.gcl c _ hc) h3 .nil G.pass ha hd (star_cons hs.1) (star_any hs.2)).imp fun σ H Q h => ?_
  obtain ⟨S, M, ρ, sr, er, h⟩ := h
  rw [evE] at h
  refine ⟨S, M, ρ, sr, er, h.bind.imp fun xs M1 S1 H1 st1 sr1 h1 vs rv x dx hx hdx ne => ?_⟩
  obtain ⟨S2, sr2, st2, rr, h2⟩ := new_fin G.lk.inj hc sr1 hx hdx ne h1
  refine ⟨?_, S2, _, _, sr2, .cons rr (by rw [List.append_nil]; exact rv.mono st2.le), h2⟩
  have := G.ar f F _ _ hF (fin_ne h2)
  simp only [List.length_cons, List.append_nil] at this ⊢
  rw [rv.length]
  exact this
/-! ### freezing -/
theorem s_frz (ha : PE X a (tI Γ cf X.K L E ca)) : PE X a (tI Γ cf X.K L E (.frz ca)) := by
  refine ha.imp fun σ H Q h => ?_
  obtain ⟨S, M, ρ, sr, er, h⟩ := h
  rw [evE] at h
  refine ⟨S, M, ρ, sr, er, h.bind.imp fun x M1 S1 H1 st1 sr1 h1 v rv => ?_⟩
  cases x with
  | ref n =>
    unfold frzD at h1
    dsimp only at h1
    cases e1 : M1[n]? with
    | none => rw [e1] at h1; exact (show False from h1).elim
    | some o =>
      cases o <;> rw [e1] at h1 <;> try exact (show False from h1).elim
      rename_i xs
      rw [Rep] at rv
      obtain ⟨p, hp, rfl⟩ := rv
      obtain ⟨vs, e2, r⟩ := sr1.rp _ _ _ e1 hp
      obtain ⟨sr2, st2⟩ := sr1.freeze e1 hp rfl e2
      have h1 : Fin X.K L S1 H1 E (.ok (.lst xs) (M1.set n .dead)) (fun d _ S' H' => ∀ v, Rep X.K L S' d v → Q v H') := h1
      refine h1 _ H1 st2 sr2 _ ?_
      rw [Rep]
      exact ⟨p, vs, rfl, .inl upd_same, r.mono st2.le⟩
  | _ => exact Fin.now sr1 h1 v rv
/-- list(x), live -/
theorem s_lsto {p : Pos} (G : Good Γ L cf k E N sc st X) (hg : Gl X "list") (hs : noStar a = true) (ha : PE X a (tI Γ cf X.K L E ca)) : PE X (.Call (.Name "list" p) [a] [] pos) (tI Γ cf X.K L E (.lsto ca)) := by
  have hm : X.mg "list" = none := G.lk.blt _ (by decide +kernel)
  refine (pe_callTy call_list_of hg hm (by decide +kernel) (pa_cons ha pa_nil (star_cons hs)) (by decide +kernel) (by decide +kernel) (star_cons hs) rfl).imp fun σ H Q h => ?_
  obtain ⟨S, M, ρ, sr, er, h⟩ := h
  rw [evE] at h
  refine ⟨S, M, ρ, sr, er, h.bind.imp fun x M1 S1 H1 st1 sr1 h1 v rv => ?_⟩
  have t := rv.rd sr1
  have fin : ∀ (xs : List D) (vs : List V) (l : Addr), Reps X.K L S1 xs vs → H1 l = none → Fin X.K L S1 H1 E (.ok (.ref M1.length) (M1 ++ [.lst xs])) (fun d _ S' H' => ∀ v, Rep X.K L S' d v → Q v H') → Q (.ref l) (upd H1 l (.lst vs)) := fun xs vs l r hl h => by
    obtain ⟨sr', st'⟩ := sr1.newL (p := l) (ho := .lst vs) (o := .lst xs) hl ⟨vs, rfl, r.mono (show Le S1 ⟨S1.HF, S1.φ ++ [l]⟩ from ⟨fun _ _ h => h, [l], rfl⟩)⟩
    refine h _ _ st' sr' _ ?_
    rw [Rep]
    exact ⟨l, by show (S1.φ ++ [l])[M1.length]? = some l; rw [← sr1.len]; simp, rfl⟩
  cases e1 : rd M1 x <;> rw [e1] at h1 t <;> try exact (show False from h1).elim
  case tup xs =>
    obtain ⟨q, vs, rfl, _, hq, r⟩ := top_tup sr1 t
    exact ⟨q, vs, rfl, .inr hq, fun l hl => fin xs vs l r hl h1⟩
  case lst xs =>
    obtain ⟨q, vs, rfl, hq, r⟩ := t
    exact ⟨q, vs, rfl, .inl (.inl hq), fun l hl => fin xs vs l r hl h1⟩
/-! ### methods of lists -/
theorem mt_extendR : MtM X "list.extend" (fun x vs H Q => ∃ l b xs zs, x = .ref l ∧ vs = [.ref b] ∧ H l = some (.lst xs) ∧ Rd H b (.lst zs) ∧ xs.length + zs.length ≤ sizeLine ∧ Q .non (upd H l (.lst (xs ++ zs)))) := by
  intro pins s σ H x vs v us Q I rx rvs h
  obtain ⟨l, b, xs, zs, rfl, rfl, hH, hB, hz, q⟩ := h
  cases rx
  obtain ⟨u, rfl, ru⟩ := rvs.one
  cases ru
  obtain ⟨z, its, n, r, hl, e⟩ := I.lstM hH
  obtain ⟨z2, its2, n2, r2, hl2, e2⟩ := Inv.rdL I hB
  have hsz : its.toArray.size + its2.toArray.size ≤ sizeLine := by rw [List.size_toArray, List.size_toArray]; omega
  have hlong : ¬ (!its.toArray.isEmpty && Builtin.List.listTooLong (its.toArray.size + its2.toArray.size)) = true := by
    rw [notLongL hsz, Bool.and_false]
    exact Bool.false_ne_true
  refine call_meets F.slot_list_extend ⟨_, e, rfl⟩ F.entry_list_extend (F.args_list_extend_2 _ _)
    (AutoSeq1.list_extend_list_list_0 l its.toArray n b its2.toArray n2 hlong (by rw [List.size_toArray]; omega) (by omega)) ⟨e, e2, ?_⟩
  refine ⟨.non, _, I.lset (its' := its ++ its2) hH e (by simp) (r.append r2) ?_, rfl, q⟩
  rw [List.length_append]
  omega
theorem few_ok {pos : Pos} {env : PySem.Env} {es : List Expr} (hs : es.all noStar = true) (hn : es.length < 28) : ((backTo pos (starEach es env)).all (fun x => !x.1) && (backToKw pos (keywordEach [] env)).all (fun x => x.1.isSome)
      && decide (es.length + ([] : List Keyword).length + (if ([] : List Keyword).isEmpty then 0 else 1) < 30)) = true := by
  have h1 : (backTo pos (starEach es env)).all (fun x => !x.1) = true := by
    have := star_any (pos := pos) (env := env) hs
    rw [List.all_eq_not_any_not]
    simpa using this
  rw [h1]
  show (true && true && decide (es.length + 0 + 0 < 30)) = true
  simp
  omega
/-- a list's method with one argument: what its rule asks, what the core says -/
theorem s_bmt1 {m : BM} {name : Str} {id : String} {r : V → List V → Hp → VK → Prop} {apos : Pos} (slot : Slot "list" name id) (hty : typeOf (.builtin id) = pure (.type "method_descriptor")) (hm : MtR X id r) (hm1 : m ≠ .indexT)
    (hr : ∀ (S : RS) (M : Mem) (H : Hp) (x y : D) (v u : V) (Q : VK), SR X.K L S M H → Rep X.K L S x v → Rep X.K L S y u → Fin X.K L S H E (bmtD m x [y] M) (fun d _ S' H' => ∀ v, Rep X.K L S' d v → Q v H') → r v [u] H Q)
    (hp : plainObj a = true) (hl : (apos.endLine == pos.line) = true) (hs : noStar b = true) (ha : PE X a (tI Γ cf X.K L E ca)) (hb : PE X b (tI Γ cf X.K L E cb)) :
    PE X (.Call (.Attribute a name apos) [b] [] pos) (tI Γ cf X.K L E (.bmt m ca (.cons cb .nil))) := by
  have hA : PA X [b] (tAs Γ cf X.K L E (.cons cb .nil)) := s_cons hb s_nil (star_cons hs)
  refine (pe_bm PySem.F.plainAttrs_list slot hty hm ha hA (attr_base hp) (few_ok (by simp [hs]) (by simp)) hl (star_cons hs) rfl).imp fun σ H Q h => ?_
  obtain ⟨S, M, ρ, sr, er, h⟩ := h
  rw [evE] at h
  refine ⟨S, M, ρ, sr, er, h.bind.imp fun x M1 S1 H1 st1 sr1 h1 v rv => ?_⟩
  by_cases hk : recvOk m x M1 = true
  case neg => rw [if_neg hk] at h1; exact (show False from h1).elim
  rw [if_pos hk] at h1
  have t := rv.rd sr1
  have ty : L2.tyV X.K "list" v H1 := by
    unfold recvOk at hk
    split at hk
    · exact absurd rfl hm1
    · cases e1 : rd M1 x <;> rw [e1] at hk t <;> try (exact absurd hk Bool.false_ne_true)
      obtain ⟨p, vs, rfl, hq, _⟩ := t
      exact .inl ⟨rfl, vs, .inl hq⟩
  refine ⟨ty, S1, M1, ρ, sr1, er.mono st1.le, h1.bind.imp fun xs M2 S2 H2 st2 sr2 h2 vs rvs => ?_⟩
  -- one argument
  cases xs with
  | nil => exact absurd (show Fin X.K L S2 H2 E (bmtD m x [] M2) _ from h2) (fun z => by
      have : bmtD m x [] M2 = .err := by cases m <;> cases x <;> rfl
      rw [this] at z
      exact z)
  | cons y ys =>
    cases ys with
    | cons y2 ys => exact absurd (show Fin X.K L S2 H2 E (bmtD m x (y :: y2 :: ys) M2) _ from h2) (fun z => by
        have : bmtD m x (y :: y2 :: ys) M2 = .err := by cases m <;> cases x <;> (try cases y) <;> rfl
        rw [this] at z
        exact z)
    | nil =>
      obtain ⟨u, vr, rfl, ru, t2⟩ := rvs.cons_inv
      rw [t2.nil_inv]
      exact hr S2 M2 H2 x y v u Q sr2 (rv.mono st2.le) ru h2
theorem s_append {apos : Pos} (hp : plainObj a = true) (hl : (apos.endLine == pos.line) = true) (hs : noStar b = true) (ha : PE X a (tI Γ cf X.K L E ca)) (hb : PE X b (tI Γ cf X.K L E cb)) :
    PE X (.Call (.Attribute a "append" apos) [b] [] pos) (tI Γ cf X.K L E (.bmt .append ca (.cons cb .nil))) := by
  refine s_bmt1 PySem.F.slot_list_append PySem.F.type_list_append mt_append (by decide) (fun S M H x y v u Q sr rx ry h => ?_) hp hl hs ha hb
  cases x <;> try exact (show False from h).elim
  rename_i n
  unfold bmtD at h
  dsimp only at h
  cases e1 : M[n]? with
  | none => rw [e1] at h; exact (show False from h).elim
  | some o =>
    cases o <;> rw [e1] at h <;> try exact (show False from h).elim
    rename_i xs
    dsimp only at h
    split at h
    · rename_i hz
      rw [Rep] at rx
      obtain ⟨p, hp, rfl⟩ := rx
      obtain ⟨vs, e2, r⟩ := sr.rp _ _ _ e1 hp
      refine ⟨p, vs, u, rfl, rfl, e2, by rw [r.length, sl_eq]; exact hz, ?_⟩
      obtain ⟨sr2, st2⟩ := sr.write (o' := .lst (xs ++ [y])) (ho := .lst (vs ++ [u])) e1 hp rfl ⟨_, rfl, r.append (.cons ry .nil)⟩
      exact h _ _ st2 sr2 _ rep_non
    · exact (show False from h).elim
theorem s_extend {apos : Pos} (hp : plainObj a = true) (hl : (apos.endLine == pos.line) = true) (hs : noStar b = true) (ha : PE X a (tI Γ cf X.K L E ca)) (hb : PE X b (tI Γ cf X.K L E cb)) :
    PE X (.Call (.Attribute a "extend" apos) [b] [] pos) (tI Γ cf X.K L E (.bmt .extend ca (.cons cb .nil))) := by
  refine s_bmt1 PySem.F.slot_list_extend PySem.F.type_list_extend mt_extendR (by decide) (fun S M H x y v u Q sr rx ry h => ?_) hp hl hs ha hb
  cases x <;> try exact (show False from h).elim
  rename_i n
  cases y <;> try exact (show False from h).elim
  rename_i ys
  unfold bmtD at h
  dsimp only at h
  cases e1 : M[n]? with
  | none => rw [e1] at h; exact (show False from h).elim
  | some o =>
    cases o <;> rw [e1] at h <;> try exact (show False from h).elim
    rename_i xs
    dsimp only at h
    split at h
    · rename_i hz
      rw [Rep] at rx
      rw [Rep] at ry
      obtain ⟨p, hp, rfl⟩ := rx
      obtain ⟨q, ws, rfl, hq, rw'⟩ := ry
      obtain ⟨vs, e2, r⟩ := sr.rp _ _ _ e1 hp
      refine ⟨p, q, vs, ws, rfl, rfl, e2, rd_mono sr.sub hq, by rw [r.length, rw'.length, sl_eq]; exact hz, ?_⟩
      obtain ⟨sr2, st2⟩ := sr.write (o' := .lst (xs ++ ys)) (ho := .lst (vs ++ ws)) e1 hp rfl ⟨_, rfl, r.append rw'⟩
      exact h _ _ st2 sr2 _ rep_non
    · exact (show False from h).elim
theorem index_at {n m : Nat} {x : D} (hx : data n x = true) : ∀ {ys : List D} {j : Nat}, dataL m ys = true → indexD x ys = some j → ∃ z, (toPs ys)[j]? = some z ∧ PyData.eqv z (toP x) = true ∧ ∀ (i : Nat) z', i < j → (toPs ys)[i]? = some z' → PyData.eqv z' (toP x) = false
  | [], j, _, e => by simp [indexD] at e
  | y :: ys, j, h, e => by
    simp only [dataL, Bool.and_eq_true] at h
    rw [indexD] at e
    have q := eqB_toP m n y x h.1 hx
    by_cases hb : eqB y x = true
    · rw [if_pos hb] at e
      cases e
      exact ⟨_, rfl, by rw [q]; exact hb, fun i z' hi => absurd hi (Nat.not_lt_zero i)⟩
    · rw [if_neg hb] at e
      cases e1 : indexD x ys with
      | none => rw [e1] at e; cases e
      | some j' =>
        rw [e1] at e
        cases e
        obtain ⟨z, h1, h2, h3⟩ := index_at hx h.2 e1
        refine ⟨z, by simpa [toPs] using h1, h2, fun i z' hi hz => ?_⟩
        cases i with
        | zero =>
          simp [toPs] at hz
          rw [← hz, q]
          simpa using hb
        | succ i => exact h3 i z' (by have hi : i + 1 < j' + 1 := hi; omega) (by simpa [toPs] using hz)
theorem s_indexL {apos : Pos} (hu : X.A.units + 65 < cLine) (hp : plainObj a = true) (hl : (apos.endLine == pos.line) = true) (hs : noStar b = true) (ha : PE X a (tI Γ cf X.K L E ca)) (hb : PE X b (tI Γ cf X.K L E cb)) :
    PE X (.Call (.Attribute a "index" apos) [b] [] pos) (tI Γ cf X.K L E (.bmt .indexL ca (.cons cb .nil))) := by
  refine s_bmt1 PySem.F.slot_list_index PySem.F.type_list_index (mt_indexD hu) (by decide) (fun S M H x y v u Q sr rx ry h => ?_) hp hl hs ha hb
  have t := rx.rd sr
  have e0 : bmtD .indexL x [y] M = match rd M x with | .lst xs => if data 50 y && dataL 50 xs then Out.of ((indexD y xs).map fun n => .int n) M else .err | _ => .err := by cases x <;> rfl
  rw [e0] at h
  cases e1 : rd M x <;> rw [e1] at h t <;> try exact (show False from h).elim
  rename_i xs
  dsimp only at h
  split at h
  · rename_i hz
    simp only [Bool.and_eq_true] at hz
    obtain ⟨d, e, h2⟩ := h.of sr
    cases e2 : indexD y xs with
    | none => rw [e2] at e; cases e
    | some j =>
      rw [e2] at e
      cases e
      obtain ⟨p, vs, rfl, hq, r⟩ := t
      obtain ⟨z, h3, h4, h5⟩ := index_at hz.1 hz.2 e2
      have sl : SeqAt.shaped (.list (toPs xs)) = true := by
        have := shaped_toP (n := 51) (x := .lst xs) (by decide) (by simpa [data] using hz.2)
        simpa [toP] using this
      exact ⟨p, u, toP y, toPs xs, j, z, rfl, rfl, .lst (.inl hq) (Reps.dp sr 50 xs vs hz.2 r), Rep.dp sr 50 y u hz.1 ry, sl, shaped_toP (by decide) hz.1, h3, h4, h5, h2 S H (.refl _ _) sr _ rep_int⟩
  · exact (show False from h).elim
/-! ### t.index(x) of texts -/
theorem Inv.knT {pins : List (Addr × Obj)} {σ : L2.St} {H : Hp} {s : Shared} {p : Addr} {xs : List V} (I : Inv X pins σ H s) (h : KnT X.K H p xs) : s.TypeIs (.ref p) "tuple" ∧ ∃ ob, s.heap.get? p = some ob ∧ ob.dict = none := by
  rcases h with ⟨o, h, d⟩ | ⟨o, its, n, h1, h2, h3, h4⟩
  · obtain ⟨e, _, its, rv, ob, e2, c, n, hd⟩ := (show ObjOk X.prog X.w H s.heap p (.frz o (.tup xs)) from I.hok p _ h)
    rw [e] at e2
    cases e2
    exact ⟨⟨o, e, c⟩, o, e, d⟩
  · exact ⟨⟨o, I.kIn p o h1, h2⟩, o, I.kIn p o h1, h3⟩
theorem strs_reps {K : PySem.W.Frag} {S : RS} : ∀ {xs : List D} {vs : List V}, xs.all (fun d => match d with | .str _ => true | _ => false) = true → Reps K L S xs vs → ∃ ys : List Str, xs = ys.map D.str ∧ vs = ys.map V.str
  | [], vs, _, r => ⟨[], rfl, by rw [r.nil_inv]; rfl⟩
  | d :: xs, vs, h, r => by
    obtain ⟨v, vr, rfl, r1, t⟩ := r.cons_inv
    simp only [List.all_cons, Bool.and_eq_true] at h
    obtain ⟨ys, e1, e2⟩ := strs_reps h.2 t
    cases d <;> try (exact absurd h.1 Bool.false_ne_true)
    rename_i z
    rw [Rep] at r1
    exact ⟨z :: ys, by rw [e1]; rfl, by rw [e2, r1.1]; rfl⟩
theorem indexS_at {z : Str} : ∀ {xs : List D} {j : Nat}, indexS z xs = some j → ∃ ys : List Str, xs = ys.map D.str ∧ ys[j]? = some z ∧ ∀ m, m < j → ys[m]? ≠ some z
  | [], _, e => by simp [indexS] at e
  | d :: xs, j, e => by
    cases d <;> simp only [indexS] at e <;> try (cases e; done)
    rename_i y
    by_cases h : y = z
    · rw [if_pos h] at e
      split at e
      · rename_i ha
        cases e
        obtain ⟨ys, hy⟩ : ∃ ys : List Str, xs = ys.map D.str := by
          clear h
          induction xs with
          | nil => exact ⟨[], rfl⟩
          | cons d xs ih =>
            simp only [List.all_cons, Bool.and_eq_true] at ha
            obtain ⟨ys, hy⟩ := ih ha.2
            cases d <;> try (exact absurd ha.1 Bool.false_ne_true)
            rename_i w
            exact ⟨w :: ys, by rw [hy]; rfl⟩
        exact ⟨y :: ys, by rw [hy]; rfl, by rw [h]; rfl, fun m hm => absurd hm (Nat.not_lt_zero m)⟩
      · cases e
    · rw [if_neg h] at e
      cases e1 : indexS z xs with
      | none => rw [e1] at e; cases e
      | some j' =>
        rw [e1] at e
        cases e
        obtain ⟨ys, h1, h2, h3⟩ := indexS_at e1
        refine ⟨y :: ys, by rw [h1]; rfl, by simpa using h2, fun m hm => ?_⟩
        cases m with
        | zero => simpa using h
        | succ m => simpa using h3 m (by have hm : m + 1 < j' + 1 := hm; omega)
theorem map_str_inj : ∀ {a b : List Str}, a.map D.str = b.map D.str → a = b
  | [], [], _ => rfl
  | [], _ :: _, h => by simp at h
  | _ :: _, [], h => by simp at h
  | x :: a, y :: b, h => by
    simp only [List.map_cons, List.cons.injEq, D.str.injEq] at h
    rw [h.1, map_str_inj h.2]
theorem s_indexT {apos : Pos} (hp : plainObj a = true) (hl : (apos.endLine == pos.line) = true) (hs : noStar b = true) (ha : PE X a (tI Γ cf X.K L E ca)) (hb : PE X b (tI Γ cf X.K L E cb)) :
    PE X (.Call (.Attribute a "index" apos) [b] [] pos) (tI Γ cf X.K L E (.bmt .indexT ca (.cons cb .nil))) := by
  refine ⟨fun pins s σ H Q I h => ?_⟩
  obtain ⟨S, M, ρ, sr, er, h⟩ := h
  rw [evE] at h
  have hpo := ha.run pins s σ H (fun v H1 => ∃ S1 M1 xs, SR X.K L S1 M1 H1 ∧ EnvR X.K L S1 ρ σ ∧ Rep X.K L S1 (.tupk xs) v ∧ Fin X.K L S1 H1 E ((evEs Γ cf (.cons cb .nil) ρ M1).bind fun ys M2 => bmtD .indexT (.tupk xs) ys M2) (fun d _ S' H' => ∀ v, Rep X.K L S' d v → Q v H')) I
    ⟨S, M, ρ, sr, er, h.bind.imp fun x M1 S1 H1 st1 sr1 h1 v rv => by
      cases x <;> first
        | exact (show False from h1).elim
        | exact ⟨S1, M1, _, sr1, er.mono st1.le, rv, h1⟩⟩
  refine wpAny_Call_method_late (attr_base hp) (few_ok (by simp [hs]) (by simp)) hl rfl (thn hpo fun v s1 ⟨x, H1, I1, r1, S1, M1, xs, sr1, er1, rd1, h1⟩ => ?_)
  rw [Rep] at rd1
  obtain ⟨p, vs, rfl, hk, r⟩ := rd1
  obtain rfl : v = .ref p := r1
  obtain ⟨hT, ob, ho, hd⟩ := Inv.knT I1 (hk.mono sr1.sub)
  refine ⟨"tuple", "tuple.index", PySem.F.plainAttrs_tuple, PySem.F.slot_tuple_index, PySem.F.type_tuple_index, hT, fun a e => by cases e; exact ⟨ob, ho, hd⟩, ?_⟩
  have hA := (s_cons (cs := .nil) hb s_nil (star_cons hs) : PA X [b] (tAs Γ cf X.K L E (.cons cb .nil))).run pos pins s1 σ H1 (fun us H2 => ∃ S2 M2 ys, SR X.K L S2 M2 H2 ∧ Reps X.K L S2 xs vs ∧ KnT X.K S2.HF p vs ∧ Reps X.K L S2 ys us ∧ Fin X.K L S2 H2 E (bmtD .indexT (.tupk xs) ys M2) (fun d _ S' H' => ∀ v, Rep X.K L S' d v → Q v H')) I1
    ⟨S1, M1, ρ, sr1, er1, h1.bind.imp fun ys M2 S2 H2 st2 sr2 h2 us ru => ⟨S2, M2, ys, sr2, r.mono st2.le, hk.mono st2.le.hf, ru, h2⟩⟩
  rw [star_cons hs] at hA ⊢
  refine Calls.callWith_builtin (by rfl) (Calls.evalArgs_plain ?_)
  refine thn hA fun us s2 ⟨ws, H2, I2, r2, S2, M2, ys, sr2, rx, hk2, ry, h2⟩ => ?_
  cases ys with
  | nil => exact (show False from h2).elim
  | cons y ys =>
    cases ys with
    | cons _ _ => cases y <;> exact (show False from h2).elim
    | nil =>
      cases y <;> try exact (show False from h2).elim
      rename_i z
      obtain ⟨w, wr, rfl, rz, t2⟩ := ry.cons_inv
      rw [t2.nil_inv] at r2
      rw [Rep] at rz
      obtain ⟨rfl, _⟩ := rz
      obtain ⟨d, e, h3⟩ := Fin.of sr2 (show Fin X.K L S2 H2 E (Out.of ((indexS z xs).map fun n => D.int n) M2) (fun d _ S' H' => ∀ v, Rep X.K L S' d v → Q v H') from h2)
      cases e1 : indexS z xs with
      | none => rw [e1] at e; cases e
      | some j =>
        rw [e1] at e
        cases e
        obtain ⟨zs, q1, q2, q3⟩ := indexS_at e1
        have hall : xs.all (fun d => match d with | .str _ => true | _ => false) = true := by rw [q1, List.all_map]; exact List.all_eq_true.mpr fun _ _ => rfl
        obtain ⟨zs2, q4, q5⟩ := strs_reps hall rx
        have : zs2 = zs := map_str_inj (q4.symm.trans q1)
        subst this
        refine mt_tup_index pins s2 σ H2 (.ref p) _ _ us Q I2 rfl r2 ⟨p, zs2, z, j, rfl, rfl, ?_, q2, q3, h3 S2 H2 (.refl _ _) sr2 _ rep_int⟩
        rw [← q5]
        exact sqT_mono sr2.sub hk2.seq
end
end GW

set_option Elab.async false
set_option linter.all false
set_option maxRecDepth 100000
set_option maxHeartbeats 4000000
/-! enumerate(tuple). -/
namespace PySem
open Sem (wp)
open AutoSeq1 (wpAny_loadPart')
theorem gw_enumerate_newT (l : Addr) (items : Array Value) (n : Nat) (dct : Option Addr) (sl : Array (Option Value)) :
    Meets (Builtin.«enumerate.__new__» ⟨[.type "enumerate", .ref l], []⟩) (fun _ R s => s.heap.get? l = some { cls := .type "tuple", dict := dct, data := .seq items n, slots := sl } ∧
      R (.ok (.ret (.ref (s.heap.push { cls := .type "tuple_iterator", data := .fields #[.ref l, .int 0 0] }).objs.size)))
        { s with heap := (s.heap.push { cls := .type "tuple_iterator", data := .fields #[.ref l, .int 0 0] }).push { cls := .type "enumerate", data := .fields #[.none, .bool false, .ref s.heap.objs.size, rawInt 0, .none, .none] } }) :=
  .of_wp fun prog w A R s h => by
    obtain ⟨hp, g, d, tk, os⟩ := s; obtain ⟨hl, h⟩ := h
    have hsub := sub_enumerate
    have hL : Heap.IsTuple (Shared.heap ⟨hp, g, d, tk, os⟩) l items := ⟨_, hl, rfl, n, rfl⟩
    wp_walk using wpAny_loadPart' hl
    refine wpAny_stack_any fun st => wpAny_pure ?_
    split
    · rename_i c _ _ _ _ _
      cases (c == Value.type "enumerate")
      · wp_walk using wpAny_loadPart' hl, wpAny_pyIter_tuple hL
        exact ⟨_, rfl, h⟩
      · wp_walk using wpAny_loadPart' hl, wpAny_pyIter_tuple hL
        exact ⟨_, rfl, h⟩
    · wp_walk using wpAny_loadPart' hl, wpAny_pyIter_tuple hL
      exact ⟨_, rfl, h⟩
section
variable {prog : Program} {w : World} {A : Around} {E : Value → Shared → Prop} {s : Shared}
theorem gw_call_enumerate_tuple {l : Addr} {items : Array Value} {Q : Value → Shared → Prop} (hL : s.heap.IsTuple l items)
    (h : ∀ h', IsEnum h' (s.heap.objs.size + 1) s.heap.objs.size 0 .none → h'.IsTupleIter s.heap.objs.size l 0 → h'.objs.size = s.heap.objs.size + 2 →
      (∀ b o, s.heap.get? b = some o → h'.get? b = some o) → Q (.ref (s.heap.objs.size + 1)) { s with heap := h' }) :
    wpAny (model prog w) A (call (.type "enumerate") [.ref l]) Q E s := by
  obtain ⟨⟨c, dct, dt, sl⟩, hl, hc, n, hd⟩ := hL
  replace hc : c = .type "tuple" := hc
  replace hd : dt = .seq items n := hd
  subst hc hd
  refine callType_new F.called_enumerate (by decide) (F.typeCall_enumerate_1 _) (F.newCall_enumerate_1 _) (fun obj => F.args_object_init_2 obj _) F.entry_enumerate_new
    (gw_enumerate_newT l items n dct sl) ⟨hl, ?_⟩
  have hz : (s.heap.push { cls := .type "tuple_iterator", data := .fields #[.ref l, .int 0 0] }).objs.size = s.heap.objs.size + 1 := Heap.size_push ..
  show _ ∧ _
  rw [hz]
  have he : IsEnum ((s.heap.push { cls := .type "tuple_iterator", data := .fields #[.ref l, .int 0 0] }).push
      { cls := .type "enumerate", data := .fields #[.none, .bool false, .ref s.heap.objs.size, rawInt 0, .none, .none] }) (s.heap.objs.size + 1) s.heap.objs.size 0 .none := by
    have := Heap.get?_push_size (s.heap.push { cls := .type "tuple_iterator", data := .fields #[.ref l, .int 0 0] })
      (o := { cls := .type "enumerate", data := .fields #[.none, .bool false, .ref s.heap.objs.size, rawInt 0, .none, .none] }) rfl
    rw [hz] at this; exact this
  refine ⟨⟨_, he, rfl⟩, h _ he ⟨_, Heap.get?_push_of_some _ (Heap.get?_push_size _ rfl), rfl, rfl⟩ (by rw [Heap.size_push, hz]) fun b o x => Heap.get?_push_of_some _ (Heap.get?_push_of_some _ x)⟩
end
end PySem
namespace L2
open PySem PySem.Spec PyProof.Rows
theorem gw_draws {prog : Program} {w : World} {A : Around} (hh : A.handled = none) {it a : Addr} {its : Array Value} (hne : it ≠ a) : Draws prog w A it [it, a] its.size (fun i x => its[i]? = some x) (fun i h => h.IsTupleIter it a i ∧ h.IsTuple a its) where
  live := fun i h st => let ⟨o, e, _⟩ := st.1; ⟨o, e⟩
  frame := fun i h h' st k => ⟨st.1.at fun o e => k it (by simp) o e, let ⟨o, e, r⟩ := st.2; ⟨o, k a (by simp) o e, r⟩⟩
  item := fun i s Q E hi st hQ => by
    obtain ⟨o, e, r⟩ := st.2
    refine RZ.nextOf_tuple_item st.1 st.2 (x := its[i]) (by simp [hi]) fun h' st' sb => ?_
    exact hQ its[i] h' s.toks (by simp [hi]) ⟨st', ⟨o, (sb.2 a (Ne.symm hne)).trans e, r⟩⟩ sb
  done := fun s Q E st hE => RZ.nextOf_tuple_end hh st.1 st.2 (by simp) hE
def IteT (K : PySem.W.Frag) (a : Addr) : It :=
  ⟨fun i H => ∃ (xs : List V) (x : V), SqT K H a xs ∧ xs[i]? = some x, fun i H v H' => ∃ T x, v = .ref T ∧ H T = none ∧ H' = upd H T (.tup [.int (i : Nat), x]) ∧ ∀ xs, SqT K H a xs → xs[i]? = some x, fun i H => ∃ xs : List V, SqT K H a xs ∧ xs.length ≤ i⟩
theorem turn_enumT {P : Program} {w : World} {K : PySem.W.Frag} {elts : List Expr} {kk : Nat} {tpos : Pos} (a e it : Addr) (hia : it ≠ a) :
    Turn P w K (.Tuple elts kk tpos) (IteT K a) [e, it] e (fun i h => (∃ old, IsEnum h e it ((i : Nat) : Int) old) ∧ h.IsTupleIter it a i ∧ e ≠ it ∧ e ≠ a) where
  mem := by simp
  obj := fun i h st b hb => by
    obtain ⟨⟨old, he⟩, ⟨o, ho, hc, hd⟩, _⟩ := st
    have e' : b = e ∨ b = it := by simpa using hb
    rcases e' with z | z
    · rw [z]; exact ⟨_, he, fun v q => nomatch q⟩
    · rw [z]; exact ⟨o, ho, fun v q => by rw [hd] at q; cases q⟩
  keep := fun i h h' st k => let ⟨⟨old, he⟩, hi, hne⟩ := st; ⟨⟨old, k e (by simp) _ he⟩, hi.at fun o q => k it (by simp) o q, hne⟩
  item := by
    intro X hP hw hK hc i pins s σ H E I hf st hg
    subst hP hw hK
    obtain ⟨⟨old, he⟩, hit, hne, hea⟩ := st
    obtain ⟨xs, x, hq, hx⟩ := hg
    obtain ⟨its, rv, p, hz⟩ := I.tuple hq
    obtain ⟨u, hu, ru⟩ := rv.get hx
    have hel : e < s.heap.objs.size := Heap.lt_size he
    have hil : it < s.heap.objs.size := by obtain ⟨_, q, _⟩ := hit; exact Heap.lt_size q
    have hT0 : s.heap.IsTuple a its.toArray := p
    have hlt : i < its.toArray.size := by
      have := (List.getElem?_eq_some_iff.mp hu).1
      simpa using this
    refine wpAny_pyNext_enum_itemD (gw_draws (A := X.A.in1) (by exact I.ok.hd hc) hia) he ⟨hit, hT0⟩ hlt hne (by simp [hne, hea]) fun x2 h' tk hP ho hit' hT hsz hk => ?_
    have ex : x2 = u := by
      have : its.toArray[i]? = some u := by simpa using hu
      rw [this] at hP
      exact (Option.some.inj hP).symm
    subst ex
    refine ⟨_, rfl, wpAny_letOwnedTupleGo_enum (s := { s with heap := h', toks := tk + 1 }) ho fun h'' he' sb => ?_⟩
    have hT2 : h''.get? s.heap.objs.size = some { cls := .type "tuple", data := .seq #[.int i tk, x2] } := (sb.2 _ (Nat.ne_of_gt hel)).trans hT
    have new : ObjOk X.prog X.w (upd H s.heap.objs.size (.tup [.int (i : Nat), x])) h'' s.heap.objs.size (.tup [.int (i : Nat), x]) :=
      ⟨by show 2 ≤ sizeLine; decide, [.int i tk, x2], .cons ⟨_, rfl⟩ (.cons ru .nil), ⟨_, hT2, rfl, _, rfl⟩⟩
    have I1 : Inv X pins σ (upd H s.heap.objs.size (.tup [.int (i : Nat), x])) { s with heap := h'', toks := tk + 1 } :=
      I.turnedNew (ch := [e, it]) (fun b ob hb q => (sb.2 b (fun z => hb (by simp [z]))).trans (hk b ob (fun z => hb (by simp [z])) (fun z => hb (by simp [z])) q)) hf (Nat.le_refl _) new
    refine ⟨.ref s.heap.objs.size, _, I1, rfl, ⟨_, x, rfl, I.hok.fresh (Nat.le_refl _), rfl, fun ys hy => by rw [I.tuple_inj hy hq]; exact hx⟩, ⟨⟨x2, ?_⟩, hit'.1.at fun o q => (sb.2 it (Ne.symm hne)).trans q, hne, hea⟩, fun b hb => ?_⟩
    · have e1 : ((i + 1 : Nat) : Int) = (i : Int) + 1 := by omega
      rw [e1]; exact he'
    · have hb' : b < s.heap.objs.size := by
        have e' : b = e ∨ b = it := by simpa using hb
        rcases e' with z | z
        · rw [z]; exact hel
        · rw [z]; exact hil
      rw [upd_ne (Nat.ne_of_lt hb')]
      exact (hf b hb).1
  done := by
    intro X hP hw hK hc i pins s σ H E I hf st hg
    subst hP hw hK
    obtain ⟨⟨old, he⟩, hit, hne, hea⟩ := st
    obtain ⟨xs, hq, hx⟩ := hg
    obtain ⟨its, rv, p, hz⟩ := I.tuple hq
    obtain ⟨f0, f1, f2, f3, f4, f5⟩ := hf it (by simp)
    have hl := rv.length
    have hT0 : s.heap.IsTuple a its.toArray := p
    have hD : Draws X.prog X.w X.A.in1 it [it, a] its.toArray.size (fun i x => its.toArray[i]? = some x) (fun j h => (∃ k, h.IsTupleIter it a k ∧ its.toArray.size ≤ k ∧ k = i) ∧ h.IsTuple a its.toArray ∧ its.toArray.size ≤ j) := by
      refine ⟨fun j h st => let ⟨_, ⟨o, e, _⟩, _⟩ := st.1; ⟨o, e⟩, fun j h h' st k => ⟨let ⟨q, a1, a2⟩ := st.1; ⟨q, a1.at fun o e => k it (by simp) o e, a2⟩, let ⟨o, e, r⟩ := st.2.1; ⟨o, k a (by simp) o e, r⟩, st.2.2⟩, fun j s Q E hi st hQ => absurd st.2.2 (by omega), fun s Q E st hE => ?_⟩
      obtain ⟨k, a1, a2, a3⟩ := st.1
      exact RZ.nextOf_tuple_end (by exact I.ok.hd hc) a1 st.2.1 (Array.getElem?_eq_none (by omega)) hE
    exact wpAny_pyNext_enum_endD hD he ⟨⟨i, hit, by simp; omega, rfl⟩, hT0, Nat.le_refl _⟩ fun h' eb => ⟨rfl, I.turned (t' := s.toks) (fun b o hb q => eb b o hb q) f0 f1 f3 f4 f5⟩
  self := fun A i s Q E st h => let ⟨⟨_, he⟩, _⟩ := st; wpAny_pyIter_enum he h
/-- enumerate of a list or a tuple -/
def iEnumA (K : PySem.W.Frag) (ta : TA) : TI := fun σ H R => ta σ H fun vs H1 => ∃ a xs, vs = [.ref a] ∧ ((SqL K H1 a xs ∧ R (Ite K a) H1) ∨ (SqT K H1 a xs ∧ R (IteT K a) H1))
theorem pi_enumA {X : Cx} {e : Expr} {ta : TA} {p pos tpos : Pos} {elts : List Expr} {kk : Nat} (hg : Gl X "enumerate") (hm : X.mg "enumerate" = none) (ha : PA X [e] ta) (hs : starEach [e] X.env = [(false, eval e X.env)]) :
    PI X (.Tuple elts kk tpos) (.Call (.Name "enumerate" p) [e] [] pos) (iEnumA X.K ta) := by
  refine ⟨fun pins s σ H R I h => ?_⟩
  refine Call_ (ld_blt I hg hm boot_enumerate (PyProof.Rows.callWith_type1 (thn (ha.run pos pins s σ H _ I h) fun us s1 ⟨vs, H1, I1, r1, q1⟩ => ?_) hs rfl))
  obtain ⟨a, xs, ex, q⟩ := q1
  subst ex
  cases r1 with
  | cons r rr =>
    cases rr
    cases r
    have fp : ∀ b ∈ [s1.heap.objs.size + 1, s1.heap.objs.size], FpOk X pins H1 b := fun b hb => by
      have e' : b = s1.heap.objs.size + 1 ∨ b = s1.heap.objs.size := by simpa using hb
      have hle : s1.heap.objs.size ≤ b := by
        rcases e' with z | z
        · rw [z]; exact Nat.le_add_right _ _
        · rw [z]; exact Nat.le_refl _
      exact I1.fpOk hle (I1.hok.fresh hle)
    rcases q with ⟨hq, q⟩ | ⟨hq, q⟩
    · obtain ⟨its, rv, p', hz⟩ := I1.list hq
      refine call_enumerate_list p'.isList fun h' he hit hsz hk => wpAny_pyIter_enum he ?_
      have I2 : Inv X pins σ H1 { s1 with heap := h' } := I1.kept (t' := s1.toks) hk
      exact ⟨s1.heap.objs.size + 1, [s1.heap.objs.size + 1, s1.heap.objs.size], _, _, H1, rfl, I2, turn_enum a (s1.heap.objs.size + 1) s1.heap.objs.size, ⟨⟨.none, he⟩, hit, Nat.succ_ne_self _⟩, fp, q⟩
    · obtain ⟨its, rv, p', hz⟩ := I1.tuple hq
      have hT0 : s1.heap.IsTuple a its.toArray := p'
      have hal : a < s1.heap.objs.size := let ⟨o, e, _⟩ := hT0; Heap.lt_size e
      refine gw_call_enumerate_tuple hT0 fun h' he hit hsz hk => wpAny_pyIter_enum he ?_
      have I2 : Inv X pins σ H1 { s1 with heap := h' } := I1.kept (t' := s1.toks) hk
      exact ⟨s1.heap.objs.size + 1, [s1.heap.objs.size + 1, s1.heap.objs.size], _, _, H1, rfl, I2, turn_enumT a (s1.heap.objs.size + 1) s1.heap.objs.size (Nat.ne_of_gt hal), ⟨⟨.none, he⟩, hit, Nat.succ_ne_self _, Nat.ne_of_gt (Nat.lt_succ_of_lt hal)⟩, fp, q⟩
theorem walk_enumT {K : PySem.W.Frag} {a : Addr} {xs : List V} : Walk (IteT K a) xs.length (fun H => SqT K H a xs) (YPair (fun i => some (.int (i : Nat))) (fun i => xs[i]?)) := by
  refine ⟨fun i _ hi q => ⟨xs, xs[i], q, by simp [hi]⟩, fun _ q => ⟨xs, q, Nat.le_refl _⟩, fun i H v H' _ q y => ?_⟩
  obtain ⟨T, x, h1, h2, h3, h4⟩ := y
  exact ⟨T, .int (i : Nat), x, h1, h2, h3, rfl, h4 xs q⟩
/-- a list or a tuple that is walked -/
def iSeq (K : PySem.W.Frag) (tl : TE) : TI := fun σ H R => tl σ H fun x H1 => ∃ a xs, x = .ref a ∧ ((SqL K H1 a xs ∧ R (Itl K a) H1) ∨ (SqT K H1 a xs ∧ R (Itt K a) H1))
theorem pi_seq {X : Cx} {tg l : Expr} {tl : TE} (hl : PE X l tl) : PI X tg l (iSeq X.K tl) := by
  refine ⟨fun pins s σ H R I h => ?_⟩
  refine thn (hl.run pins s σ H _ I h) fun v s1 ⟨x, H1, I1, r1, q1⟩ => ?_
  obtain ⟨a, xs, e, q⟩ := q1
  subst e
  cases r1
  have fp : ∀ b ∈ [s1.heap.objs.size], FpOk X pins H1 b := fun b hb => by
    have e : b = s1.heap.objs.size := by simpa using hb
    subst e
    exact I1.fpOk (Nat.le_refl _) (I1.hok.fresh (Nat.le_refl _))
  rcases q with ⟨hq, q⟩ | ⟨hq, q⟩
  · obtain ⟨its, rv, p, hz⟩ := I1.list hq
    refine wpAny_pyIter_list p.isList ?_
    exact ⟨s1.heap.objs.size, [s1.heap.objs.size], _, _, H1, rfl, I1.kept (t' := s1.toks) fun b o e => Heap.get?_push_of_some _ e, turn_list a _, ⟨_, Heap.get?_push_size _ rfl, rfl, rfl⟩, fp, q⟩
  · obtain ⟨its, rv, p, hz⟩ := I1.tuple hq
    refine wpAny_pyIter_tuple (show s1.heap.IsTuple a its.toArray from p) ?_
    exact ⟨s1.heap.objs.size, [s1.heap.objs.size], _, _, H1, rfl, I1.kept (t' := s1.toks) fun b o e => Heap.get?_push_of_some _ e, turn_tuple a _, ⟨_, Heap.get?_push_size _ rfl, rfl, rfl⟩, fp, q⟩
end L2

set_option Elab.async false
set_option linter.all false
set_option autoImplicit false
set_option maxRecDepth 100000
set_option maxHeartbeats 4000000
/-! What is walked; targets; comprehensions. -/
namespace GW
open PySem PySem.Spec PyProof.Rows L2 RZ
/-- an iterator gives the items -/
def Wk (K : PySem.W.Frag) (L : Link) (S : RS) (ds : List D) (J : It) : Prop :=
  ∀ S2 H2 M2, Le S S2 → SR K L S2 M2 H2 → (∀ i, i < ds.length → J.go i H2 ∧ ∀ x H3, J.yld i H2 x H3 → ∃ S3 d, Step S2 H2 S3 H3 ∧ SR K L S3 M2 H3 ∧ ds[i]? = some d ∧ Rep K L S3 d x) ∧ J.stop ds.length H2
def tIt (Γ : Prog) (cf : Calls) (K : PySem.W.Frag) (L : Link) (E : XK) (it : CI) : TI := fun σ H R => ∃ S M ρ, SR K L S M H ∧ EnvR K L S ρ σ ∧ Fin K L S H E (evI Γ cf it ρ M) (fun ds _ S' H' => ∀ J, Wk K L S' ds J → R J H')
section
variable {K : PySem.W.Frag} {L : Link} {S : RS}
theorem wk_seqT {a : Addr} {xs : List D} {vs : List V} (h : SqT K S.HF a vs) (r : Reps K L S xs vs) : Wk K L S xs (Itt K a) := by
  intro S2 H2 M2 le sr
  have q : SqT K H2 a vs := sqT_mono (fun b o e => sr.sub b o (le.hf b o e)) h
  have w := walk_tup (K := K) (a := a) (xs := vs)
  refine ⟨fun i hi => ⟨w.goes i H2 (by rw [r.length]; exact hi) q, fun x H3 y => ?_⟩, by have := w.stops H2 q; rwa [r.length] at this⟩
  obtain ⟨e, hx⟩ := w.yields i H2 x H3 (by rw [r.length]; exact hi) q y
  subst e
  obtain ⟨d, hd, rd⟩ := r.get' hx
  exact ⟨S2, d, .refl _ _, sr, hd, rd.mono le⟩
theorem wk_seqL {a : Addr} {xs : List D} {vs : List V} (h : Rd S.HF a (.lst vs)) (r : Reps K L S xs vs) : Wk K L S xs (Itl K a) := by
  intro S2 H2 M2 le sr
  have q : SqL K H2 a vs := .inl (rd_mono (fun b o e => sr.sub b o (le.hf b o e)) h)
  have w := walk_list (K := K) (a := a) (xs := vs)
  refine ⟨fun i hi => ⟨w.goes i H2 (by rw [r.length]; exact hi) q, fun x H3 y => ?_⟩, by have := w.stops H2 q; rwa [r.length] at this⟩
  obtain ⟨e, hx⟩ := w.yields i H2 x H3 (by rw [r.length]; exact hi) q y
  subst e
  obtain ⟨d, hd, rd⟩ := r.get' hx
  exact ⟨S2, d, .refl _ _, sr, hd, rd.mono le⟩
/-- a new pair -/
theorem pair_step {S2 : RS} {H2 : Hp} {M2 : Mem} {T : Addr} {x y : V} {dx dy : D} (sr : SR K L S2 M2 H2) (hT : H2 T = none) (rx : Rep K L S2 dx x) (ry : Rep K L S2 dy y) :
    ∃ S3, Step S2 H2 S3 (upd H2 T (.tup [x, y])) ∧ SR K L S3 M2 (upd H2 T (.tup [x, y])) ∧ Rep K L S3 (pairD dx dy) (.ref T) := by
  obtain ⟨sr', st⟩ := sr.newF (o := .tup [x, y]) hT
  exact ⟨_, st, sr', rep_tup st.le upd_same (.cons rx (.cons ry .nil))⟩
theorem enuD_get : ∀ (xs : List D) (n i : Nat), (enuD n xs)[i]? = xs[i]?.map fun x => pairD (.int ((n + i : Nat) : Int)) x
  | [], _, _ => by simp [enuD]
  | x :: xs, n, 0 => by simp [enuD]
  | x :: xs, n, i + 1 => by
    rw [enuD, List.getElem?_cons_succ, List.getElem?_cons_succ, enuD_get xs (n + 1) i]
    have : n + 1 + i = n + (i + 1) := by omega
    rw [this]
theorem enuD_len : ∀ (xs : List D) (n : Nat), (enuD n xs).length = xs.length
  | [], _ => rfl
  | x :: xs, n => by rw [enuD, List.length_cons, List.length_cons, enuD_len xs (n + 1)]
theorem wk_enum {J : It} {n : Nat} {xs : List D} {vs : List V} (r : Reps K L S xs vs) (hn : n = vs.length) {G : Hp → Prop} (w : Walk J n G (YPair (fun i => some (.int (i : Nat))) (fun i => vs[i]?)))
    (hG : ∀ S2 H2 M2, Le S S2 → SR K L S2 M2 H2 → G H2) : Wk K L S (enuD 0 xs) J := by
  intro S2 H2 M2 le sr
  have g := hG S2 H2 M2 le sr
  have hl : (enuD 0 xs).length = n := by rw [enuD_len, hn, r.length]
  refine ⟨fun i hi => ⟨w.goes i H2 (by omega) g, fun v H3 y => ?_⟩, by have := w.stops H2 g; rwa [hl]⟩
  obtain ⟨T, a, b, rfl, hT, rfl, ha, hb⟩ := w.yields i H2 v H3 (by omega) g y
  obtain ⟨d, hd, rd⟩ := r.get' hb
  have ha : V.int (i : Nat) = a := Option.some.inj ha
  subst ha
  obtain ⟨S3, st3, sr3, r3⟩ := pair_step (dx := .int (i : Nat)) sr hT rep_int (rd.mono le)
  exact ⟨S3, _, st3, sr3, by rw [enuD_get, hd]; simp, r3⟩
theorem zipD_get : ∀ (xs ys : List D) (i : Nat) (x y : D), xs[i]? = some x → ys[i]? = some y → (zipD xs ys)[i]? = some (pairD x y)
  | [], _, _, _, _, h, _ => by simp at h
  | _ :: _, [], _, _, _, _, h => by simp at h
  | x :: xs, y :: ys, 0, a, b, h1, h2 => by simp at h1 h2; simp [zipD, h1, h2]
  | x :: xs, y :: ys, i + 1, a, b, h1, h2 => by
    rw [zipD, List.getElem?_cons_succ]
    exact zipD_get xs ys i a b (by simpa using h1) (by simpa using h2)
theorem zipD_len : ∀ (xs ys : List D), (zipD xs ys).length = min xs.length ys.length
  | [], _ => by simp [zipD]
  | _ :: _, [] => by simp [zipD]
  | x :: xs, y :: ys => by simp [zipD, zipD_len xs ys]
theorem wk_zip {J : It} {n : Nat} {xs ys : List D} {vs ws : List V} (r1 : Reps K L S xs vs) (r2 : Reps K L S ys ws) (hn : n = min vs.length ws.length) {G : Hp → Prop} (w : Walk J n G (YPair (fun i => vs[i]?) (fun i => ws[i]?)))
    (hG : ∀ S2 H2 M2, Le S S2 → SR K L S2 M2 H2 → G H2) : Wk K L S (zipD xs ys) J := by
  intro S2 H2 M2 le sr
  have g := hG S2 H2 M2 le sr
  have hl : (zipD xs ys).length = n := by rw [zipD_len, hn, r1.length, r2.length]
  refine ⟨fun i hi => ⟨w.goes i H2 (by omega) g, fun v H3 y => ?_⟩, by have := w.stops H2 g; rwa [hl]⟩
  obtain ⟨T, a, b, rfl, hT, rfl, ha, hb⟩ := w.yields i H2 v H3 (by omega) g y
  obtain ⟨d1, hd1, rd1⟩ := r1.get' ha
  obtain ⟨d2, hd2, rd2⟩ := r2.get' hb
  obtain ⟨S3, st3, sr3, r3⟩ := pair_step sr hT (rd1.mono le) (rd2.mono le)
  exact ⟨S3, _, st3, sr3, zipD_get _ _ _ _ _ hd1 hd2, r3⟩
theorem rngD_get : ∀ (n i : Nat) (a : Int), i < n → (rngD a n)[i]? = some (.int (a + i))
  | 0, _, _, h => absurd h (Nat.not_lt_zero _)
  | n + 1, 0, a, _ => by simp [rngD]
  | n + 1, i + 1, a, h => by
    rw [rngD, List.getElem?_cons_succ, rngD_get n i (a + 1) (by omega)]
    congr 2
    have : a + 1 + (i : Int) = a + ((i + 1 : Nat) : Int) := by omega
    rw [this]
theorem rngD_len : ∀ (n : Nat) (a : Int), (rngD a n).length = n
  | 0, _ => rfl
  | n + 1, a => by rw [rngD, List.length_cons, rngD_len n]
theorem wk_rng {lo : Int} {n : Nat} : Wk K L S (rngD lo n) (Itr lo n) := by
  intro S2 H2 M2 le sr
  refine ⟨fun i hi => ?_, ?_⟩
  · rw [rngD_len] at hi
    refine ⟨hi, fun x H3 y => ?_⟩
    obtain ⟨rfl, rfl⟩ := y
    exact ⟨S2, _, .refl _ _, sr, rngD_get n i lo hi, rep_int⟩
  · rw [rngD_len]
    exact Nat.le_refl _
end
section
variable {X : Cx} {Γ : Prog} {L : Link} {cf : Calls} {k : Nat} {E : XK} {N : List Str} {sc : Scope} {st : Str → Bool} {a b c e tg : Expr} {es : List Expr} {ca cb cc ce : CE} {cs : CEs} {pos : Pos}
theorem _root_.L2.PI.imp {t t' : TI} (h : PI X tg e t) (i : ∀ σ H R, t' σ H R → t σ H R) : PI X tg e t' := ⟨fun pins s σ H R I q => h.run pins s σ H R I (i σ H R q)⟩
theorem s_seq (ha : PE X a (tI Γ cf X.K L E ca)) : PI X tg a (tIt Γ cf X.K L E (.seq ca)) := by
  refine (pi_seq ha).imp fun σ H R h => ?_
  obtain ⟨S, M, ρ, sr, er, h⟩ := h
  rw [evI] at h
  refine ⟨S, M, ρ, sr, er, h.bind.imp fun x M1 S1 H1 st1 sr1 h1 v rv => ?_⟩
  obtain ⟨ds, e, h2⟩ := h1.of sr1
  have h3 := h2 S1 H1 (.refl _ _) sr1
  cases x <;> simp only [itemsD] at e <;> try (cases e; done)
  case tup xs =>
    cases e
    rw [Rep] at rv
    obtain ⟨p, vs, rfl, hq, r⟩ := rv
    exact ⟨p, vs, rfl, .inr ⟨sqT_mono sr1.sub hq, h3 _ (wk_seqT hq r)⟩⟩
  case lst xs =>
    cases e
    rw [Rep] at rv
    obtain ⟨p, vs, rfl, hq, r⟩ := rv
    exact ⟨p, vs, rfl, .inl ⟨.inl (rd_mono sr1.sub hq), h3 _ (wk_seqL hq r)⟩⟩
  case tupk xs =>
    cases e
    rw [Rep] at rv
    obtain ⟨p, vs, rfl, hq, r⟩ := rv
    exact ⟨p, vs, rfl, .inr ⟨sqT_mono sr1.sub hq.seq, h3 _ (wk_seqT hq.seq r)⟩⟩
theorem s_rng1 (G : Good Γ L cf k E N sc st X) {p : Pos} (hg : Gl X "range") (hs : noStar a = true) (ha : PE X a (tI Γ cf X.K L E ca)) : PI X tg (.Call (.Name "range" p) [a] [] pos) (tIt Γ cf X.K L E (.rng1 ca)) := by
  refine (pi_range1 hg (G.lk.blt _ (by decide +kernel)) (pa_cons ha pa_nil (star_cons hs)) (star_cons hs)).imp fun σ H R h => ?_
  obtain ⟨S, M, ρ, sr, er, h⟩ := h
  rw [evI] at h
  refine ⟨S, M, ρ, sr, er, h.bind.imp fun x M1 S1 H1 st1 sr1 h1 v rv => ?_⟩
  cases x <;> try exact (show False from h1).elim
  rename_i j
  dsimp only at h1
  split at h1
  · rename_i hz
    simp only [smallR, Bool.and_eq_true, decide_eq_true_eq] at hz
    rw [Rep] at rv
    subst rv
    exact ⟨j, rfl, hz.1, hz.2, Fin.now sr1 h1 _ wk_rng⟩
  · exact (show False from h1).elim
theorem s_rng2 (G : Good Γ L cf k E N sc st X) {p : Pos} (hg : Gl X "range") (hs : noStar a = true) (hs2 : noStar b = true) (ha : PE X a (tI Γ cf X.K L E ca)) (hb : PE X b (tI Γ cf X.K L E cb)) : PI X tg (.Call (.Name "range" p) [a, b] [] pos) (tIt Γ cf X.K L E (.rng2 ca cb)) := by
  have e1 : starEach [b] X.env = [(false, eval b X.env)] := star_cons hs2
  have e2 : starEach [a, b] X.env = [(false, eval a X.env), (false, eval b X.env)] := by rw [star_cons hs, e1]
  refine (pi_range2 hg (G.lk.blt _ (by decide +kernel)) (pa_cons ha (pa_cons hb pa_nil e1) (star_cons hs)) e2 e1).imp fun σ H R h => ?_
  obtain ⟨S, M, ρ, sr, er, h⟩ := h
  rw [evI] at h
  refine ⟨S, M, ρ, sr, er, h.bind.imp fun x M1 S1 H1 st1 sr1 h1 v rv => ⟨S1, M1, ρ, sr1, er.mono st1.le, h1.bind.imp fun y M2 S2 H2 st2 sr2 h2 u ru => ?_⟩⟩
  cases x <;> try exact (show False from h2).elim
  cases y <;> try exact (show False from h2).elim
  rename_i i j
  dsimp only at h2
  split at h2
  · rename_i hz
    simp only [smallR, Bool.and_eq_true, decide_eq_true_eq] at hz
    rw [Rep] at rv ru
    subst rv ru
    exact ⟨i, j, rfl, ⟨hz.1.1, hz.1.2, hz.2.1, hz.2.2⟩, Fin.now sr2 h2 _ wk_rng⟩
  · exact (show False from h2).elim
theorem s_enu (G : Good Γ L cf k E N sc st X) {p tpos : Pos} {elts : List Expr} {kk : Nat} (hg : Gl X "enumerate") (hs : noStar a = true) (ha : PE X a (tI Γ cf X.K L E ca)) : PI X (.Tuple elts kk tpos) (.Call (.Name "enumerate" p) [a] [] pos) (tIt Γ cf X.K L E (.enu ca)) := by
  refine (pi_enumA hg (G.lk.blt _ (by decide +kernel)) (pa_cons ha pa_nil (star_cons hs)) (star_cons hs)).imp fun σ H R h => ?_
  obtain ⟨S, M, ρ, sr, er, h⟩ := h
  rw [evI] at h
  refine ⟨S, M, ρ, sr, er, h.bind.imp fun x M1 S1 H1 st1 sr1 h1 v rv => ?_⟩
  obtain ⟨ds, e, h2⟩ := h1.of sr1
  have h3 := h2 S1 H1 (.refl _ _) sr1
  cases x <;> simp only [itemsD] at e <;> try (cases e; done)
  case tup xs =>
    cases e
    rw [Rep] at rv
    obtain ⟨p, vs, rfl, hq, r⟩ := rv
    exact ⟨p, vs, rfl, .inr ⟨sqT_mono sr1.sub hq, h3 _ (wk_enum r rfl walk_enumT fun S2 H2 M2 le sr => sqT_mono (fun b o e => sr.sub b o (le.hf b o e)) hq)⟩⟩
  case lst xs =>
    cases e
    rw [Rep] at rv
    obtain ⟨p, vs, rfl, hq, r⟩ := rv
    exact ⟨p, vs, rfl, .inl ⟨.inl (rd_mono sr1.sub hq), h3 _ (wk_enum r rfl walk_enum fun S2 H2 M2 le sr => .inl (rd_mono (fun b o e => sr.sub b o (le.hf b o e)) hq))⟩⟩
  case tupk xs =>
    cases e
    rw [Rep] at rv
    obtain ⟨p, vs, rfl, hq, r⟩ := rv
    exact ⟨p, vs, rfl, .inr ⟨sqT_mono sr1.sub hq.seq, h3 _ (wk_enum r rfl walk_enumT fun S2 H2 M2 le sr => sqT_mono (fun b o e => sr.sub b o (le.hf b o e)) hq.seq)⟩⟩
theorem walk_zipT2 {K : PySem.W.Frag} {a b : Addr} {xs ys : List V} {n : Nat} (hn : n = min xs.length ys.length) : Walk (ItzT K a b) n (fun H => SqT K H a xs ∧ SqT K H b ys) (YPair (fun i => xs[i]?) (fun i => ys[i]?)) := by
  subst hn
  refine ⟨fun i _ hi q => ?_, fun _ q => ⟨xs, ys, q.1, q.2, by omega⟩, fun i H v H' _ q y => ?_⟩
  · have h1 : i < xs.length := by omega
    have h2 : i < ys.length := by omega
    exact ⟨xs, ys, xs[i], ys[i], q.1, q.2, by simp [h1], by simp [h2]⟩
  · obtain ⟨T, x, z, h1, h2, h3, h4, h5⟩ := y
    exact ⟨T, x, z, h1, h2, h3, h4 xs q.1, h5 ys q.2⟩
theorem s_zip (G : Good Γ L cf k E N sc st X) {p tpos : Pos} {elts : List Expr} {kk : Nat} (hg : Gl X "zip") (hs : noStar a = true) (hs2 : noStar b = true) (ha : PE X a (tI Γ cf X.K L E ca)) (hb : PE X b (tI Γ cf X.K L E cb)) :
    PI X (.Tuple elts kk tpos) (.Call (.Name "zip" p) [a, b] [] pos) (tIt Γ cf X.K L E (.zip ca cb)) := by
  have e1 : starEach [b] X.env = [(false, eval b X.env)] := star_cons hs2
  have e2 : starEach [a, b] X.env = [(false, eval a X.env), (false, eval b X.env)] := by rw [star_cons hs, e1]
  refine (pi_zipA hg (G.lk.blt _ (by decide +kernel)) (pa_cons ha (pa_cons hb pa_nil e1) (star_cons hs)) (star_cons hs) (by rw [e1]; rfl)).imp fun σ H R h => ?_
  obtain ⟨S, M, ρ, sr, er, h⟩ := h
  rw [evI] at h
  refine ⟨S, M, ρ, sr, er, h.bind.imp fun x M1 S1 H1 st1 sr1 h1 v rv => ⟨S1, M1, ρ, sr1, er.mono st1.le, h1.bind.imp fun y M2 S2 H2 st2 sr2 h2 u ru => ?_⟩⟩
  have rv := rv.mono st2.le
  cases x <;> try exact (show False from h2).elim
  case tup xs =>
    cases y <;> try exact (show False from h2).elim
    rename_i ys
    rw [Rep] at rv ru
    obtain ⟨p, vs, rfl, hp, r1⟩ := rv
    obtain ⟨q, ws, rfl, hq, r2⟩ := ru
    exact ⟨p, q, vs, ws, rfl, .inr ⟨sqT_mono sr2.sub hp, sqT_mono sr2.sub hq, Fin.now sr2 h2 _ (wk_zip r1 r2 rfl (walk_zipT2 rfl) fun S3 H3 M3 le sr => ⟨sqT_mono (fun b o e => sr.sub b o (le.hf b o e)) hp, sqT_mono (fun b o e => sr.sub b o (le.hf b o e)) hq⟩)⟩⟩
  case lst xs =>
    cases y <;> try exact (show False from h2).elim
    rename_i ys
    rw [Rep] at rv ru
    obtain ⟨p, vs, rfl, hp, r1⟩ := rv
    obtain ⟨q, ws, rfl, hq, r2⟩ := ru
    exact ⟨p, q, vs, ws, rfl, .inl ⟨.inl (rd_mono sr2.sub hp), .inl (rd_mono sr2.sub hq), Fin.now sr2 h2 _ (wk_zip r1 r2 rfl (walk_zip rfl) fun S3 H3 M3 le sr => ⟨.inl (rd_mono (fun b o e => sr.sub b o (le.hf b o e)) hp), .inl (rd_mono (fun b o e => sr.sub b o (le.hf b o e)) hq)⟩)⟩⟩
/-! ### targets -/
/-- what a store to a target leaves of the names -/
def Kp : Option (List Nat) → L2.St → L2.St → Prop
  | none, _, _ => True
  | some l, σ, σ' => L2.wipe σ' l = L2.wipe σ l
theorem Kp.refl (w : Option (List Nat)) (σ : L2.St) : Kp w σ σ := by cases w <;> trivial
theorem Kp.trans {w : Option (List Nat)} {a b c : L2.St} (h : Kp w a b) (g : Kp w b c) : Kp w a c := by
  cases w with
  | none => trivial
  | some l => exact Eq.trans g h
theorem wipe_set {σ : L2.St} {i : Nat} {v : Option V} : ∀ {l : List Nat}, i ∈ l → L2.wipe (σ.set i v) l = L2.wipe σ l
  | [], h => by cases h
  | j :: l, h => by
    unfold L2.wipe
    by_cases hj : i ∈ l
    · rw [wipe_set hj]
    · have hij : i = j := by
        rcases List.mem_cons.mp h with e | e
        · exact e
        · exact absurd e hj
      subst hij
      have : ∀ (σ : L2.St) (l : List Nat), L2.wipe (σ.set i v) l = (L2.wipe σ l).set i v ∨ i ∈ l := fun σ l => by
        induction l generalizing σ with
        | nil => exact .inl rfl
        | cons k l ih =>
          by_cases hk : i = k
          · exact .inr (by simp [hk])
          · rcases ih σ with e | e
            · left
              unfold L2.wipe
              rw [e, List.set_comm _ _ hk]
            · exact .inr (List.mem_cons_of_mem _ e)
      rcases this σ l with e | e
      · rw [e, List.set_set]
      · exact absurd e hj
def inOwn (w : Option (List Nat)) (i : Nat) : Bool := match w with | none => true | some l => l.contains i
theorem kp_set {w : Option (List Nat)} {σ : L2.St} {i : Nat} {v : Option V} (h : inOwn w i = true) : Kp w σ (σ.set i v) := by
  cases w with
  | none => trivial
  | some l => exact wipe_set (by simpa [inOwn] using h)
def tG (Γ : Prog) (cf : Calls) (K : PySem.W.Frag) (L : Link) (E : XK) (w : Option (List Nat)) (t : CT) : TG := fun v σ H Q => ∃ S M ρ d, SR K L S M H ∧ EnvR K L S ρ σ ∧ Rep K L S d v ∧ Fin K L S H E (evT Γ cf t d ρ M) (fun ρ' _ S' H' => ∀ σ', EnvR K L S' ρ' σ' → Kp w σ σ' → Q σ' H')
def tGs (Γ : Prog) (cf : Calls) (K : PySem.W.Frag) (L : Link) (E : XK) (w : Option (List Nat)) (ts : CTs) : TGs := fun vs σ H Q => ∃ S M ρ ds, SR K L S M H ∧ EnvR K L S ρ σ ∧ Reps K L S ds vs ∧ Fin K L S H E (evTs Γ cf ts ds ρ M) (fun ρ' _ S' H' => ∀ σ', EnvR K L S' ρ' σ' → Kp w σ σ' → Q σ' H')
theorem _root_.L2.PG.imp {t t' : TG} (h : PG X e t) (i : ∀ v σ H Q, t' v σ H Q → t v σ H Q) : PG X e t' := ⟨fun pins s σ H v u Q I r q => h.run pins s σ H v u Q I r (i v σ H Q q)⟩
theorem _root_.L2.PGs.imp {es : List Expr} {t t' : TGs} (h : PGs X es t) (i : ∀ v σ H Q, t' v σ H Q → t v σ H Q) : PGs X es t' := ⟨fun pins s σ H v u Q I r q => h.run pins s σ H v u Q I r (i v σ H Q q)⟩
theorem s_gname {w : Option (List Nat)} {i : Nat} {x : Str} (hN : X.N.Nodup) (hi : X.N[i]? = some x) (hx : Loc X.env.scope x) (hf : X.fn x = true ∨ X.env.scope.names.lookup x = some .local) (hw : inOwn w i = true) : PG X (.Name x pos) (tG Γ cf X.K L E w (.name i)) := by
  refine (pg_name hN hi hx hf).imp fun v σ H Q h => ?_
  obtain ⟨S, M, ρ, d, sr, er, rd, h⟩ := h
  rw [evT] at h
  exact Fin.now sr h _ (er.set rd) (kp_set hw)
theorem s_gnil {w : Option (List Nat)} : PGs X [] (tGs Γ cf X.K L E w .nil) := by
  refine pgs_nil.imp fun vs σ H Q h => ?_
  obtain ⟨S, M, ρ, ds, sr, er, rd, h⟩ := h
  cases ds with
  | nil => rw [evTs] at h; exact ⟨rd.nil_inv, Fin.now sr h _ er (.refl _ _)⟩
  | cons _ _ => rw [evTs.eq_def] at h; exact (show False from h).elim
theorem asg_cons {env : PySem.Env} (h : noStar e = true) : assignEach (e :: es) env = (false, assign e env) :: assignEach es env := by
  cases e <;> first | rfl | exact absurd (show false = true from h) Bool.false_ne_true
theorem s_gcons {w : Option (List Nat)} {t : CT} {ts : CTs} (h1 : PG X e (tG Γ cf X.K L E w t)) (h2 : PGs X es (tGs Γ cf X.K L E w ts)) (hs : noStar e = true) : PGs X (e :: es) (tGs Γ cf X.K L E w (.cons t ts)) := by
  refine (pgs_cons h1 h2 (by rw [asg_cons hs]; rfl)).imp fun vs σ H Q h => ?_
  obtain ⟨S, M, ρ, ds, sr, er, rd, h⟩ := h
  cases ds with
  | nil => rw [evTs.eq_def] at h; exact (show False from h).elim
  | cons d ds =>
    rw [evTs] at h
    obtain ⟨v, vr, rfl, r1, r2⟩ := rd.cons_inv
    exact ⟨v, vr, rfl, S, M, ρ, d, sr, er, r1, h.bind.imp fun ρ1 M1 S1 H1 st1 sr1 h1 σ1 er1 k1 => ⟨S1, M1, ρ1, ds, sr1, er1, r2.mono st1.le, h1.imp fun _ _ _ _ _ _ q σ2 e2 k2 => q σ2 e2 (k1.trans k2)⟩⟩
theorem asg_len {env : PySem.Env} : ∀ {es : List Expr}, es.all noStar = true → (assignEach es env).length = es.length ∧ (assignEach es env).findIdx? (·.1) = none
  | [], _ => ⟨rfl, rfl⟩
  | e :: es, h => by
    simp only [List.all_cons, Bool.and_eq_true] at h
    obtain ⟨h1, h2⟩ := asg_len (env := env) h.2
    rw [asg_cons h.1]
    refine ⟨by rw [List.length_cons, List.length_cons, h1], ?_⟩
    rw [List.findIdx?_cons]
    simp [h2]
theorem s_gtup {w : Option (List Nat)} {ts : CTs} {kk : Nat} (hc : X.calm = true) (h : PGs X es (tGs Γ cf X.K L E w ts)) (hs : es.all noStar = true) (hn : lenTs ts = es.length) : PG X (.Tuple es kk pos) (tG Γ cf X.K L E w (.tup ts)) := by
  refine (pg_tup hc h (asg_len hs).1 (asg_len hs).2).imp fun v σ H Q h => ?_
  obtain ⟨S, M, ρ, d, sr, er, rd, h⟩ := h
  rw [evT] at h
  cases d <;> simp only [itemsT] at h <;> try exact (show False from h).elim
  case tup xs =>
    split at h
    · rename_i hz
      rw [Rep] at rd
      obtain ⟨p, vs, rfl, hq, r⟩ := rd
      exact ⟨p, vs, rfl, sqT_mono sr.sub hq, by rw [r.length, hz, hn], S, M, ρ, xs, sr, er, r, h⟩
    · exact (show False from h).elim
  case tupk xs =>
    split at h
    · rename_i hz
      rw [Rep] at rd
      obtain ⟨p, vs, rfl, hq, r⟩ := rd
      exact ⟨p, vs, rfl, sqT_mono sr.sub hq.seq, by rw [r.length, hz, hn], S, M, ρ, xs, sr, er, r, h⟩
    · exact (show False from h).elim
def notSlice : Expr → Bool
  | .Slice .. => false
  | _ => true
/-- a live list written at a place -/
theorem setIx_ok {S : RS} {M : Mem} {H : Hp} {o i v : V} {od jd d : D} {Q : Unit → Mem → RS → Hp → Prop} (sr : SR X.K L S M H) (ro : Rep X.K L S od o) (ri : Rep X.K L S jd i) (rv : Rep X.K L S d v)
    (h : Fin X.K L S H E (setIx od jd d M) Q) : rSetL o i v H (fun H' => ∃ M' S', Step S H S' H' ∧ SR X.K L S' M' H' ∧ Q () M' S' H') := by
  unfold setIx at h
  cases od <;> try exact (show False from h).elim
  cases jd <;> try exact (show False from h).elim
  rename_i n k
  dsimp only at h
  rw [Rep] at ro
  rw [Rep] at ri
  obtain ⟨p, hp, rfl⟩ := ro
  subst ri
  split at h
  · rename_i xs hm
    split at h
    · rename_i j hj
      obtain ⟨ws, e, r⟩ := sr.rp n _ p hm hp
      obtain ⟨sr', st⟩ := sr.write (o' := .lst (xs.set j d)) (ho := .lst (ws.set j v)) hm hp rfl ⟨_, rfl, r.set j rv⟩
      exact ⟨p, ws, k, j, rfl, rfl, e, by rw [r.length]; exact hj, _, _, st, sr', h _ _ st sr'⟩
    · exact (show False from h).elim
  · exact (show False from h).elim
theorem s_gsub {w : Option (List Nat)} (ha : PE X a (tI Γ cf X.K L E ca)) (hb : PE X b (tI Γ cf X.K L E cb)) (hs : notSlice b = true) : PG X (.Subscript a b pos) (tG Γ cf X.K L E w (.sub ca cb)) := by
  refine (pg_sub ha hb set_list (fun v => by cases b <;> first | rfl | exact absurd (show false = true from hs) Bool.false_ne_true)).imp fun v σ H Q h => ?_
  obtain ⟨S, M, ρ, d, sr, er, rd, h⟩ := h
  rw [evT] at h
  refine ⟨S, M, ρ, sr, er, h.bind.imp fun x M1 S1 H1 st1 sr1 h1 o ro => ⟨S1, M1, ρ, sr1, er.mono st1.le, h1.bind.imp fun y M2 S2 H2 st2 sr2 h2 i ri => ?_⟩⟩
  obtain ⟨p, xs, k, j, e1, e2, e3, e4, M3, S3, st3, sr3, q⟩ := setIx_ok sr2 (ro.mono st2.le) ri ((rd.mono st1.le).mono st2.le) h2.bind
  exact ⟨p, xs, k, j, e1, e2, e3, e4, Fin.now sr3 q _ (((er.mono st1.le).mono st2.le).mono st3.le) (.refl _ _)⟩
end
end GW

set_option Elab.async false
set_option linter.all false
set_option autoImplicit false
set_option maxRecDepth 100000
set_option maxHeartbeats 4000000
/-! Comprehensions. -/
namespace GW
open PySem PySem.Spec PyProof.Rows L2 RZ
section
variable {K : PySem.W.Frag} {L : Link} {S : RS}
/-- an untracked new thing written -/
theorem SR.own {M : Mem} {H : Hp} {p : Addr} {vs : List V} {o' : HO} (sr : SR K L S M H) (hp : H p = some (.lst vs)) (np : p ∉ S.φ) (nf : S.HF p = none) : SR K L S M (upd H p o') := by
  have ne : ∀ a ∈ S.φ, a ≠ p := fun a ha z => np (z ▸ ha)
  refine ⟨fun a u h => ?_, sr.len, sr.nd, fun a ha => ?_, fun n u a h1 h2 => ?_, sr.fr, tabs_write hp ⟨(fun _ z => nomatch z), (fun _ z => nomatch z)⟩ (fun _ z => nomatch z) sr.tb, fun a ha u e => sr.nt a ha u (by rw [upd_ne (ne a ha)] at e; exact e), sr.nh⟩
  · rw [upd_ne (ne_of_none h nf)]
    exact sr.sub a u h
  · rw [upd_ne (ne a ha)]
    exact sr.al a ha
  · rw [upd_ne (ne a (List.mem_of_getElem? h2))]
    exact sr.rp n u a h1 h2
/-- an untracked thing frozen -/
theorem SR.ownF {M : Mem} {H : Hp} {p : Addr} {o : HO} (sr : SR K L S M H) (hp : H p = some o) (np : p ∉ S.φ) (nf : S.HF p = none) (ho : ∀ ps, o ≠ .tbl ps := by intro _ z; cases z) : SR K L ⟨upd S.HF p o, S.φ⟩ M H ∧ Le S ⟨upd S.HF p o, S.φ⟩ := by
  have ne : ∀ a ∈ S.φ, a ≠ p := fun a ha z => np (z ▸ ha)
  have le : Le S ⟨upd S.HF p o, S.φ⟩ := ⟨fun a o' h => by
    show upd S.HF p o a = some o'
    rw [upd_ne (ne_of_none h nf)]
    exact h, [], by simp⟩
  refine ⟨⟨fun a u h => ?_, sr.len, sr.nd, sr.al, fun n u a h1 h2 => (sr.rp n u a h1 h2).mono le, fun n u a h1 h2 h3 => ?_, sr.tb, sr.nt, nh_upd sr.nh ho⟩, le⟩
  · have h : upd S.HF p o a = some u := h
    by_cases z : a = p
    · subst z
      rw [upd_same] at h
      cases h
      exact hp
    · rw [upd_ne z] at h
      exact sr.sub a u h
  · show upd S.HF p o a = none
    rw [upd_ne (ne a (List.mem_of_getElem? h2))]
    exact sr.fr n u a h1 h2 h3
/-- an untracked thing tracked as live -/
theorem SR.ownL {M : Mem} {H : Hp} {p : Addr} {xs : List D} {vs : List V} (sr : SR K L S M H) (hp : H p = some (.lst vs)) (np : p ∉ S.φ) (nf : S.HF p = none) (r : Reps K L S xs vs) : SR K L ⟨S.HF, S.φ ++ [p]⟩ (M ++ [.lst xs]) H ∧ Le S ⟨S.HF, S.φ ++ [p]⟩ := by
  have le : Le S ⟨S.HF, S.φ ++ [p]⟩ := ⟨fun a o' h => h, [p], rfl⟩
  have hlen := sr.len
  have at_ : ∀ (n : Nat) (o' : MO) (a : Addr), (M ++ [MO.lst xs])[n]? = some o' → (S.φ ++ [p])[n]? = some a → (M[n]? = some o' ∧ S.φ[n]? = some a) ∨ (o' = MO.lst xs ∧ a = p) := fun n o' a h1 h2 => by
    by_cases hn : n < M.length
    · rw [List.getElem?_append_left hn] at h1
      rw [List.getElem?_append_left (by omega)] at h2
      exact .inl ⟨h1, h2⟩
    · have hn' : n = M.length := by
        have := (List.getElem?_eq_some_iff.mp h1).1
        simp at this
        omega
      subst hn'
      simp at h1
      rw [← hlen] at h2
      simp at h2
      exact .inr ⟨h1.symm, h2.symm⟩
  refine ⟨⟨sr.sub, by simp [hlen], ?_, fun a ha => ?_, fun n o' a h1 h2 => ?_, fun n o' a h1 h2 h3 => ?_, sr.tb, fun a ha u e => ?_, sr.nh⟩, le⟩
  · rw [List.nodup_append]
    exact ⟨sr.nd, by simp, fun a ha b hb z => by simp at hb; subst hb; exact np (z ▸ ha)⟩
  · rcases List.mem_append.mp ha with h | h
    · exact sr.al a h
    · simp at h
      exact ⟨_, by rw [h]; exact hp⟩
  · rcases at_ n o' a h1 h2 with ⟨h3, h4⟩ | ⟨rfl, rfl⟩
    · exact (sr.rp n o' a h3 h4).mono le
    · exact ⟨vs, hp, r.mono le⟩
  · rcases at_ n o' a h1 h2 with ⟨h4, h5⟩ | ⟨rfl, rfl⟩
    · exact sr.fr n o' a h4 h5 h3
    · exact nf
  · rcases List.mem_append.mp ha with h | h
    · exact sr.nt a h u e
    · simp at h
      rw [h, hp] at e
      cases e
      exact ⟨(fun _ z => nomatch z), (fun _ z => nomatch z)⟩
end
section
variable {X : Cx} {Γ : Prog} {L : Link} {cf : Calls} {k : Nat} {E : XK} {N : List Str} {sc : Scope} {st : Str → Bool} {a b c e tg iter elt : Expr} {es ifs : List Expr} {ca cb cc ce : CE} {cs : CEs} {pos : Pos}
/-- no exception -/
def E0 : XK := fun _ _ _ => False
/-- a clause's tests, in the core -/
def tTs (Γ : Prog) (cf : Calls) (K : PySem.W.Frag) (L : Link) (E : XK) (c : CO) : TT := fun σ H Q => ∃ S M ρ, SR K L S M H ∧ EnvR K L S ρ σ ∧ Fin K L S H E ((evO Γ cf c ρ M).bind fun o M1 => match o with
  | none => .ok true M1
  | some x => Out.of (truthD (rd M1 x)) M1) (fun b _ S' H' => Q b H')
theorem s_tno : PTs X [] (tTs Γ cf X.K L E .no) := ⟨fun pins s σ H Q I ⟨S, M, ρ, sr, er, h⟩ => pts_nil.run pins s σ H Q I (by
  rw [evO] at h
  exact Fin.now sr h)⟩
theorem s_tyes (hc : PT X c (tT Γ cf X.K L E cc)) : PTs X [c] (tTs Γ cf X.K L E (.yes cc)) := ⟨fun pins s σ H Q I ⟨S, M, ρ, sr, er, h⟩ => (pts_one hc).run pins s σ H Q I ⟨S, M, ρ, sr, er, by
  have e : ((evO Γ cf (.yes cc) ρ M).bind fun o M1 => match o with
    | none => .ok true M1
    | some x => Out.of (truthD (rd M1 x)) M1) = evC Γ cf cc ρ M := by
    rw [evO, evC]
    cases evE Γ cf cc ρ M <;> rfl
  rw [e] at h
  exact h⟩⟩
theorem Fin.calm {K : PySem.W.Frag} {α : Type} {S : RS} {H : Hp} {E E' : XK} {r : Out α} {Q : α → Mem → RS → Hp → Prop} (h : Fin K L S H E r.calm Q) : Fin K L S H E' r Q := by
  cases r with
  | ok a M => exact h
  | exc _ _ _ => exact (show False from h).elim
  | err => exact h
theorem Fin.bind' {K : PySem.W.Frag} {α β : Type} {S : RS} {H : Hp} {r : Out α} {f : α → Mem → Out β} {Q : β → Mem → RS → Hp → Prop} (h : Fin K L S H E (r.bind f) Q) : Fin K L S H E r (fun a M' _ _ => Fin K L S H E (f a M') Q) := by
  cases r with
  | ok a M' => exact fun _ _ _ _ => h
  | exc c as M' => exact h
  | err => exact h
/-- one turn of a comprehension -/
noncomputable def turnD (Γ : Prog) (cf : Calls) (tgt : CT) (cond : CO) (elt : CE) (ρ0 : Env) (d : D) (M : Mem) : Out (Option D) :=
  (evT Γ cf tgt d ρ0 M).bind fun ρ1 M1 => (evO Γ cf cond ρ1 M1).bind fun c M2 => match c with
        | none => (evE Γ cf elt ρ1 M2).bind fun x M3 => .ok (some x) M3
        | some x => match truthD (rd M2 x) with
          | some true => (evE Γ cf elt ρ1 M2).bind fun x M3 => .ok (some x) M3
          | some false => .ok none M2
          | none => .err
/-- a turn, told by its test -/
theorem turn_eq {ct : CT} {cond : CO} {elt : CE} {ρ0 : Env} {d : D} {M : Mem} : turnD Γ cf ct cond elt ρ0 d M = (evT Γ cf ct d ρ0 M).bind fun ρ1 M1 => ((evO Γ cf cond ρ1 M1).bind fun o M1 => match o with
  | none => .ok true M1
  | some x => Out.of (truthD (rd M1 x)) M1).bind fun b M2 => if b = true then (evE Γ cf elt ρ1 M2).bind fun x M3 => .ok (some x) M3 else .ok none M2 := by
  unfold turnD
  congr 1
  funext ρ1 M1
  cases evO Γ cf cond ρ1 M1 with
  | err => rfl
  | exc _ _ _ => rfl
  | ok o M2 =>
    cases o with
    | none => rfl
    | some x =>
      show (match truthD (rd M2 x) with
          | some true => (evE Γ cf elt ρ1 M2).bind fun x M3 => .ok (some x) M3
          | some false => .ok none M2
          | none => .err) = (Out.of (truthD (rd M2 x)) M2).bind _
      cases truthD (rd M2 x) with
      | none => rfl
      | some b => cases b <;> rfl
theorem wipe_get (σ : L2.St) (i : Nat) : ∀ l : List Nat, (L2.wipe σ l)[i]? = if i ∈ l then (σ[i]?).map (fun _ => none) else σ[i]?
  | [] => by simp [L2.wipe]
  | v :: l => by
    unfold L2.wipe
    by_cases h : v = i
    · subst h
      rw [List.getElem?_set, if_pos rfl, wipe_length]
      by_cases hl : v < σ.length
      · simp [hl]
      · simp [hl]

    · rw [List.getElem?_set_ne h, wipe_get σ i l]
      simp [Ne.symm h]
theorem wipe_wipe (σ : L2.St) (l : List Nat) : L2.wipe (L2.wipe σ l) l = L2.wipe σ l := by
  apply List.ext_getElem?
  intro i
  rw [wipe_get (L2.wipe σ l), wipe_get σ]
  by_cases h : i ∈ l
  · rw [if_pos h, if_pos h]
    cases σ[i]? <;> rfl
  · rw [if_neg h, if_neg h]
def putO (o : Option D) (xs : List D) : List D := match o with | some x => xs ++ [x] | none => xs
/-- the rest of a comprehension, the items so far in hand -/
def restD (f : D → Mem → Out (Option D)) (g : List D → Mem → Out D) (ds xs : List D) (M : Mem) : Out D := (compL f ds M).bind fun r M1 => g (xs ++ r) M1
theorem restD_cons {f : D → Mem → Out (Option D)} {g : List D → Mem → Out D} {d : D} {ds xs : List D} {M : Mem} : restD f g (d :: ds) xs M = (f d M).bind fun o M1 => restD f g ds (putO o xs) M1 := by
  unfold restD
  rw [compL]
  cases f d M with
  | err => rfl
  | exc _ _ _ => rfl
  | ok o M1 =>
    show ((compL f ds M1).bind _).bind _ = (compL f ds M1).bind _
    cases compL f ds M1 with
    | err => rfl
    | exc _ _ _ => rfl
    | ok r M2 => cases o <;> simp [Out.bind, putO]
def lstG (live : Bool) (xs : List D) (M : Mem) : Out D := if live then .ok (.ref M.length) (M ++ [.lst xs]) else .ok (.lst xs) M
theorem comp_ok {live : Bool} {own : List (Str × Nat)} {ct : CT} {ci : CI} {cond : CO} {σ : L2.St} {H : Hp} {Q : VK}
    (h : tI Γ cf X.K L E (.comp live (own.map (·.2)) ct ci cond ce) σ H Q) : tLc (tIt Γ cf X.K L E ci) (tG Γ cf X.K L E0 (some (own.map (·.2))) ct) (tTs Γ cf X.K L E0 cond) (tI Γ cf X.K L E0 ce) (own.map (·.2)) σ H Q := by
  obtain ⟨S, M, ρ, sr, er, h⟩ := h
  rw [evE] at h
  refine ⟨S, M, ρ, sr, er, h.bind.imp fun ds M1 S1 H1 st1 sr1 h1 J wk D hD => ?_⟩
  split at h1
  case isFalse => exact (show False from h1).elim
  rename_i hz
  have h1 : Fin X.K L S1 H1 E (restD (fun d M => (turnD Γ cf ct cond ce (GW.wipe ρ (own.map (·.2))) d M).calm) (lstG live) ds [] M1) _ := h1
  generalize hf : (fun d M => (turnD Γ cf ct cond ce (GW.wipe ρ (own.map (·.2))) d M).calm) = f at h1
  have er1 := er.mono st1.le
  obtain ⟨srD, stD⟩ := sr1.extra (o := .lst []) hD
  have nD : D ∉ S1.φ := fun z => by
    obtain ⟨o, e⟩ := sr1.al D z
    rw [hD] at e
    cases e
  have fD : S1.HF D = none := by
    cases e : S1.HF D with
    | none => rfl
    | some o => rw [sr1.sub D o e] at hD; cases hD
  refine ⟨fun i m H => m = ds.length - i ∧ i ≤ ds.length ∧ ∃ S2 M2 xs vs, SR X.K L S2 M2 H ∧ Step S1 H1 S2 H ∧ H D = some (.lst vs) ∧ D ∉ S2.φ ∧ S2.HF D = none ∧ Reps X.K L S2 xs vs ∧ xs.length ≤ i ∧
    Fin X.K L S1 H1 E (restD f (lstG live) (ds.drop i) xs M2) (fun d _ S' H' => ∀ v, Rep X.K L S' d v → Q v H'), ⟨ds.length, ?_⟩, ?_⟩
  · exact ⟨by simp, Nat.zero_le _, S1, M1, [], [], srD, stD, upd_same, nD, fD, .nil, Nat.le_refl _, by rw [List.drop_zero]; exact h1⟩
  · rintro i m H2 ⟨rfl, hi, S2, M2, xs, vs, sr2, st2, dD, nD2, fD2, rx, hxi, h2⟩
    obtain ⟨wk1, wk2⟩ := wk S2 H2 M2 st2.le sr2
    by_cases hlt : i < ds.length
    case neg =>
      have e : i = ds.length := by omega
      subst e
      refine .inl ⟨wk2, ?_⟩
      rw [List.drop_length] at h2
      unfold restD at h2
      rw [compL] at h2
      have h2 : Fin X.K L S1 H1 E (lstG live (xs ++ []) M2) _ := h2
      rw [List.append_nil] at h2
      cases live with
      | false =>
        obtain ⟨sr4, le4⟩ := sr2.ownF dD nD2 fD2
        refine h2 _ _ ⟨st2.le.trans le4, fun b o h n w => st2.keep b o h n w, fun b o h n w z => ?_⟩ sr4 _ (rep_lst le4 upd_same rx)
        show upd S2.HF D (.lst vs) b = none
        rw [upd_ne (fun y : b = D => by subst y; rw [hD] at h; cases h)]
        exact st2.un b o h n w z
      | true =>
        obtain ⟨sr4, le4⟩ := sr2.ownL dD nD2 fD2 rx
        refine h2 _ _ ⟨st2.le.trans le4, fun b o h n w => ⟨(st2.keep b o h n w).1, fun z => ?_⟩, fun b o h n w z => st2.un b o h n w z⟩ sr4 _ ?_
        · rcases List.mem_append.mp z with z | z
          · exact (st2.keep b o h n w).2 z
          · simp at z
            subst z
            rw [hD] at h
            cases h
        · rw [Rep]
          exact ⟨D, by show (S2.φ ++ [D])[M2.length]? = some D; rw [← sr2.len]; simp, rfl⟩
    case pos =>
      obtain ⟨go, yld⟩ := wk1 i hlt
      refine .inr ⟨go, fun H' => ∃ m', m' < ds.length - i ∧ m' = ds.length - (i + 1) ∧ i + 1 ≤ ds.length ∧ ∃ S2 M2 xs vs, SR X.K L S2 M2 H' ∧ Step S1 H1 S2 H' ∧ H' D = some (.lst vs) ∧ D ∉ S2.φ ∧ S2.HF D = none ∧ Reps X.K L S2 xs vs ∧ xs.length ≤ i + 1 ∧
        Fin X.K L S1 H1 E (restD f (lstG live) (ds.drop (i + 1)) xs M2) (fun d _ S' H' => ∀ v, Rep X.K L S' d v → Q v H'), fun H' ⟨m', hm, rest⟩ => ⟨m', hm, rest⟩, fun x H3 y => ?_⟩
      obtain ⟨S3, d, st3, sr3, hd, rdx⟩ := yld x H3 y
      have hdrop : ds.drop i = d :: ds.drop (i + 1) := by
        obtain ⟨hl, e⟩ := List.getElem?_eq_some_iff.mp hd
        rw [← e]
        exact List.drop_eq_getElem_cons hl
      rw [hdrop, restD_cons] at h2
      have h3 := h2.bind'
      rw [← hf] at h3
      have h3 := (Fin.calm (E' := E0) h3).step (st2.trans st3)
      rw [hf, turn_eq] at h3
      have er3 := ((er1.mono st2.le).mono st3.le).wipe (own.map (·.2))
      refine ⟨S3, M2, _, d, sr3, er3, rdx, h3.bind.imp fun ρ4 M4 S4 H4 st4 sr4 h4 σ4 er4 kp => ⟨?_, S4, M4, ρ4, sr4, er4, h4.bind.imp fun b M5 S5 H5 st5 sr5 h5 => ?_⟩⟩
      · have kp : L2.wipe σ4 (own.map (·.2)) = L2.wipe (L2.wipe σ (own.map (·.2))) (own.map (·.2)) := kp
        rw [kp, wipe_wipe]
      · have st5' := (((st2.trans st3).trans st4).trans st5)
        have hD5 := (((st3.trans st4).trans st5).keep D _ dD nD2 ⟨(fun _ z => nomatch z), (fun _ z => nomatch z)⟩)
        have fD5 := (((st3.trans st4).trans st5).un D _ dD nD2 ⟨(fun _ z => nomatch z), (fun _ z => nomatch z)⟩ fD2)
        have rx5 := rx.mono ((st3.trans st4).trans st5).le
        cases b with
        | false =>
          rw [if_neg Bool.false_ne_true] at h5
          show ∃ m', _
          have h6 := Fin.now sr5 h5
          exact ⟨_, by omega, rfl, hlt, S5, M5, xs, vs, sr5, st5', hD5.1, hD5.2, fD5, rx5, by omega, h6⟩
        | true =>
          rw [if_pos rfl] at h5
          show tI Γ cf X.K L E0 ce σ4 H5 _
          refine ⟨S5, M5, ρ4, sr5, er4.mono st5.le, h5.bind.imp fun z M6 S6 H6 st6 sr6 h6 w rw_ => ?_⟩
          have h6 := Fin.now sr6 h6
          have hD6 := st6.keep D _ hD5.1 hD5.2 ⟨(fun _ z => nomatch z), (fun _ z => nomatch z)⟩
          have fD6 := st6.un D _ hD5.1 hD5.2 ⟨(fun _ z => nomatch z), (fun _ z => nomatch z)⟩ fD5
          have rx6 := rx5.mono st6.le
          refine ⟨vs, hD6.1, by rw [rx6.length, sl_eq]; omega, _, by omega, rfl, hlt, S6, M6, xs ++ [z], vs ++ [w], sr6.own hD6.1 hD6.2 fD6, ⟨(st5'.trans st6).le, fun b o h n nt => ?_, (st5'.trans st6).un⟩, upd_same, hD6.2, fD6, rx6.append (.cons rw_ .nil), by simp; omega, h6⟩
          have hb : b ≠ D := fun w : b = D => by subst w; rw [hD] at h; cases h
          rw [upd_ne hb]
          exact (st5'.trans st6).keep b o h n nt
/-- what a block may store -/
def stB (scope sc : Scope) : Str → Bool := fun x => (scope.names.lookup x == some .cell) || ((relS scope sc).names.lookup x == some .local)
theorem Good.blk (G : Good Γ L cf k E N sc st X) {scope : Scope} {s : Shared} {H : Hp} {C : Addr} {cl : List (Str × Addr)} {fp : List Addr} :
    Good Γ L cf k E0 N (relS scope sc) (stB scope sc) (X.blk s H scope (compEnvC scope cl C X.env) fp) := by
  have hx : L.xn = none := G.nx
  refine ⟨⟨G.hN, G.nd, ?_, ?_, G.lk, G.hu, fun a c dd z => by rw [hx] at z; cases z⟩, G.nx, G.calm, G.room, G.gd, ?_, G.ar, G.no, G.exc, G.fns⟩
  · rw [← G.sc]; rfl
  · intro x h
    unfold stB at h
    rcases Bool.or_eq_true_iff.mp h with h | h
    · exact .inl h
    · refine .inr ?_
      have e : (compEnvC scope cl C X.env).scope = relS scope sc := by rw [← G.sc]; rfl
      show (compEnvC scope cl C X.env).scope.names.lookup x = some .local
      rw [e]
      exact eq_of_beq h
  · intro u s' x
    obtain ⟨_, _, _, _, _, _, _, _, _, _, _, _, _, _, _, _, z⟩ := x
    exact z.elim
theorem s_comp {live : Bool} {own : List (Str × Nat)} {scope : Scope} {ct : CT} {ci : CI} {cond : CO} {E : XK} (hc : X.calm = true) (hN : X.N.Nodup) (hi : PI X tg iter (tIt Γ cf X.K L E ci)) (ok : BlkOk X.N X.env.scope scope own)
    (hg : ∀ (s : Shared) (H : Hp) (C : Addr) (cl : List (Str × Addr)) (fp : List Addr), PG (X.blk s H scope (compEnvC scope cl C X.env) fp) tg (tG Γ cf X.K L E0 (some (own.map (·.2))) ct))
    (ht : ∀ (s : Shared) (H : Hp) (C : Addr) (cl : List (Str × Addr)) (fp : List Addr), PTs (X.blk s H scope (compEnvC scope cl C X.env) fp) ifs (tTs Γ cf X.K L E0 cond))
    (he : ∀ (s : Shared) (H : Hp) (C : Addr) (cl : List (Str × Addr)) (fp : List Addr), PE (X.blk s H scope (compEnvC scope cl C X.env) fp) elt (tI Γ cf X.K L E0 ce)) (hs : ∀ x, foldedSetIterable iter X.env x = pure x) :
    PE X (.ListComp elt [⟨tg, iter, ifs, 0⟩] scope pos) (tI Γ cf X.K L E (.comp live (own.map (·.2)) ct ci cond ce)) :=
  (pe_lc hc hN hi ok hg ht he hs).imp fun σ H Q h => comp_ok h
end
end GW

set_option Elab.async false
set_option linter.all false
set_option autoImplicit false
set_option maxRecDepth 100000
set_option maxHeartbeats 4000000
/-! Statements. -/
namespace GW
open PySem PySem.Spec PyProof.Rows L2 RZ
/-- what a statement's end asks -/
def FlQ (K : PySem.W.Frag) (L : Link) (D : Ends) (fl : Fl) (S' : RS) (H' : Hp) : Prop := match fl with
  | .nx ρ' => ∀ σ', EnvR K L S' ρ' σ' → D.nx σ' H'
  | .rt d => ∀ v, Rep K L S' d v → D.rt v H'
  | .bk ρ' => ∀ σ', EnvR K L S' ρ' σ' → D.bk σ' H'
def tS (Γ : Prog) (cf : Calls) (K : PySem.W.Frag) (L : Link) (E : XK) (s : CS) : TS := fun D σ H => ∃ S M ρ, SR K L S M H ∧ EnvR K L S ρ σ ∧ Fin K L S H E (exS Γ cf s ρ M) (fun fl _ S' H' => FlQ K L D fl S' H')
def tSs (Γ : Prog) (cf : Calls) (K : PySem.W.Frag) (L : Link) (E : XK) (s : CSs) : TS := fun D σ H => ∃ S M ρ, SR K L S M H ∧ EnvR K L S ρ σ ∧ Fin K L S H E (exSs Γ cf s ρ M) (fun fl _ S' H' => FlQ K L D fl S' H')
section
variable {X : Cx} {Γ : Prog} {L : Link} {cf : Calls} {k : Nat} {E : XK} {N : List Str} {sc : Scope} {st : Str → Bool} {a b c e tg iter elt : Expr} {es ifs : List Expr} {ca cb cc ce : CE} {cs : CEs} {pos : Pos} {s1 : Stmt} {ss ss' : List Stmt} {x1 : CS} {xs xs' : CSs}
theorem s_pas : PS X (.Pass pos) (tS Γ cf X.K L E .pas) := ps_pass.imp fun D σ H ⟨S, M, ρ, sr, er, h⟩ => by
  rw [exS] at h
  exact Fin.now sr h _ er
theorem s_brk : PS X (.Break pos) (tS Γ cf X.K L E .brk) := ps_break.imp fun D σ H ⟨S, M, ρ, sr, er, h⟩ => by
  rw [exS] at h
  exact Fin.now sr h _ er
theorem s_doc {x j pos'} : PS X (.Expr (.Constant (.str x) j pos) pos') (tS Γ cf X.K L E .pas) := ps_doc.imp fun D σ H ⟨S, M, ρ, sr, er, h⟩ => by
  rw [exS] at h
  exact Fin.now sr h _ er
theorem s_snever : PS X s1 (tS Γ cf X.K L E .never) := ps_never.imp fun D σ H ⟨S, M, ρ, sr, er, h⟩ => by
  rw [exS] at h
  exact h
theorem s_exp (ha : PE X a (tI Γ cf X.K L E ca)) (hs : swapsWith a none pos.line X.env = pure false) : PS X (.Expr a pos) (tS Γ cf X.K L E (.exp ca)) := by
  refine (ps_expr ha hs).imp fun D σ H h => ?_
  obtain ⟨S, M, ρ, sr, er, h⟩ := h
  rw [exS] at h
  exact ⟨S, M, ρ, sr, er, h.bind.imp fun d M1 S1 H1 st1 sr1 h1 v rv => Fin.now sr1 h1 _ (er.mono st1.le)⟩
theorem s_ret (ha : PE X a (tI Γ cf X.K L E ca)) : PS X (.Return (some a) pos) (tS Γ cf X.K L E (.ret ca)) := by
  refine (ps_ret ha).imp fun D σ H h => ?_
  obtain ⟨S, M, ρ, sr, er, h⟩ := h
  rw [exS] at h
  exact ⟨S, M, ρ, sr, er, h.bind.imp fun d M1 S1 H1 st1 sr1 h1 v rv => Fin.now sr1 h1 _ rv⟩
theorem s_ife (hc : PT X c (tT Γ cf X.K L E cc)) (ha : PSs X ss (tSs Γ cf X.K L E xs)) (hb : PSs X ss' (tSs Γ cf X.K L E xs')) : PS X (.If c ss ss' pos) (tS Γ cf X.K L E (.ife cc xs xs')) := by
  refine (ps_if hc ha hb).imp fun D σ H h => ?_
  obtain ⟨S, M, ρ, sr, er, h⟩ := h
  rw [exS] at h
  refine ⟨S, M, ρ, sr, er, h.bind.imp fun d M1 S1 H1 st1 sr1 h1 => ?_⟩
  cases d with
  | true => rw [if_pos rfl] at h1 ⊢; exact ⟨S1, M1, ρ, sr1, er.mono st1.le, h1⟩
  | false => rw [if_neg Bool.false_ne_true] at h1 ⊢; exact ⟨S1, M1, ρ, sr1, er.mono st1.le, h1⟩
theorem s_snil : PSs X [] (tSs Γ cf X.K L E .nil) := pss_nil.imp fun D σ H ⟨S, M, ρ, sr, er, h⟩ => by
  rw [exSs] at h
  exact Fin.now sr h _ er
theorem s_scons (h1 : PS X s1 (tS Γ cf X.K L E x1)) (h2 : PSs X ss (tSs Γ cf X.K L E xs)) : PSs X (s1 :: ss) (tSs Γ cf X.K L E (.cons x1 xs)) := by
  refine (pss_cons h1 h2).imp fun D σ H h => ?_
  obtain ⟨S, M, ρ, sr, er, h⟩ := h
  rw [exSs] at h
  refine ⟨S, M, ρ, sr, er, h.bind.imp fun fl M1 S1 H1 st1 sr1 h1 => ?_⟩
  cases fl with
  | nx ρ1 => exact fun σ' er' => ⟨S1, M1, ρ1, sr1, er', h1⟩
  | rt d => exact fun v rv => Fin.now sr1 h1 v rv
  | bk ρ1 => exact fun σ' er' => Fin.now sr1 h1 σ' er'
theorem s_asg {t : CT} (he : PE X a (tI Γ cf X.K L E ca)) (hg : PG X tg (tG Γ cf X.K L E none t)) (hs : swapsWithSole [tg] a pos.line X.env = pure false) (hw : swappedStores [tg] a X.env = pure none) (hn : noStar tg = true) : PS X (.Assign [tg] a pos) (tS Γ cf X.K L E (.asg t ca)) := by
  refine (ps_asg he hg hs hw (by rw [asg_cons hn]; rfl)).imp fun D σ H h => ?_
  obtain ⟨S, M, ρ, sr, er, h⟩ := h
  rw [exS] at h
  exact ⟨S, M, ρ, sr, er, h.bind.imp fun d M1 S1 H1 st1 sr1 h1 v rv => ⟨S1, M1, ρ, d, sr1, er.mono st1.le, rv, h1.bind.imp fun ρ2 M2 S2 H2 st2 sr2 h2 σ' er' _ => Fin.now sr2 h2 _ er'⟩⟩
/-- a, b = x, y stored from the right -/
theorem s_par {i j : Nat} {x y : Str} {px py pt : Pos} {kt k2 pt2} (hc : X.calm = true) (hN : X.N.Nodup) (hi : X.N[i]? = some x) (hj : X.N[j]? = some y) (hij : i ≠ j) (hx : X.env.scope.names.lookup x = some .local) (hy : X.env.scope.names.lookup y = some .local) (ha : PA X [a, b] (tAs Γ cf X.K L E cs))
    (hw : swappedStores [.Tuple [.Name x px, .Name y py] kt pt] (.Tuple [a, b] k2 pt2) X.env = pure (some [x, y])) : PS X (.Assign [.Tuple [.Name x px, .Name y py] kt pt] (.Tuple [a, b] k2 pt2) pos) (tS Γ cf X.K L E (.asg (.tup (.cons (.name i) (.cons (.name j) .nil))) (.tup cs))) := by
  refine (ps_par hc hN hi hj hij hx hy ha hw).imp fun D σ H h => ?_
  obtain ⟨S, M, ρ, sr, er, h⟩ := h
  rw [exS, evE] at h
  refine ⟨S, M, ρ, sr, er, h.bind.bind.imp fun ds M1 S1 H1 st1 sr1 h1 vs rvs => ?_⟩
  split at h1
  · have h2 := Fin.now sr1 h1
    rw [evT] at h2
    simp only [itemsT] at h2
    split at h2
    · rename_i hl
      simp only [lenTs] at hl
      match ds, hl, rvs, h2 with
      | [d1, d2], _, rvs, h2 =>
        obtain ⟨v1, r1, rfl, q1, t1⟩ := rvs.cons_inv
        obtain ⟨v2, r2, rfl, q2, t2⟩ := t1.cons_inv
        obtain rfl := t2.nil_inv
        simp only [evTs, evT, Out.bind] at h2
        exact ⟨v1, v2, rfl, Fin.now sr1 h2 _ (((er.mono st1.le).set q1).set q2)⟩
    · exact (show False from h2).elim
  · exact (show False from h1).elim
theorem s_par3 {i j l : Nat} {x y z : Str} {px py pz pt : Pos} {kt k2 pt2} (hc : X.calm = true) (hN : X.N.Nodup) (hi : X.N[i]? = some x) (hj : X.N[j]? = some y) (hl : X.N[l]? = some z) (hij : i ≠ j) (hil : i ≠ l) (hjl : j ≠ l) (hx : X.env.scope.names.lookup x = some .local) (hy : X.env.scope.names.lookup y = some .local) (hz : X.env.scope.names.lookup z = some .local) (ha : PA X [a, b, c] (tAs Γ cf X.K L E cs))
    (hw : swappedStores [.Tuple [.Name x px, .Name y py, .Name z pz] kt pt] (.Tuple [a, b, c] k2 pt2) X.env = pure (some [x, y, z])) : PS X (.Assign [.Tuple [.Name x px, .Name y py, .Name z pz] kt pt] (.Tuple [a, b, c] k2 pt2) pos) (tS Γ cf X.K L E (.asg (.tup (.cons (.name i) (.cons (.name j) (.cons (.name l) .nil)))) (.tup cs))) := by
  refine (ps_par3 hc hN hi hj hl hij hil hjl hx hy hz ha hw rfl).imp fun D σ H h => ?_
  obtain ⟨S, M, ρ, sr, er, h⟩ := h
  rw [exS, evE] at h
  refine ⟨S, M, ρ, sr, er, h.bind.bind.imp fun ds M1 S1 H1 st1 sr1 h1 vs rvs => ?_⟩
  split at h1
  · have h2 := Fin.now sr1 h1
    rw [evT] at h2
    simp only [itemsT] at h2
    split at h2
    · rename_i hl
      simp only [lenTs] at hl
      match ds, hl, rvs, h2 with
      | [d1, d2, d3], _, rvs, h2 =>
        obtain ⟨v1, r1, rfl, q1, t1⟩ := rvs.cons_inv
        obtain ⟨v2, r2, rfl, q2, t2⟩ := t1.cons_inv
        obtain ⟨v3, r3, rfl, q3, t3⟩ := t2.cons_inv
        obtain rfl := t3.nil_inv
        simp only [evTs, evT, Out.bind] at h2
        exact ⟨v1, v2, v3, rfl, Fin.now sr1 h2 _ ((((er.mono st1.le).set q1).set q2).set q3)⟩
    · exact (show False from h2).elim
  · exact (show False from h1).elim
/-- name = [..] -/
theorem s_setLc {i : Nat} {y : Str} {py spos : Pos} {live : Bool} {own : List (Str × Nat)} {scope : Scope} {ct : CT} {ci : CI} {cond : CO} (hc : X.calm = true) (hN : X.N.Nodup) (hy : X.N[i]? = some y) (hyl : X.env.scope.names.lookup y = some .local)
    (hsw : swapsWith (.ListComp elt [⟨tg, iter, ifs, 0⟩] scope pos) (some (.Name y py)) spos.line X.env = pure true) (hi : PI X tg iter (tIt Γ cf X.K L E ci)) (ok : BlkOk X.N X.env.scope scope own)
    (hg : ∀ (s : Shared) (H : Hp) (C : Addr) (cl : List (Str × Addr)) (fp : List Addr), PG (X.blk s H scope (compEnvC scope cl C X.env) fp) tg (tG Γ cf X.K L E0 (some (own.map (·.2))) ct))
    (ht : ∀ (s : Shared) (H : Hp) (C : Addr) (cl : List (Str × Addr)) (fp : List Addr), PTs (X.blk s H scope (compEnvC scope cl C X.env) fp) ifs (tTs Γ cf X.K L E0 cond))
    (he : ∀ (s : Shared) (H : Hp) (C : Addr) (cl : List (Str × Addr)) (fp : List Addr), PE (X.blk s H scope (compEnvC scope cl C X.env) fp) elt (tI Γ cf X.K L E0 ce)) (hs : ∀ x, foldedSetIterable iter X.env x = pure x) :
    PS X (.Assign [.Name y py] (.ListComp elt [⟨tg, iter, ifs, 0⟩] scope pos) spos) (tS Γ cf X.K L E (.asg (.name i) (.comp live (own.map (·.2)) ct ci cond ce))) := by
  refine (ps_setLc hc hN hy hyl hsw hi ok hg ht he hs).imp fun D σ H h => ?_
  obtain ⟨S, M, ρ, sr, er, h⟩ := h
  rw [exS] at h
  refine comp_ok (live := live) ⟨S, M, ρ, sr, er, h.bind.imp fun d M1 S1 H1 st1 sr1 h1 v rv => ?_⟩
  rw [evT] at h1
  exact Fin.now sr1 h1 _ ((er.mono st1.le).set rv)
theorem s_fld (G : Good Γ L cf k E N sc st X) {f : Nat} {p : Pos} (hb : PE X b (tI Γ cf X.K L E cb)) (ha : PE X a (tI Γ cf X.K L E ca)) (hs : swapsWith b (some (.Attribute a (L.T.nm f) p)) pos.line X.env = pure false) : PS X (.Assign [.Attribute a (L.T.nm f) p] b pos) (tS Γ cf X.K L E (.asg (.att ca f) cb)) := by
  refine (ps_fld ha hb hs).imp fun D σ H h => ?_
  obtain ⟨S, M, ρ, sr, er, h⟩ := h
  rw [exS] at h
  refine ⟨S, M, ρ, sr, er, h.bind.imp fun d M1 S1 H1 st1 sr1 h1 v rv => ?_⟩
  rw [evT] at h1
  refine ⟨S1, M1, ρ, sr1, er.mono st1.le, h1.bind.bind.imp fun o M2 S2 H2 st2 sr2 h2 w rw_ => ?_⟩
  replace h2 := h2.bind
  have rv2 := rv.mono st2.le
  cases o <;> try exact (show False from h2).elim
  rename_i n
  simp only [setAt] at h2
  split at h2
  · rename_i cl fs vs hm
    split at h2
    · rename_i hz
      rw [Rep] at rw_
      obtain ⟨p, hp, rfl⟩ := rw_
      obtain ⟨dx, ws, e1, r, hl⟩ := sr2.rp n _ p hm hp
      obtain ⟨ws', e2, r2, hl2⟩ := putF_put G.lk.inj rv2 hl r
      obtain ⟨sr3, st3⟩ := sr2.write (o' := .ins cl (GW.putF f d fs vs).1 (GW.putF f d fs vs).2) (ho := .ins (L.ca cl) dx (L2.putF (L.T.nm f) v ((fs.map L.T.nm).zip ws))) hm hp rfl ⟨dx, ws', by rw [e2], r2, hl2⟩
      obtain ⟨q1, q2⟩ := G.lk.noA cl f hz.2
      obtain ⟨y, hy⟩ := Option.isSome_iff_exists.mp q1
      refine ⟨p, _, dx, _, rfl, e1, G.lk.cls cl y hy, q2, ?_, ?_⟩
      · rw [List.length_zip, List.length_map]
        have := hz.1
        omega
      · have h3 := h2 _ _ st3 sr3
        exact Fin.now sr3 (Fin.now sr3 h3) _ ((((er.mono st1.le).mono st2.le)).mono st3.le)
    · exact (show False from h2).elim
  · exact (show False from h2).elim
theorem s_aug {i : Nat} {x : Str} {o : BOp} {pos' : Pos} (ho : o = .add ∨ o = .sub) (hN : X.N.Nodup) (hi : X.N[i]? = some x) (hx : Loc X.env.scope x) (he : PE X a (tI Γ cf X.K L E ca)) (hf : X.fn x = true ∨ X.env.scope.names.lookup x = some .local) :
    PS X (.AugAssign (.Name x pos') (opA o) a pos) (tS Γ cf X.K L E (.aug i o ca)) := by
  rcases ho with rfl | rfl
  · refine (ps_aug hN hi hx he ip_add hf).imp fun D σ H h => ?_
    obtain ⟨S, M, ρ, sr, er, h⟩ := h
    rw [exS] at h
    split at h
    · rename_i d hd
      obtain ⟨v, hv, rv⟩ := er.get i d hd
      refine ⟨v, hv, S, M, ρ, sr, er, h.bind.imp fun y M1 S1 H1 st1 sr1 h1 w rw_ => ?_⟩
      cases d <;> cases y <;> try exact (show False from h1).elim
      rename_i p q
      rw [Rep] at rv rw_
      subst rv rw_
      exact ⟨p, q, rfl, rfl, Fin.now sr1 h1 _ ((er.mono st1.le).set rep_int)⟩
    · exact (show False from h).elim
  · refine (ps_aug hN hi hx he ip_sub hf).imp fun D σ H h => ?_
    obtain ⟨S, M, ρ, sr, er, h⟩ := h
    rw [exS] at h
    split at h
    · rename_i d hd
      obtain ⟨v, hv, rv⟩ := er.get i d hd
      refine ⟨v, hv, S, M, ρ, sr, er, h.bind.imp fun y M1 S1 H1 st1 sr1 h1 w rw_ => ?_⟩
      cases d <;> cases y <;> try exact (show False from h1).elim
      rename_i p q
      rw [Rep] at rv rw_
      subst rv rw_
      exact ⟨p, q, rfl, rfl, Fin.now sr1 h1 _ ((er.mono st1.le).set rep_int)⟩
    · exact (show False from h).elim
/-! ### loops -/
theorem s_for {ci : CI} {t : CT} {body : List Stmt} {xb : CSs} (hp : PassesOwn (model X.prog X.w) X.A X.env X.xe) (hc : X.calm = true) (hi : PI X tg iter (tIt Γ cf X.K L E ci)) (hg : PG X tg (tG Γ cf X.K L E none t)) (hb : PSs X body (tSs Γ cf X.K L E xb))
    (hs : ∀ x, foldedSetIterable iter X.env x = pure x) : PS X (.For tg iter body [] pos) (tS Γ cf X.K L E (.loop t ci xb)) := by
  refine (ps_for hp hc hi hg hb hs).imp fun D σ H h => ?_
  obtain ⟨S, M, ρ, sr, er, h⟩ := h
  rw [exS] at h
  refine ⟨S, M, ρ, sr, er, h.bind.imp fun ds M1 S1 H1 st1 sr1 h1 J wk => ?_⟩
  generalize hf : (fun d ρ M => (evT Γ cf t d ρ M).bind fun ρ1 M1 => exSs Γ cf xb ρ1 M1) = f at h1
  refine ⟨fun i m σ' H' => m = ds.length - i ∧ i ≤ ds.length ∧ ∃ S2 M2 ρ2, Le S1 S2 ∧ SR X.K L S2 M2 H' ∧ EnvR X.K L S2 ρ2 σ' ∧ Fin X.K L S2 H' E (forL f (ds.drop i) ρ2 M2) (fun fl _ S' H' => FlQ X.K L D fl S' H'),
    ⟨ds.length, by simp, Nat.zero_le _, S1, M1, ρ, .refl _, sr1, er.mono st1.le, by rw [List.drop_zero]; exact h1⟩, ?_⟩
  rintro i m σ2 H2 ⟨rfl, hi, S2, M2, ρ2, le2, sr2, er2, h2⟩
  obtain ⟨wk1, wk2⟩ := wk S2 H2 M2 le2 sr2
  by_cases hlt : i < ds.length
  case neg =>
    have e : i = ds.length := by omega
    subst e
    rw [List.drop_length, forL] at h2
    exact .inl ⟨wk2, Fin.now sr2 h2 _ er2⟩
  case pos =>
    obtain ⟨go, yld⟩ := wk1 i hlt
    refine .inr ⟨go, fun σ' H' => ∃ m', m' < ds.length - i ∧ m' = ds.length - (i + 1) ∧ i + 1 ≤ ds.length ∧ ∃ S2 M2 ρ2, Le S1 S2 ∧ SR X.K L S2 M2 H' ∧ EnvR X.K L S2 ρ2 σ' ∧ Fin X.K L S2 H' E (forL f (ds.drop (i + 1)) ρ2 M2) (fun fl _ S' H' => FlQ X.K L D fl S' H'),
      fun σ' H' ⟨m', hm, rest⟩ => ⟨m', hm, rest⟩, fun x H3 y => ?_⟩
    obtain ⟨S3, d, st3, sr3, hd, rdx⟩ := yld x H3 y
    have hdrop : ds.drop i = d :: ds.drop (i + 1) := by
      obtain ⟨hl, e⟩ := List.getElem?_eq_some_iff.mp hd
      rw [← e]
      exact List.drop_eq_getElem_cons hl
    rw [hdrop, forL] at h2
    have h3 := (h2.step st3).bind
    rw [← hf] at h3
    refine ⟨S3, M2, ρ2, d, sr3, er2.mono st3.le, rdx, h3.bind.imp fun ρ4 M4 S4 H4 st4 sr4 h4 σ4 er4 _ => ⟨S4, M4, ρ4, sr4, er4, h4.imp fun fl M5 S5 H5 st5 sr5 h5 => ?_⟩⟩
    cases fl with
    | nx ρ5 => exact fun σ5 er5 => ⟨_, by omega, rfl, hlt, S5, M5, ρ5, ((le2.trans st3.le).trans st4.le).trans st5.le, sr5, er5, by rw [← hf]; exact h5⟩
    | rt d => exact fun v rv => Fin.now sr5 h5 v rv
    | bk ρ5 => exact fun σ5 er5 => Fin.now sr5 h5 σ5 er5
theorem s_while {body : List Stmt} {xb : CSs} (hp : PassesOwn (model X.prog X.w) X.A X.env X.xe) (hc : PT X c (tT Γ cf X.K L E cc)) (hb : PSs X body (tSs Γ cf X.K L E xb)) : PS X (.While c body [] pos) (tS Γ cf X.K L E (.whil cc xb)) := by
  refine (ps_while hp hc hb).imp fun D σ H h => ?_
  obtain ⟨S, M, ρ, sr, er, h⟩ := h
  rw [exS] at h
  refine ⟨fun m σ' H' => ∃ S2 M2 ρ2, SR X.K L S2 M2 H' ∧ EnvR X.K L S2 ρ2 σ' ∧ Fin X.K L S2 H' E (whiL (evC Γ cf cc) (fun ρ M => exSs Γ cf xb ρ M) m ρ2 M2) (fun fl _ S' H' => FlQ X.K L D fl S' H'),
    ⟨WMAX, S, M, ρ, sr, er, h⟩, ?_⟩
  rintro m σ2 H2 ⟨S2, M2, ρ2, sr2, er2, h2⟩
  cases m with
  | zero => rw [whiL] at h2; exact (show False from h2).elim
  | succ m =>
    rw [whiL] at h2
    refine ⟨S2, M2, ρ2, sr2, er2, h2.bind.imp fun b M3 S3 H3 st3 sr3 h3 => ?_⟩
    cases b with
    | false =>
      rw [if_neg Bool.false_ne_true] at h3 ⊢
      exact Fin.now sr3 h3 _ (er2.mono st3.le)
    | true =>
      rw [if_pos rfl] at h3 ⊢
      refine ⟨fun σ' H' => ∃ S2 M2 ρ2, SR X.K L S2 M2 H' ∧ EnvR X.K L S2 ρ2 σ' ∧ Fin X.K L S2 H' E (whiL (evC Γ cf cc) (fun ρ M => exSs Γ cf xb ρ M) m ρ2 M2) (fun fl _ S' H' => FlQ X.K L D fl S' H'),
        fun σ' H' w => ⟨m, Nat.lt_succ_self _, w⟩, S3, M3, ρ2, sr3, er2.mono st3.le, h3.bind.imp fun fl M4 S4 H4 st4 sr4 h4 => ?_⟩
      cases fl with
      | nx ρ5 => exact fun σ5 er5 => ⟨S4, M4, ρ5, sr4, er5, h4⟩
      | rt d => exact fun v rv => Fin.now sr4 h4 v rv
      | bk ρ5 => exact fun σ5 er5 => Fin.now sr4 h4 σ5 er5
end
end GW

set_option Elab.async false
set_option linter.all false
set_option autoImplicit false
set_option maxRecDepth 100000
set_option maxHeartbeats 4000000
/-! == by an own __eq__; an attribute as a target. -/
namespace GW
open PySem PySem.Spec PyProof.Rows L2 RZ
section
variable {X : Cx} {Γ : Prog} {L : Link} {cf : Calls} {k : Nat} {E : XK} {N : List Str} {sc : Scope} {st : Str → Bool} {a b c e : Expr} {es : List Expr} {ca cb cc ce : CE} {cs : CEs} {pos : Pos}
theorem bm_eq (b : Expr) : behindInMarks .Eq b = false := by
  cases b <;> first | rfl | (unfold behindInMarks; dsimp only; rw [show (CmpOp.Eq == CmpOp.In || CmpOp.Eq == CmpOp.NotIn) = false from by decide, Bool.and_false, Bool.false_and])
def rEqm (Γ : Prog) (cf : Calls) (K : PySem.W.Frag) (L : Link) (E : XK) (m : Nat) : R2 := fun x y H Q => ∃ S M dx dy f, SR K L S M H ∧ Rep K L S dx x ∧ Rep K L S dy y ∧ eqmD Γ m (rd M dx) (rd M dy) = some f ∧
  Fin K L S H E (cf f [dx, dy] M) (fun d _ S' H' => ∃ k, d = .bl k ∧ Q (.bl k) H')
theorem opR_eqm (G : Good Γ L cf k E N sc st X) {m : Nat} (hm : L.T.nm m = ("__eq__" : Str)) : OpR X (compareOp .Eq) (rEqm Γ cf X.K L E m) := by
  intro pins s σ H x y v u Q I rx ry h
  obtain ⟨S, M, dx, dy, f, sr, rdx, rdy, e, h⟩ := h
  have tx := rdx.rd sr
  have ty := rdy.rd sr
  have key : mthOf Γ m (rd M dx) = some f := by
    unfold eqmD at e
    split at e
    · split at e
      · exact e
      · cases e
    · exact e
    · cases e
  cases e1 : rd M dx <;> rw [e1] at tx key <;> simp only [mthOf] at key <;> try (cases key; done)
  rename_i c fs xs
  by_cases hc : fs.contains m = true
  case pos => rw [if_pos hc] at key; cases key
  rw [if_neg hc] at key
  obtain ⟨p, dd, ws, rfl, hp, r, z⟩ := tx
  obtain rfl : v = Value.ref p := rx
  obtain ⟨q1, q2⟩ := G.lk.mth c m f key
  obtain ⟨cx, hcx⟩ := Option.isSome_iff_exists.mp q1
  rw [hm] at q2
  obtain ⟨mA, J, _⟩ := ins_get I.hok hp
  obtain ⟨od, J, _⟩ := J.look
  obtain ⟨mf, hF⟩ := I.fr
  have call : wpAny (model X.prog X.w) X.A (PySem.call (.ref (L.fa f)) [.ref p, u]) (PySem.W.CmpBack (EP X pins σ Q)) X.xe s := by
    refine thn (run_cf (us := [.ref p, u]) (vs := [.ref p, y]) (ds := [dx, dy]) (Q := fun w H' => ∃ k, w = .bl k ∧ Q (.bl k) H') G I (.cons rfl (.cons ry .nil)) sr (.cons rdx (.cons rdy .nil)) (h.imp fun d M' S' H' _ _ ⟨k, ek, q⟩ w rw_ => ?_)) fun r s' z => ?_
    · subst ek
      rw [Rep] at rw_
      exact ⟨k, rw_, q⟩
    · obtain ⟨w, H', I', rv, k, ek, q⟩ := z
      subst ek
      cases rv
      exact ⟨.bl k, H', I', rfl, q⟩
  show wpAny (model X.prog X.w) X.A (richCompare .Eq (.ref p) u) (EP X pins σ Q) X.xe s
  have hu : X.A.units < cLine := G.room.units0
  cases e2 : rd M dy <;> rw [e2] at ty e <;> simp only [eqmD] at e <;> try (cases e; done)
  case ins c2 fs2 xs2 =>
    split at e
    · rename_i hsome
      obtain ⟨cx2, hcx2⟩ := Option.isSome_iff_exists.mp hsome
      obtain ⟨p2, dd2, ws2, rfl, hp2, r2, z2⟩ := ty
      obtain rfl : u = Value.ref p2 := ry
      obtain ⟨mB, J2, _⟩ := ins_get I.hok hp2
      obtain ⟨od2, J2, _⟩ := J2.look
      exact PySem.W.cmp_K (op := .Eq) (tb := .ref (L.ca c2)) hu hF I.ok.mod.kin J J2.type (G.lk.nfc c cx c2 cx2 hcx hcx2) q2.at_ q2.fn call
    · cases e
  case tup xs2 =>
    obtain ⟨p2, vs2, rfl, _, hq, r2⟩ := top_tup sr ty
    obtain rfl : u = Value.ref p2 := ry
    obtain ⟨its, rv, ht, _⟩ := I.tuple hq
    obtain ⟨o2, ho2, hc2, _⟩ := ht
    refine PySem.W.cmp_K (op := .Eq) (tb := .type "tuple") hu hF I.ok.mod.kin J (fun A Q E s k q => wpAny_typeOf_ref (k _ _ ho2) (by rw [hc2]; exact q)) (G.lk.nft c cx hcx) q2.at_ q2.fn call
theorem s_eqm (G : Good Γ L cf k E N sc st X) {m : Nat} (hm : L.T.nm m = ("__eq__" : Str)) (ha : PE X a (tI Γ cf X.K L E ca)) (hb : PE X b (tI Γ cf X.K L E cb)) : PE X (.Compare a [.Eq] [b] pos) (tI Γ cf X.K L E (.eqm m ca cb)) := by
  refine (pe_cmpR (opR_eqm G hm) ha hb (bm_eq b)).imp fun σ H Q h => ?_
  obtain ⟨S, M, ρ, sr, er, h⟩ := h
  rw [evE] at h
  refine ⟨S, M, ρ, sr, er, h.bind.imp fun x M1 S1 H1 st1 sr1 h1 v rv => ⟨S1, M1, ρ, sr1, er.mono st1.le, h1.bind.imp fun y M2 S2 H2 st2 sr2 h2 u ru => ?_⟩⟩
  obtain ⟨f, ef, h3⟩ := h2.bind.of sr2
  have h3 := (h3 S2 H2 (.refl _ _) sr2).bind
  refine ⟨S2, M2, x, y, f, sr2, rv.mono st2.le, ru, ef, h3.imp fun d M3 S3 H3 st3 sr3 h4 => ?_⟩
  cases d <;> try exact (show False from h4).elim
  exact ⟨_, rfl, Fin.now sr3 h4 _ rep_bl⟩
theorem s_teqm (G : Good Γ L cf k E N sc st X) {m : Nat} (hm : L.T.nm m = ("__eq__" : Str)) (ha : PE X a (tI Γ cf X.K L E ca)) (hb : PE X b (tI Γ cf X.K L E cb)) : PT X (.Compare a [.Eq] [b] pos) (tT Γ cf X.K L E (.eqm m ca cb)) := by
  refine (pt_cmpR (opR_eqm G hm) ha hb (bm_eq b)).imp fun σ H Q h => ?_
  obtain ⟨S, M, ρ, sr, er, h⟩ := h
  unfold evC at h
  rw [evE] at h
  refine ⟨S, M, ρ, sr, er, h.bind.bind.imp fun x M1 S1 H1 st1 sr1 h1 v rv => ⟨S1, M1, ρ, sr1, er.mono st1.le, h1.bind.imp fun y M2 S2 H2 st2 sr2 h2 u ru => ?_⟩⟩
  obtain ⟨f, ef, h3⟩ := h2.bind.of sr2
  have h3 := (h3 S2 H2 (.refl _ _) sr2).bind
  refine ⟨S2, M2, x, y, f, sr2, rv.mono st2.le, ru, ef, h3.imp fun d M3 S3 H3 st3 sr3 h4 => ?_⟩
  cases d <;> try exact (show False from h4).elim
  rename_i kk
  have h5 := Fin.now sr3 h4
  have h5 : Fin X.K L S3 H3 E (Out.of (truthD (rd M3 (.bl kk))) M3) (fun b _ S' H' => Q b H') := h5
  exact ⟨kk, rfl, kk, rfl, Fin.now sr3 (show Fin X.K L S3 H3 E (.ok kk M3) (fun b _ S' H' => Q b H') from h5)⟩
/-! ### an attribute as a target -/
theorem s_gatt (G : Good Γ L cf k E N sc st X) {w : Option (List Nat)} {f : Nat} (ha : PE X a (tI Γ cf X.K L E ca)) : PG X (.Attribute a (L.T.nm f) pos) (tG Γ cf X.K L E w (.att ca f)) := by
  refine ⟨fun pins s σ H v u Q I r h => ?_⟩
  obtain ⟨S, M, ρ, d, sr, er, rv, h⟩ := h
  rw [evT] at h
  rw [assign_Attribute]
  have hp := ha.run pins s σ H (fun o H1 => ∃ S1 M1 od, SR X.K L S1 M1 H1 ∧ EnvR X.K L S1 ρ σ ∧ Rep X.K L S1 od o ∧ Rep X.K L S1 d v ∧ Fin X.K L S1 H1 E ((setAt Γ od f d M1).bind fun _ M2 => .ok ρ M2) (fun ρ' _ S' H' => ∀ σ', EnvR X.K L S' ρ' σ' → Kp w σ σ' → Q σ' H')) I
    ⟨S, M, ρ, sr, er, h.bind.imp fun x M1 S1 H1 st1 sr1 h1 o ro => ⟨S1, M1, x, sr1, er.mono st1.le, ro, rv.mono st1.le, h1⟩⟩
  refine wpAny_bind (wpAny_holding (thn hp fun ov s1 ⟨o, H1, I1, ro, S1, M1, od, sr1, er1, rod, rv1, h1⟩ => ?_))
  refine wpAny_bind (wpAny_standAt (wpAny_bind (wpAny_holding ?_)))
  replace h1 := h1.bind
  cases od <;> try exact (show False from h1).elim
  rename_i n
  simp only [setAt] at h1
  split at h1
  · rename_i cl fs vs hmn
    split at h1
    · rename_i hz
      rw [Rep] at rod
      obtain ⟨p, hp, rfl⟩ := rod
      obtain rfl : ov = Value.ref p := ro
      obtain ⟨dx, ws, e1, r2, hl⟩ := sr1.rp n _ p hmn hp
      obtain ⟨ws', e2, r3, hl2⟩ := putF_put G.lk.inj rv1 hl r2
      obtain ⟨sr3, st3⟩ := sr1.write (o' := .ins cl (GW.putF f d fs vs).1 (GW.putF f d fs vs).2) (ho := .ins (L.ca cl) dx (L2.putF (L.T.nm f) v ((fs.map L.T.nm).zip ws))) hmn hp rfl ⟨dx, ws', by rw [e2], r3, hl2⟩
      obtain ⟨q1, q2⟩ := G.lk.noA cl f hz.2
      obtain ⟨y, hy⟩ := Option.isSome_iff_exists.mp q1
      refine setattr_ok I1 e1 (G.lk.cls cl y hy) q2 ?_ r fun s3 I3 => ?_
      · rw [List.length_zip, List.length_map]
        have := hz.1
        omega
      · exact wpAny_release ⟨σ, _, I3, Fin.now sr3 (h1 _ _ st3 sr3) σ (er1.mono st3.le) (.refl _ _)⟩
    · exact (show False from h1).elim
  · exact (show False from h1).elim
/-! ### dict displays -/
theorem s_dis0 : PE X (.Dict [] [] pos) (tI Γ cf X.K L E .dis0) := pe_dnewK.imp fun σ H Q ⟨S, M, ρ, sr, er, h⟩ p hp => by
  rw [evE] at h
  obtain ⟨sr', st⟩ := sr.newF (o := .dK []) hp
  exact h _ _ st sr' _ (by rw [Rep]; exact ⟨p, [], rfl, upd_same⟩)
theorem s_dis1 {k : Str} {n : Int} {k1 k2 : Nat} {p1 p2 : Pos} : PE X (.Dict [some (.Constant (.str k) k1 p1)] [.Constant (.int n) k2 p2] pos) (tI Γ cf X.K L E (.dis1 k n)) :=
  (pe_disp (pps_cons pe_str pe_int pps_nil) rfl rfl (by simp) (by simp)).imp fun σ H Q ⟨S, M, ρ, sr, er, h⟩ p hp => by
    rw [evE] at h
    refine ⟨upd_same, [(.inr k, .int n)], rfl, by simp, ?_⟩
    have e : upd (upd H p (.dK [])) p (.dK (mergeK [] [((.inr k : Key), V.int n)])) = upd H p (.dK (mergeK [] [((.inr k : Key), V.int n)])) := by
      funext b
      by_cases hb : b = p
      · rw [hb, upd_same, upd_same]
      · rw [upd_ne hb, upd_ne hb, upd_ne hb]
    rw [e]
    obtain ⟨sr', st⟩ := sr.newF (o := .dK (mergeK [] [((.inr k : Key), V.int n)])) hp
    exact h _ _ st sr' _ (by rw [Rep]; exact ⟨p, _, rfl, upd_same⟩)
end
end GW

set_option Elab.async false
set_option linter.all false
set_option autoImplicit false
set_option maxRecDepth 100000
set_option maxHeartbeats 4000000
/-! What is asked of an exception at hand; list.count. -/
namespace GW
open PySem PySem.Spec PyProof.Rows L2 RZ
section
variable {X : Cx} {Γ : Prog} {L : Link} {cf : Calls} {k : Nat} {E : XK} {N : List Str} {sc : Scope} {st : Str → Bool} {a b c e : Expr} {es : List Expr} {ca cb cc ce : CE} {cs : CEs} {pos : Pos}
/-- the object with its dict -/
theorem exn_at {Cx0 : Addr} {H : Hp} {pins : List (Addr × Obj)} {σ : L2.St} {s : Shared} {p : Addr} {oe : Obj} {dd : Option Addr} (I : Inv X pins σ H s) (hpn : (p, oe) ∈ X.pn) (hz : Zc (.ref Cx0) dd oe) (hf : ∃ vs, oe.data = .fields vs)
    (hd : dd = none ∨ ∃ x fs, dd = some x ∧ H x = some (.xd fs)) : ∃ od, PySem.W.InstAt s.heap p oe Cx0 od := by
  obtain ⟨hget, _⟩ := I.pin (p, oe) (List.mem_append_left _ hpn)
  obtain ⟨vs, hv⟩ := hf
  have hno : PySem.W.notCls oe = true := by unfold PySem.W.notCls; rw [hv] <;> rfl
  rcases hd with rfl | ⟨x, fs, rfl, hx⟩
  · exact ⟨none, hget, hz.1, hno, by rw [hz.2]; trivial⟩
  · obtain ⟨mA, hns, _⟩ := (show ObjOk X.prog X.w H s.heap x (.xd fs) from I.hok x _ hx)
    obtain ⟨od, ho, _⟩ := lookIn_ns hns
    exact ⟨some od, hget, hz.1, hno, by rw [hz.2]; exact ho⟩
def rIsX (Γ : Prog) (K : PySem.W.Frag) (L : Link) : List V → Hp → VK → Prop := fun xs H Q => ∃ (a : Addr) (cc : Nat) (dd : Option Addr) (c : V) (cv : Value) (b : Bool), L.xn = some (a, cc, dd) ∧ Γ.xcl cc = true ∧ xs = [.ref a, c] ∧ (∀ u, RelV c u → u = cv) ∧ PySem.W.kitOne K (.ref (L.ca cc)) cv = some b ∧
  (dd = none ∨ ∃ x fs, dd = some x ∧ H x = some (.xd fs)) ∧ Q (.bl b) H
theorem call_isX (G : GoodH Γ L N sc st X) : CallR X (.builtin "isinstance") (rIsX Γ X.K L) := by
  intro pins s σ H xs us Q I r h
  obtain ⟨a, cc, dd, c, cv, b, hx, hc, rfl, hcv, e, hd, q⟩ := h
  obtain ⟨oe, hpn, hz, hf⟩ := G.xn a cc dd hx
  obtain ⟨C, _, _, _, _⟩ := G.lk.xc cc hc
  cases r with
  | cons rx rr =>
    cases rr with
    | cons rt rr =>
      cases rr
      cases rx
      have ec := hcv _ rt
      subst ec
      obtain ⟨od, J⟩ := exn_at I hpn hz hf hd
      exact PySem.W.kia_one (PySem.W.kitx_exc C.cl C.ga C.gg C.exC C.ha C.hn C.ht C.hm) I.kIn J e (fun z => nomatch z) fun tk => ⟨.bl b, H, I.kept (t' := tk) fun _ _ z => z, rfl, q⟩
def xName (T : Tbl) : Option Nat → Str
  | some c => T.cl c
  | none => "ValueError"
theorem exn_dd {K : PySem.W.Frag} {S : RS} {M : Mem} {H : Hp} {c : Nat} {as : List D} {v : V} (sr : SR K L S M H) (r : Rep K L S (.exn c as) v) : ∃ a dd vs, L.xn = some (a, c, dd) ∧ v = .ref a ∧ (dd = none ∨ ∃ x fs, dd = some x ∧ H x = some (.xd fs)) ∧ ((as = [] ∧ dd = none) ∨ ∃ x, dd = some x ∧ H x = some (.xd ((L.T.xf c).zip vs)) ∧ (L.T.xf c).length = as.length) ∧ Reps K L S as vs := by
  rw [Rep] at r
  obtain ⟨a, dd, vs, e1, e2, q, r⟩ := r
  refine ⟨a, dd, vs, e1, e2, ?_, ?_, r⟩
  · rcases q with q | ⟨x, q1, q2, q3⟩
    · exact .inl q.2
    · exact .inr ⟨x, _, q1, sr.sub _ _ q2⟩
  · rcases q with q | ⟨x, q1, q2, q3⟩
    · exact .inl q
    · exact .inr ⟨x, q1, sr.sub _ _ q2, q3⟩
theorem s_isx (G : GoodH Γ L N sc st X) {t : Option Nat} {p p2 : Pos} (hi : Gl X "isinstance") (ok : ∀ c, t = some c → Γ.xcl c = true) (hg : Gl X (xName L.T t)) (hd : (xName L.T t == ("__debug__" : Str)) = false) (hs : noStar a = true) (ha : PE X a (tI Γ cf X.K L E ca)) :
    PE X (.Call (.Name "isinstance" p) [a, .Name (xName L.T t) p2] [] pos) (tI Γ cf X.K L E (.isx ca t)) := by
  have hm : X.mg "isinstance" = none := G.lk.blt _ (by decide +kernel)
  obtain ⟨tv, tval, h1, h2, h3⟩ : ∃ (tv : V) (tval : Value), PE X (.Name (xName L.T t) p2) (tC tv) ∧ (∀ u, RelV tv u → u = tval) ∧ ∀ cc, Γ.xcl cc = true → PySem.W.kitOne X.K (.ref (L.ca cc)) tval = some (match t with | some c' => decide (c' = cc) | none => true) := by
    cases t with
    | some c' =>
      have hc' := ok c' rfl
      obtain ⟨_, mc, _, _, _⟩ := G.lk.xc c' hc'
      exact ⟨.ref (L.ca c'), .ref (L.ca c'), pe_glob hg mc rfl hd, fun u r => r, fun cc hcc => G.lk.kx cc c' hcc hc'⟩
    | none =>
      refine ⟨.ty "ValueError", .type "ValueError", pe_bltn (x := ("ValueError" : Str)) hg (G.lk.blt _ (by decide +kernel)) (u := .type "ValueError") (by decide +kernel) rfl, fun u r => r, fun cc hcc => ?_⟩
      obtain ⟨_, _, kv, _, _⟩ := G.lk.xc cc hcc
      exact kv
  have hA : PA X [a, .Name (xName L.T t) p2] (tCons (tI Γ cf X.K L E ca) (tCons (tC tv) tNil)) := pa_cons ha (pa_cons h1 pa_nil) (star_cons hs)
  refine (pe_callB (call_isX G) hi hm (by decide +kernel) hA (by decide +kernel) (by decide +kernel) (star_cons hs) rfl).imp fun σ H Q h => ?_
  obtain ⟨S, M, ρ, sr, er, h⟩ := h
  rw [evE] at h
  refine ⟨S, M, ρ, sr, er, h.bind.imp fun x M1 S1 H1 st1 sr1 h1 v rv => ?_⟩
  cases x <;> try exact (show False from h1).elim
  rename_i c as
  dsimp only at h1
  by_cases hc : Γ.xcl c = true
  case neg => rw [if_neg hc] at h1; exact (show False from h1).elim
  rw [if_pos hc] at h1
  obtain ⟨pa, dd, vs, e1, rfl, hdd, _, _⟩ := exn_dd sr1 rv
  refine ⟨pa, c, dd, tv, tval, _, e1, hc, rfl, h2, h3 c hc, hdd, ?_⟩
  cases t with
  | some c' =>
    dsimp only at h1
    rw [if_pos (ok c' rfl)] at h1
    exact Fin.now sr1 h1 _ rep_bl
  | none => exact Fin.now sr1 h1 _ rep_bl
/-! ### its fields -/
theorem getF_zip (inj : ∀ f g, L.T.nm f = L.T.nm g → f = g) {K : PySem.W.Frag} {S : RS} {fs : List Nat} {xs : List D} {ws : List V} {f : Nat} {d : D} (h : getF fs xs f = some d) (r : Reps K L S xs ws) : ∃ w, ((fs.map L.T.nm).zip ws).lookup (L.T.nm f) = some w ∧ Rep K L S d w := getF_look inj h r
theorem getF_mem : ∀ {fs : List Nat} {xs : List D} {f : Nat} {d : D}, getF fs xs f = some d → f ∈ fs
  | [], _, _, _, h => by simp [getF] at h
  | g :: fs, [], _, _, h => by simp [getF] at h
  | g :: fs, x :: xs, f, d, h => by
    rw [getF] at h
    by_cases e : g = f
    · rw [e]; exact List.mem_cons_self ..
    · rw [if_neg e] at h
      exact List.mem_cons_of_mem _ (getF_mem h)
theorem getF_ne {fs : List Nat} {xs : List D} {f : Nat} {d : D} (h : getF fs xs f = some d) : xs ≠ [] := fun z => by
  subst z
  cases fs <;> simp [getF] at h
theorem s_atx (G : GoodH Γ L N sc st X) {f : Nat} (hp : plainObj a = true) (ha : PE X a (tI Γ cf X.K L E ca)) : PE X (.Attribute a (L.T.nm f) pos) (tI Γ cf X.K L E (.atx ca f)) := by
  refine ⟨fun pins s σ H Q I h => ?_⟩
  obtain ⟨S, M, ρ, sr, er, h⟩ := h
  rw [evE] at h
  have hrun := ha.run pins s σ H (fun v H1 => ∃ S1 M1 x, SR X.K L S1 M1 H1 ∧ Rep X.K L S1 x v ∧ Fin X.K L S1 H1 E (match x with
      | .exn c as => if Γ.xcl c then Out.of (getF (Γ.xfl c) as f) M1 else .err
      | _ => .err) (fun d _ S' H' => ∀ v, Rep X.K L S' d v → Q v H')) I ⟨S, M, ρ, sr, er, h.bind.imp fun x M1 S1 H1 st1 sr1 h1 v rv => ⟨S1, M1, x, sr1, rv, h1⟩⟩
  refine attr_of (attr_base hp) (thn hrun fun u s1 ⟨v, H1, I1, ru, S1, M1, x, sr1, rx, h1⟩ => ?_)
  cases x <;> try exact (show False from h1).elim
  rename_i c as
  dsimp only at h1
  by_cases hc : Γ.xcl c = true
  case neg => rw [if_neg hc] at h1; exact (show False from h1).elim
  rw [if_pos hc] at h1
  obtain ⟨d, e, h2⟩ := h1.of sr1
  obtain ⟨pa, dd, vs, e1, rfl, hdd, hq, r⟩ := exn_dd sr1 rx
  obtain rfl : u = Value.ref pa := ru
  obtain ⟨oe, hpn, hz, hf⟩ := G.xn pa c dd e1
  obtain ⟨C, _, _, hfl, hno⟩ := G.lk.xc c hc
  rcases hq with ⟨z, _⟩ | ⟨x, rfl, hx, hl⟩
  · exact absurd z (getF_ne e)
  obtain ⟨w, hw, rw_⟩ := getF_look G.lk.inj e r
  rw [hfl] at hw
  obtain ⟨mA, hns, hr⟩ := (show ObjOk X.prog X.w H1 s1.heap x (.xd _) from I1.hok x _ hx)
  obtain ⟨od, ho, hlk⟩ := lookIn_ns hns
  obtain ⟨u2, hu, ru2⟩ := RelO.some_of (v := w) (o := mA (L.T.nm f)) (by rw [← hw]; exact hr (L.T.nm f))
  obtain ⟨vsd, hdat⟩ := hf
  obtain ⟨hget, _⟩ := I1.pin (pa, oe) (List.mem_append_left _ hpn)
  have J : PySem.W.InstAt s1.heap pa oe (L.ca c) (some od) := ⟨hget, hz.1, by unfold PySem.W.notCls; rw [hdat] <;> rfl, by rw [hz.2]; exact ho⟩
  exact HandSPX.exc_get I1.kIn J C.ga C.gg C.exC (PySem.W.findObj_own C.hd (hno f (getF_mem e)) rfl (by rw [hlk, hu])) (handed_of ru2) ⟨w, H1, I1.tok _, ru2, h2 S1 H1 (.refl _ _) sr1 w rw_⟩
/-! ### list.count -/
def rCountD (K : PySem.W.Frag) : V → List V → Hp → VK → Prop := fun x xs H Q => ∃ (a : Addr) (y : V) (d : PyData) (ds : List PyData), x = V.ref a ∧ xs = [y] ∧ Dp K H (V.ref a) (.list ds) ∧ Dp K H y d ∧
  SeqAt.shaped (.list ds) = true ∧ SeqAt.shaped d = true ∧ Q (.int (ds.countP fun z => PyData.eqv z d : Nat)) H
theorem mt_countD (hu : X.A.units + 65 < cLine) : MtR X "list.count" (rCountD X.K) := by
  intro pins s σ H x xs v us Q I rx rxs h
  obtain ⟨a, y, d, ds, rfl, rfl, hl, hy, sl, sd, q⟩ := h
  cases rx
  cases rxs with
  | cons ry rt =>
    rename_i uy ut
    cases rt
    obtain ⟨bs, r1⟩ := Dp.reads I d y uy hy ry
    have hxs : PyData.canLayAll0 ds = true := SeqAt.canLay_of_shaped sl
    have hroom : X.A.units + 1 + min (PyData.depthAll ds) d.depth < cLine := room_in_shaped sd hu
    cases hl with
    | lst hs ha =>
      obtain ⟨its, rv, ⟨⟨cls, dd, data, sls⟩, n, ho, hc, hdn, hdt⟩, hlen⟩ := I.list hs
      simp only at hc hdt
      subst hc hdt
      obtain ⟨as, h4⟩ := Dp.readsAll I ds _ its ha rv
      have hmap : its.map (SeqAt.readOf s.heap) = ds := SeqAt.readsAll_map ds its as hxs h4
      refine call_meets PySem.F.slot_list_count ⟨_, ho, rfl⟩ PySem.F.entry_list_count (PySem.F.args_list_count_2 _ _)
        (SeqAt.list_countAt a its.toArray n dd sls uy (fun u => PyData.eqv (SeqAt.readOf s.heap u) d)) ⟨ho, SeqAt.items_eqAt (vs := its.toArray) (show ReadsAll s.heap its.toArray.toList ds as from h4) r1 hxs (SeqAt.canLay_of_shaped sd) hroom, ?_⟩
      refine ⟨.int (ds.countP fun z => PyData.eqv z d : Nat), H, I.tok _, ⟨s.toks, ?_⟩, q⟩
      have e : its.toArray.toList.countP (fun u => PyData.eqv (SeqAt.readOf s.heap u) d) = ds.countP fun z => PyData.eqv z d := by
        rw [← hmap, List.countP_map]
        rfl
      rw [e]
theorem count_toPs {n m : Nat} {x : D} (hx : data n x = true) : ∀ {ys : List D}, dataL m ys = true → (toPs ys).countP (fun z => PyData.eqv z (toP x)) = ys.countP fun y => eqB y x
  | [], _ => rfl
  | y :: ys, h => by
    simp only [dataL, Bool.and_eq_true] at h
    rw [toPs, List.countP_cons, List.countP_cons, count_toPs hx h.2, eqB_toP m n y x h.1 hx]
theorem s_countL {apos : Pos} (hu : X.A.units + 65 < cLine) (hp : plainObj a = true) (hl : (apos.endLine == pos.line) = true) (hs : noStar b = true) (ha : PE X a (tI Γ cf X.K L E ca)) (hb : PE X b (tI Γ cf X.K L E cb)) :
    PE X (.Call (.Attribute a "count" apos) [b] [] pos) (tI Γ cf X.K L E (.bmt .countL ca (.cons cb .nil))) := by
  refine s_bmt1 PySem.F.slot_list_count PySem.F.type_list_count (mt_countD hu) (by decide) (fun S M H x y v u Q sr rx ry h => ?_) hp hl hs ha hb
  have t := rx.rd sr
  have e0 : bmtD .countL x [y] M = match rd M x with | .lst xs => if data 50 y && dataL 50 xs then .ok (.int (xs.countP fun z => eqB z y : Nat)) M else .err | _ => .err := by cases x <;> rfl
  rw [e0] at h
  cases e1 : rd M x <;> rw [e1] at h t <;> try exact (show False from h).elim
  rename_i xs
  dsimp only at h
  split at h
  · rename_i hz
    simp only [Bool.and_eq_true] at hz
    obtain ⟨p, vs, rfl, hq, r⟩ := t
    have sl : SeqAt.shaped (.list (toPs xs)) = true := by
      have := shaped_toP (n := 51) (x := .lst xs) (by decide) (by simpa [data] using hz.2)
      simpa [toP] using this
    refine ⟨p, u, toP y, toPs xs, rfl, rfl, .lst (.inl hq) (Reps.dp sr 50 xs vs hz.2 r), Rep.dp sr 50 y u hz.1 ry, sl, shaped_toP (by decide) hz.1, ?_⟩
    rw [count_toPs hz.1 hz.2]
    exact Fin.now sr h _ rep_int
  · exact (show False from h).elim
end
end GW

set_option Elab.async false
set_option linter.all false
set_option autoImplicit false
set_option maxRecDepth 100000
set_option maxHeartbeats 4000000
/-! repr(x) == repr(y). -/
namespace GW
open PySem PySem.Spec PyProof.Rows L2 RZ
mutual
theorem toP_show : ∀ (n : Nat) (d : D), data n d = true → wtD d ≤ 1000000 → (toP d).showable = true ∧ (toP d).hasDict = false ∧ (toP d).shown.length + 2 ≤ wtD d
  | n, .non, _, _ => ⟨rfl, rfl, by decide⟩
  | n, .bl b, _, _ => ⟨rfl, rfl, by cases b <;> decide⟩
  | n, .int i, _, h => by
    simp only [wtD] at h ⊢
    by_cases hz : i.natAbs < 2 ^ 1000
    case neg => rw [if_neg hz] at h; omega
    rw [if_pos hz]
    have hl : i.natAbs.log2 < 1000 := by
      by_cases h0 : i.natAbs = 0
      · rw [h0]; decide
      · exact (Nat.log2_lt h0).mpr hz
    have hlen : (PyData.shown (.int i)).length ≤ 1001 := by
      have e := int_text_length_le (k := 1000) (by decide) hl
      show (Str.ofString (toString i)).length ≤ 1001
      rw [PySem.ofString_length]
      exact e
    refine ⟨by simp only [toP, PyData.showable, decide_eq_true_eq]; omega, by simp only [toP, PyData.hasDict], ?_⟩
    simp only [toP]
    omega
  | n, .str s, hd, h => by
    refine ⟨rfl, rfl, ?_⟩
    simp only [data] at hd
    have hx : ∀ c ∈ s.cps.toList, c < 16 ^ 8 := fun c hc => by
      rw [Array.all_eq_true'] at hd
      have := hd c (by simpa using hc)
      simp only [decide_eq_true_eq] at this
      omega
    have e := StrLaws.reprText_len s hx
    simp only [toP, PyData.shown, wtD] at h ⊢
    omega
  | 0, .tup xs, hd, _ => by simp [data] at hd
  | n + 1, .tup xs, hd, h => by
    simp only [data] at hd
    simp only [wtD] at h ⊢
    obtain ⟨q1, q2, q3, q4⟩ := toPs_show n xs hd (by omega)
    refine ⟨by simpa only [toP, PyData.showable] using q1, by simpa only [toP, PyData.hasDict] using q2, ?_⟩
    have := tupleText_len_le (PyData.shownAll (toPs xs))
    simp only [toP, PyData.shown]
    omega
  | 0, .lst xs, hd, _ => by simp [data] at hd
  | n + 1, .lst xs, hd, h => by
    simp only [data] at hd
    simp only [wtD] at h ⊢
    obtain ⟨q1, q2, q3, q4⟩ := toPs_show n xs hd (by omega)
    refine ⟨by simpa only [toP, PyData.showable] using q1, by simpa only [toP, PyData.hasDict] using q2, ?_⟩
    have := listText_len_le (PyData.shownAll (toPs xs))
    simp only [toP, PyData.shown]
    omega
  | _, .dct _ _, hd, _ => by simp [data] at hd
  | _, .ins _ _ _, hd, _ => by simp [data] at hd
  | _, .fn _, hd, _ => by simp [data] at hd
  | _, .ref _, hd, _ => by simp [data] at hd
  | _, .tupk _, hd, _ => by simp [data] at hd
  | _, .exn _ _, hd, _ => by simp [data] at hd
theorem toPs_show : ∀ (n : Nat) (ds : List D), dataL n ds = true → wtL ds ≤ 1000000 → PyData.showableAll (toPs ds) = true ∧ PyData.hasDictAll (toPs ds) = false ∧ ((PyData.shownAll (toPs ds)).map (·.length)).sum + 2 * (PyData.shownAll (toPs ds)).length ≤ wtL ds ∧ True
  | n, [], _, _ => ⟨rfl, rfl, by simp [toPs, PyData.shownAll, wtL], trivial⟩
  | n, d :: ds, hd, h => by
    simp only [dataL, Bool.and_eq_true] at hd
    simp only [wtL] at h ⊢
    obtain ⟨a1, a2, a3⟩ := toP_show n d hd.1 (by omega)
    obtain ⟨b1, b2, b3, _⟩ := toPs_show n ds hd.2 (by omega)
    refine ⟨by simp only [toPs, PyData.showableAll, a1, b1, Bool.and_self], by simp only [toPs, PyData.hasDictAll, a2, b2, Bool.or_self], ?_, trivial⟩
    simp only [toPs, PyData.shownAll, List.map_cons, List.sum_cons, List.length_cons]
    omega
end
section
variable {X : Cx} {Γ : Prog} {L : Link} {cf : Calls} {k : Nat} {E : XK} {N : List Str} {sc : Scope} {st : Str → Bool} {a b c e : Expr} {es : List Expr} {ca cb cc ce : CE} {cs : CEs} {pos : Pos}
/-- what is shown -/
def rRepr (K : PySem.W.Frag) : List V → Hp → VK → Prop := fun xs H Q => ∃ (v : V) (d : PyData), xs = [v] ∧ Dp K H v d ∧ d.showable = true ∧ d.hasDict = false ∧ d.depth ≤ 60 ∧ d.shown.length ≤ sizeLine ∧ Q (.str d.shown) H
theorem call_reprD (hu : X.A.units + 65 < cLine) (hg : X.A.guards = some []) : CallR X (.builtin "repr") (rRepr X.K) := by
  intro pins s σ H xs us Q I r h
  obtain ⟨v, d, rfl, hd, hs, hn, hdp, hz, q⟩ := h
  obtain ⟨u, rfl, ru⟩ := r.one
  obtain ⟨as, rd⟩ := Dp.reads I d v u hd ru
  have fin : ∀ (h' : Heap) (t tk : Tok), (∀ b o, s.heap.get? b = some o → h'.get? b = some o) → EP X pins σ Q (.str d.shown t) { s with heap := h', toks := tk } := fun h' t tk k => ⟨.str d.shown, H, I.kept k, ⟨t, rfl⟩, q⟩
  cases rd with
  | none => exact PySem.P.repr_of_none (fin s.heap _ _ fun _ _ e => e)
  | bool b => exact PySem.P.repr_of_bool (by cases b <;> exact fin s.heap _ _ fun _ _ e => e)
  | int i t => exact PySem.P.repr_of_int (by simpa only [PyData.showable, decide_eq_true_eq] using hs) (fin s.heap _ _ fun _ _ e => e)
  | str x t => exact PySem.P.repr_of_str (fin s.heap _ _ fun _ _ e => e) hz
  | list h1 h2 h3 h4 => exact repr_of_reads' (Reads.list h1 h2 h3 h4) hs (PyData.noDict_hsm hn) hg (by omega) (fun _ _ e => e) (fun h' u tk k => fin h' u tk k) hz
  | tuple h1 h2 h3 h4 => exact repr_of_reads' (Reads.tuple h1 h2 h3 h4) hs (PyData.noDict_hsm hn) hg (by omega) (fun _ _ e => e) (fun h' u tk k => fin h' u tk k) hz
  | dict h1 h2 h3 h4 h5 => simp [PyData.hasDict] at hn
def rSameS : R2 := fun x y H Q => ∃ z : Str, x = .str z ∧ y = .str z ∧ Q (.bl true) H
theorem op_sameS : OpR X (compareOp .Eq) rSameS := by
  intro pins s σ H x y v u Q I rx ry h
  obtain ⟨z, rfl, rfl, q⟩ := h
  obtain ⟨t, rfl⟩ := rx
  obtain ⟨t', rfl⟩ := ry
  exact PyProof.Rows.eq_str (fin_bl I q (by simp))
theorem sameO_some {x y d : D} (h : sameO x y = some d) : d = .bl true ∧ data 50 x = true ∧ wtD x ≤ 1000000 ∧ x = y := by
  unfold sameO at h
  split at h
  · rename_i hz
    exact ⟨(Option.some.inj h).symm, hz⟩
  · cases h
theorem s_same {p1 p2 q1 q2 : Pos} (G : Good Γ L cf k E N sc st X) (hg : Gl X "repr") (hsa : noStar a = true) (hsb : noStar b = true) (ha : PE X a (tI Γ cf X.K L E ca)) (hb : PE X b (tI Γ cf X.K L E cb)) :
    PE X (.Compare (.Call (.Name "repr" p1) [a] [] q1) [.Eq] [.Call (.Name "repr" p2) [b] [] q2] pos) (tI Γ cf X.K L E (.same ca cb)) := by
  have hm : X.mg "repr" = none := G.lk.blt _ (by decide +kernel)
  have hv : bootBuiltins "repr" = some (.builtin "repr") := by decide +kernel
  have hc := call_reprD (X := X) G.hu G.gd
  have pr : ∀ {e : Expr} {ce : CE} {p q : Pos}, noStar e = true → PE X e (tI Γ cf X.K L E ce) → PE X (.Call (.Name "repr" p) [e] [] q) (tCB (rRepr X.K) (tCons (tI Γ cf X.K L E ce) tNil)) := fun {e ce p q} hs he =>
    pe_callB hc hg hm hv (pa_cons he pa_nil (star_cons hs)) (by decide) (by decide) (star_cons hs) (by rfl)
  refine (pe_cmpR op_sameS (pr hsa ha) (pr hsb hb) (nomark _)).imp fun σ H Q h => ?_
  obtain ⟨S, M, ρ, sr, er, h⟩ := h
  rw [evE] at h
  refine ⟨S, M, ρ, sr, er, h.bind.imp fun x M1 S1 H1 st1 sr1 h1 v rv => ?_⟩
  have key : ∀ {S : RS} {M : Mem} {H : Hp} {x : D} {v : V} {Q : VK}, SR X.K L S M H → Rep X.K L S x v → data 50 (rd M x) = true → wtD (rd M x) ≤ 1000000 → Q (.str (toP (rd M x)).shown) H → rRepr X.K [v] H Q := by
    intro S M H x v Q sr r hd hw q
    obtain ⟨a1, a2, a3⟩ := toP_show 50 _ hd hw
    refine ⟨v, toP (rd M x), rfl, (r.rd sr).dp sr hd, a1, a2, ?_, by rw [sizeLine_eq]; omega, q⟩
    have := (lay_toP 50 _ hd).2
    omega
  split at h1
  · rename_i hz
    simp only [Bool.and_eq_true, decide_eq_true_eq] at hz
    refine key (Q := fun y H' => tCB (rRepr X.K) (tCons (tI Γ cf X.K L E cb) tNil) σ H' fun z H2 => rSameS y z H2 Q) sr1 rv hz.1 hz.2 ?_
    refine ⟨S1, M1, ρ, sr1, er.mono st1.le, h1.bind.imp fun y M2 S2 H2 st2 sr2 h2 u ru => ?_⟩
    obtain ⟨d, e, h3⟩ := h2.of sr2
    obtain ⟨rfl, _, _, exy⟩ := sameO_some e
    refine key (Q := fun z H2 => rSameS (.str (toP (rd M1 x)).shown) z H2 Q) sr2 ru (by rw [← exy]; exact hz.1) (by rw [← exy]; exact hz.2) ⟨_, rfl, by rw [exy], ?_⟩
    exact h3 _ _ (.refl _ _) sr2 _ rep_bl
  · exact (show False from h1).elim
end
end GW

set_option Elab.async false
set_option linter.all false
set_option autoImplicit false
set_option maxRecDepth 100000
set_option maxHeartbeats 4000000
/-! Lambdas: parameters, names; where they stand in the core. -/
namespace GW
open PySem PySem.Spec PyProof.Rows L2 LamX
/-- its parameters and their defaults -/
def lamP (p : Arguments) : Option (List (Str × Int)) := match p with
  | { posonlyargs := [], args := [], vararg := none, kwonlyargs := [], kw_defaults := [], kwarg := none, defaults := [] } => some []
  | { posonlyargs := [], args := [⟨a, _, _⟩], vararg := none, kwonlyargs := [], kw_defaults := [], kwarg := none, defaults := [.Constant (.int n) _ _] } => some [(a, n)]
  | _ => none
/-! ### its names, its body's context -/
structure LamQ (N : List Str) (sc scope : Scope) (bs : List (Str × Int)) : Prop where
  kind : scope.kind = .function
  co : scope.isCoroutine = false
  gen : scope.isGenerator = false
  own : ∀ y ∈ scope.names, y.2 ≠ .cell ∧ (y.2 = .local → y.1 ∉ N)
  par : ∀ p ∈ bs, scope.names.lookup p.1 = some .local
  free : ∀ y ∈ scope.names, y.2 = .free → sc.names.lookup y.1 = some .cell ∨ sc.names.lookup y.1 = some .free
def lamQB (N : List Str) (sc scope : Scope) (bs : List (Str × Int)) : Bool :=
  decide (scope.kind = .function) && !scope.isCoroutine && !scope.isGenerator && (scope.names.all fun y => !decide (y.2 = .cell) && (!decide (y.2 = .local) || !decide (y.1 ∈ N)) && (!decide (y.2 = .free) || decide (sc.names.lookup y.1 = some .cell) || decide (sc.names.lookup y.1 = some .free))) &&
    bs.all fun p => decide (scope.names.lookup p.1 = some .local)
theorem lamQ_by {N : List Str} {sc scope : Scope} {bs : List (Str × Int)} (h : lamQB N sc scope bs = true) : LamQ N sc scope bs := by
  unfold lamQB at h
  simp only [Bool.and_eq_true, Bool.or_eq_true, Bool.not_eq_true', decide_eq_true_eq, decide_eq_false_iff_not, List.all_eq_true] at h
  obtain ⟨⟨⟨⟨h1, h2⟩, h3⟩, h4⟩, h5⟩ := h
  refine ⟨h1, h2, h3, fun y hy => ⟨(h4 y hy).1.1, fun e => ?_⟩, h5, fun y hy e => ?_⟩
  · rcases (h4 y hy).1.2 with z | z
    · exact absurd e z
    · exact z
  · rcases (h4 y hy).2 with (z | z) | z
    · exact absurd e z
    · exact .inl z
    · exact .inr z
theorem LamQ.has {X : Cx} {scope : Scope} {bs : List (Str × Int)} (L : LamQ X.N X.env.scope scope bs) (ok : X.Ok) : ∀ y ∈ scope.names, y.2 = .free → ∃ c, X.env.cells.lookup y.1 = some c := fun y hy e => by
  rcases L.free y hy e with k | k
  · exact ok.has _ (.inl k)
  · exact ok.has _ (.inr k)
mutual
/-- a lambda stands in it -/
def hasT : CE → Bool
  | .told _ => true
  | .lit _ => false | .var _ => false | .glb _ => false | .dis0 => false | .dis1 _ _ => false
  | .bin _ a b => hasT a || hasT b | .neg a => hasT a | .not a => hasT a | .and a b => hasT a || hasT b | .or a b => hasT a || hasT b
  | .cmp _ a b => hasT a || hasT b | .cmp2 _ _ a b c => hasT a || hasT b || hasT c | .ite c a b => hasT c || hasT a || hasT b
  | .tup es => hasTs es | .lst _ es => hasTs es
  | .comp _ _ tg it cond elt => hasTG tg || hasTI it || hasTO cond || hasT elt
  | .ix a b => hasT a || hasT b | .slc a lo hi => hasT a || hasTO lo || hasTO hi | .rev a => hasT a
  | .isi a _ => hasT a | .eqm _ a b => hasT a || hasT b | .same a b => hasT a || hasT b
  | .blt _ es => hasTs es | .call _ es => hasTs es | .calv _ es => hasTs es | .new _ es => hasTs es | .mth _ o es => hasT o || hasTs es | .bmt _ o es => hasT o || hasTs es
  | .att o _ => hasT o | .frz a => hasT a | .lsto a => hasT a | .isx a _ => hasT a | .atx a _ => hasT a
def hasTs : CEs → Bool
  | .nil => false
  | .cons e es => hasT e || hasTs es
def hasTO : CO → Bool
  | .no => false
  | .yes e => hasT e
def hasTG : CT → Bool
  | .name _ => false
  | .tup ts => hasTGs ts
  | .sub o i => hasT o || hasT i
  | .att o _ => hasT o
def hasTGs : CTs → Bool
  | .nil => false
  | .cons t ts => hasTG t || hasTGs ts
def hasTI : CI → Bool
  | .seq e => hasT e | .rng1 a => hasT a | .rng2 a b => hasT a || hasT b | .enu e => hasT e | .zip a b => hasT a || hasT b
end
/-- the rule for _law_told(lambda ..: e) -/
def ToldRule (Γ : Prog) (cf : Calls) (L : Link) (k : Nat) (X : Cx) : Prop := ∀ (E : XK) (ce : CE) (params : Arguments) (bs : List (Str × Int)) (body : Expr) (scope : Scope) (p lpos pos : Pos), Good Γ L cf k E X.N X.env.scope (fun _ => false) X → Gl X "_law_told" → lamP params = some bs → LamQ X.N X.env.scope scope bs →
  (∀ (A : Around) (outer : List PySem.Env) (s : Shared) (H : Hp) (E : XK) (f c' : Addr), A.guards = some [] → Room (k + 1) (A.deeper (lamEnv X scope s.heap.objs.size f c')) → PE (lamCx X A outer s H E scope f c') body (tI Γ cf X.K L E ce)) →
  PE X (.Call (.Name "_law_told" p) [.Lambda params body scope lpos] [] pos) (tI Γ cf X.K L E (.told ce))
theorem Good.lam {Γ : Prog} {L : Link} {cf : Calls} {k : Nat} {E E' : XK} {N : List Str} {sc scope : Scope} {st st' : Str → Bool} {X : Cx} {A : Around} {outer : List PySem.Env} {s : Shared} {H : Hp} {f c' : Addr} (G : Good Γ L cf k E N sc st X) (hgd : A.guards = some []) (hr : Room (k + 1) (A.deeper (lamEnv X scope s.heap.objs.size f c')))
    (hst : ∀ x, st' x = true → scope.names.lookup x = some .local) : Good Γ L cf k E' N scope st' (lamCx X A outer s H E' scope f c') :=
  ⟨⟨G.hN, G.nd, rfl, fun x h => .inr (hst x h), G.lk, by have := hr.un; show (A.deeper (lamEnv X scope s.heap.objs.size f c')).units + 65 < cLine; omega, fun a c dd z => by rw [G.nx] at z; cases z⟩, G.nx, rfl, hr, hgd, takes_of rfl rfl rfl rfl, G.ar, G.no, G.exc, G.fns⟩
end GW

set_option Elab.async false
set_option linter.all false
set_option autoImplicit false
set_option maxRecDepth 100000
set_option maxHeartbeats 4000000
/-! The checker: is the text the core's? -/
namespace GW
open PySem PySem.Spec PyProof.Rows L2 RZ
/-! ### small conditions -/
def visC (sc : Scope) (x : Str) : Bool := match sc.names.lookup x with | some .local => true | some .cell => true | some .free => true | _ => false
def locC (sc : Scope) (x : Str) : Bool := match sc.names.lookup x with | some .local => true | some .cell => true | _ => false
def glC (sc : Scope) (x : Str) : Bool := match sc.names.lookup x with | some .globalImplicit => true | _ => false
def plainN (x : Str) : Bool := !(x == ("__debug__" : Str)) && !(x == ("__classdict__" : Str))
theorem visC_ok {sc : Scope} {x : Str} (h : visC sc x = true) : Vis sc x := by
  unfold visC at h
  unfold Vis
  split at h <;> first | exact .inl (by assumption) | exact .inr (.inl (by assumption)) | exact .inr (.inr (by assumption)) | cases h
theorem locC_ok {sc : Scope} {x : Str} (h : locC sc x = true) : L2.Loc sc x := by
  unfold locC at h
  unfold L2.Loc
  split at h <;> first | exact .inl (by assumption) | exact .inr (by assumption) | cases h
def compOk (e : Expr) : Bool := match e with | .Set .. => false | _ => true
theorem compOk_ok {e : Expr} {env : PySem.Env} (h : compOk e = true) (x : Value) : foldedSetIterable e env x = pure x := by
  cases e <;> first | rfl | exact absurd (show false = true from h) Bool.false_ne_true
def plainTest (e : Expr) : Bool := match e with
  | .Name .. => true | .Call .. => true | .Attribute .. => true | .Subscript .. => true | .List .. => true | .ListComp .. => true | .BinOp .. => true | .Tuple .. => true | .Constant .. => true
  | _ => false
theorem plainTest_ok {e : Expr} {env : PySem.Env} (h : plainTest e = true) (whole : Sem Value) : isTrue e env whole = (do let v ← whole; standAt e.pos; holding [v] (truthy v)) := by
  cases e <;> first | rfl | exact absurd (show false = true from h) Bool.false_ne_true
def plainIx (e : Expr) : Bool := notSlice e
theorem plainIx_ok {e : Expr} (h : plainIx e = true) : PlainIx e := by
  intro o i
  cases e <;> first | rfl | exact absurd (show false = true from h) Bool.false_ne_true
/-- swapsWith says no -/
def swN (e : Expr) : Bool := match e with | .ListComp .. => false | .SetComp .. => false | .DictComp .. => false | _ => true
theorem swN_ok {e : Expr} {t : Option Expr} {l : Nat} {env : PySem.Env} (h : swN e = true) : swapsWith e t l env = pure false := by
  cases e <;> first | rfl | exact absurd (show false = true from h) Bool.false_ne_true
theorem mth_ht {o : Expr} {nm : Str} {apos pos : Pos} {es : List Expr} {env : PySem.Env} (hp : plainObj o = true) (hl : (apos.endLine == pos.line) = true) (hs : es.all noStar = true) (hn : es.length < 28) :
    eval (.Call (.Attribute o nm apos) es [] pos) env = (do
      let ov ← eval o env
      standAt apos.atName
      let (f, first) ← holding [ov] (getMethod ov nm (do return (← importBound o env).getD true))
      callWith pos f first (backTo pos (starEach es env)) (backToKw pos (keywordEach [] env))) := by
  have hf : methodCallForm (es.length + ([] : List Keyword).length) (backTo pos (starEach es env)) (backToKw pos (keywordEach [] env)) = true := few_ok hs hn
  have e1 : eval (.Call (.Attribute o nm apos) es [] pos) env = (do
      let ov ← attributeBase o nm env (eval o env)
      standAt apos.atName
      methodCall o nm apos pos env ov (es.length + ([] : List Keyword).length) (backTo pos (starEach es env)) (backToKw pos (keywordEach [] env))) := by
    cases o <;> rfl
  rw [e1, attr_base hp]
  unfold methodCall
  rw [hf]
  have e2 : methodCallPos true o env apos pos = pure pos := by
    unfold methodCallPos
    rw [hl]
    rfl
  rw [e2]
  rfl
/-! ### the checker -/
def stC (raw sc : Scope) : Str → Bool := fun x => (raw.names.lookup x == some .cell) || (sc.names.lookup x == some .local)
def nmAt (N : List Str) (i : Nat) (x : Str) : Bool := decide (N[i]? = some x)
def tyC (T : Tbl) (Γ : Prog) (sc : Scope) : List Ty → List Expr → Bool
  | [], [] => true
  | t :: ts, e :: es => (match e with
    | .Name x _ => decide (x = tyName T t) && okTy Γ t && glC sc x && plainN x
    | _ => false) && tyC T Γ sc ts es
  | _, _ => false
def ownN (N : List Str) (own : List Nat) : List (Str × Nat) := own.map fun i => (N.getD i ⟨#[]⟩, i)
section
variable (Γ : Prog) (T : Tbl) (N : List Str) (hot tl : Bool)
mutual
def chkE : CE → Bool → Scope → Scope → Expr → Bool
  | .lit d, t, raw, sc, e => (!t || plainTest e) && (match d, e with
    | .int i, .Constant (.int j) _ _ => i == j
    | .bl b, .Constant (.bool c) _ _ => b == c
    | .non, .Constant .none _ _ => true
    | .str z, .Constant (.str y) _ _ => decide (z = y) && decide (z.length ≤ LINE)
    | .fn f, .Name x _ => decide (x = T.fn f) && Γ.glf f && glC sc x && plainN x
    | _, _ => false)
  | .var i, t, raw, sc, e => (!t || plainTest e) && (match e with | .Name x _ => nmAt N i x && visC sc x && plainN x | _ => false)
  | .glb g, t, raw, sc, e => (!t || plainTest e) && (match e with | .Name x _ => decide (x = T.gl g) && glC sc x && plainN x | _ => false)
  | .bin o a b, t, raw, sc, e => (!t || plainTest e) && (match e with | .BinOp l p r _ => decide (p = opA o) && chkE a false raw sc l && chkE b false raw sc r | _ => false)
  | .neg a, t, raw, sc, e => !t && (match e with | .UnaryOp p x _ => decide (p = .USub) && chkE a false raw sc x | _ => false)
  | .not a, t, raw, sc, e => (match e with | .UnaryOp p x _ => decide (p = .Not) && chkE a t raw sc x | _ => false)
  | .and a b, t, raw, sc, e => (match e with
    | .BoolOp p (x :: y :: rest) q => decide (p = .And) && chkE a t raw sc x && (match rest with | [] => chkE b t raw sc y | z :: rest => chkE b t raw sc (.BoolOp .And (y :: z :: rest) q))
    | _ => false)
  | .or a b, t, raw, sc, e => (match e with
    | .BoolOp p (x :: y :: rest) q => decide (p = .Or) && chkE a t raw sc x && (match rest with | [] => chkE b t raw sc y | z :: rest => chkE b t raw sc (.BoolOp .Or (y :: z :: rest) q))
    | _ => false)
  | .cmp o a b, t, raw, sc, e => (match e with | .Compare l [p] [r] _ => decide (p = opC o) && !(behindInMarks (opC o) r) && chkE a false raw sc l && chkE b false raw sc r | _ => false)
  | .cmp2 o p a b c, t, raw, sc, e => (match e with | .Compare l [p1, p2] [r, u] _ => decide (p1 = opC o) && decide (p2 = opC p) && !(lastMarks [opC o, opC p] [r, u]) && chkE a false raw sc l && chkE b false raw sc r && chkE c false raw sc u | _ => false)
  | .ite c a b, t, raw, sc, e => !t && (match e with | .IfExp x y z _ => chkE c true raw sc x && chkE a false raw sc y && chkE b false raw sc z | _ => false)
  | .tup es, t, raw, sc, e => (!t || plainTest e) && (match e with | .Tuple xs _ _ => chkEs es raw sc xs | _ => false)
  | .lst _ es, t, raw, sc, e => (!t || plainTest e) && (match e with | .List xs _ => chkEs es raw sc xs | _ => false)
  | .comp _ own tg it cond elt, t, raw, sc, e => !hot && (!t || plainTest e) && (match e with
    | .ListComp elt' [⟨tg', it', ifs, asy⟩] scope _ => !(hasTG tg || hasTO cond || hasT elt) && decide (asy = 0) && blkC N sc scope (ownN N own) && compOk it' && chkI it raw sc tg' it' && chkG tg (some own) scope (relS scope sc) tg' && chkC cond scope (relS scope sc) ifs && chkE elt false scope (relS scope sc) elt'
    | _ => false)
  | .ix a b, t, raw, sc, e => (!t || plainTest e) && (match e with | .Subscript x y _ => plainIx y && chkE a false raw sc x && chkE b false raw sc y | _ => false)
  | .slc a lo hi, t, raw, sc, e => (!t || plainTest e) && (match e with | .Subscript x (.Slice l h none _) _ => chkE a false raw sc x && chkO lo raw sc l && chkO hi raw sc h | _ => false)
  | .rev a, t, raw, sc, e => (!t || plainTest e) && (match e with | .Subscript x (.Slice none none (some (.UnaryOp p (.Constant (.int i) _ _) _)) _) _ => decide (p = .USub) && i == 1 && chkE a false raw sc x | _ => false)
  | .isi a ts, t, raw, sc, e => (!t || plainTest e) && (match e with
    | .Call (.Name f _) [x, y] [] _ => decide (f = ("isinstance" : Str)) && glC sc "isinstance" && noStar x && chkE a false raw sc x && (match y with
      | .Tuple ys _ _ => decide (ts ≠ []) && decide (ts.length ≤ 100) && tyC T Γ sc ts ys
      | y => tyC T Γ sc ts [y])
    | _ => false)
  | .eqm m a b, t, raw, sc, e => !hot && decide (T.nm m = ("__eq__" : Str)) && (match e with | .Compare l [p] [r] _ => decide (p = .Eq) && chkE a false raw sc l && chkE b false raw sc r | _ => false)
  | .same a b, t, raw, sc, e => !hot && (!t && (match e with
    | .Compare (.Call (.Name f _) [x] [] _) [p] [.Call (.Name g _) [y] [] _] _ => decide (f = ("repr" : Str)) && decide (g = ("repr" : Str)) && glC sc "repr" && decide (p = .Eq) && noStar x && noStar y && chkE a false raw sc x && chkE b false raw sc y
    | _ => false))
  | .blt b es, t, raw, sc, e => !hot && (!t || plainTest e) && (match e with
    | .Call (.Name f _) (x :: xs) [] _ => decide (f = bltName b) && glC sc f && (x :: xs).all noStar && chkEs es raw sc (x :: xs)
    | _ => false)
  | .call f es, t, raw, sc, e => !hot && (!t || plainTest e) && (match e with
    | .Call (.Name x _) xs [] _ => decide (x = T.fn f) && Γ.glf f && glC sc x && plainN x && xs.all noStar && chkEs es raw sc xs
    | _ => false)
  | .calv i es, t, raw, sc, e => !hot && (!t || plainTest e) && (match e with
    | .Call (.Name x _) (y :: ys) [] _ => nmAt N i x && visC sc x && plainN x && (y :: ys).all noStar && chkEs es raw sc (y :: ys)
    | _ => false)
  | .new c es, t, raw, sc, e => !hot && (!t || plainTest e) && (match e with
    | .Call (.Name x _) (y :: ys) [] _ => decide (x = T.cl c) && glC sc x && plainN x && (match Γ.cls c with | some (f, _) => (Γ.fn f).isSome | none => false) && (y :: ys).all noStar && chkEs es raw sc (y :: ys)
    | _ => false)
  | .mth m o es, t, raw, sc, e => !hot && (!t || plainTest e) && (match e with
    | .Call (.Attribute x nm apos) ys [] pos => decide (nm = T.nm m) && plainObj x && (apos.endLine == pos.line) && ys.all noStar && decide (ys.length < 28) && chkE o false raw sc x && chkEs es raw sc ys
    | _ => false)
  | .bmt m o (.cons c .nil), t, raw, sc, e => (!t || plainTest e) && (match e with
    | .Call (.Attribute x nm apos) [y] [] pos => plainObj x && (apos.endLine == pos.line) && noStar y && chkE o false raw sc x && chkE c false raw sc y && (match m with
      | .append => decide (nm = ("append" : Str))
      | .extend => decide (nm = ("extend" : Str))
      | .indexL => decide (nm = ("index" : Str))
      | .indexT => decide (nm = ("index" : Str))
      | .countL => decide (nm = ("count" : Str)))
    | _ => false)
  | .bmt _ _ _, _, _, _, _ => false
  | .att o f, t, raw, sc, e => (!t || plainTest e) && (match e with | .Attribute x nm _ => decide (nm = T.nm f) && plainObj x && chkE o false raw sc x | _ => false)
  | .isx a x, t, raw, sc, e => (!t || plainTest e) && (match e with
    | .Call (.Name f _) [y, .Name n _] [] _ => decide (f = ("isinstance" : Str)) && glC sc "isinstance" && noStar y && decide (n = xName T x) && glC sc (xName T x) && plainN (xName T x) && (match x with | some c => Γ.xcl c | none => true) && chkE a false raw sc y
    | _ => false)
  | .atx o f, t, raw, sc, e => (!t || plainTest e) && (match e with | .Attribute x nm _ => decide (nm = T.nm f) && plainObj x && chkE o false raw sc x | _ => false)
  | .told a, t, raw, sc, e => !hot && (tl && !t && !hasT a) && (match e with
    | .Call (.Name f _) [.Lambda params body scope _] [] _ => decide (f = ("_law_told" : Str)) && glC sc "_law_told" && (match lamP params with | some bs => lamQB N sc scope bs | none => false) && chkE a false scope scope body
    | _ => false)
  | .dis0, t, raw, sc, e => !t && (match e with | .Dict [] [] _ => true | _ => false)
  | .dis1 k n, t, raw, sc, e => !t && (match e with | .Dict [some (.Constant (.str z) _ _)] [.Constant (.int i) _ _] _ => decide (z = k) && i == n | _ => false)
  | .frz a, t, raw, sc, e => (!t || plainTest e) && chkE a false raw sc e
  | .lsto a, t, raw, sc, e => !hot && (!t || plainTest e) && (match e with | .Call (.Name f _) [x] [] _ => decide (f = ("list" : Str)) && glC sc f && noStar x && chkE a false raw sc x | _ => false)
def chkEs : CEs → Scope → Scope → List Expr → Bool
  | .nil, _, _, es => match es with | [] => true | _ :: _ => false
  | .cons c cs, raw, sc, es => match es with | e :: es => noStar e && chkE c false raw sc e && chkEs cs raw sc es | [] => false
def chkO : CO → Scope → Scope → Option Expr → Bool
  | .no, _, _, e => match e with | none => true | some _ => false
  | .yes c, raw, sc, e => match e with | some e => chkE c false raw sc e | none => false
def chkC : CO → Scope → Scope → List Expr → Bool
  | .no, _, _, e => match e with | [] => true | _ :: _ => false
  | .yes c, raw, sc, e => match e with | [e] => chkE c true raw sc e | _ => false
def chkG : CT → Option (List Nat) → Scope → Scope → Expr → Bool
  | .name i, w, raw, sc, e => match e with | .Name x _ => nmAt N i x && locC sc x && stC raw sc x && inOwn w i | _ => false
  | .tup ts, w, raw, sc, e => match e with | .Tuple es _ _ => !hot && es.all noStar && decide (lenTs ts = es.length) && chkGs ts w raw sc es | _ => false
  | .sub o i, w, raw, sc, e => match e with | .Subscript x y _ => notSlice y && chkE o false raw sc x && chkE i false raw sc y | _ => false
  | .att o f, w, raw, sc, e => match e with | .Attribute x nm _ => !hot && decide (nm = T.nm f) && chkE o false raw sc x | _ => false
def chkGs : CTs → Option (List Nat) → Scope → Scope → List Expr → Bool
  | .nil, _, _, _, es => match es with | [] => true | _ :: _ => false
  | .cons t ts, w, raw, sc, es => match es with | e :: es => noStar e && chkG t w raw sc e && chkGs ts w raw sc es | [] => false
def chkI : CI → Scope → Scope → Expr → Expr → Bool
  | .seq a, raw, sc, _, e => chkE a false raw sc e
  | .rng1 a, raw, sc, _, e => !hot && match e with | .Call (.Name f _) [x] [] _ => decide (f = ("range" : Str)) && glC sc f && noStar x && chkE a false raw sc x | _ => false
  | .rng2 a b, raw, sc, _, e => !hot && match e with | .Call (.Name f _) [x, y] [] _ => decide (f = ("range" : Str)) && glC sc f && noStar x && noStar y && chkE a false raw sc x && chkE b false raw sc y | _ => false
  | .enu a, raw, sc, tg, e => !hot && match tg, e with | .Tuple _ _ _, .Call (.Name f _) [x] [] _ => decide (f = ("enumerate" : Str)) && glC sc f && noStar x && chkE a false raw sc x | _, _ => false
  | .zip a b, raw, sc, tg, e => !hot && match tg, e with | .Tuple _ _ _, .Call (.Name f _) [x, y] [] _ => decide (f = ("zip" : Str)) && glC sc f && noStar x && noStar y && chkE a false raw sc x && chkE b false raw sc y | _, _ => false
end
end
end GW

set_option Elab.async false
set_option linter.all false
set_option autoImplicit false
set_option maxRecDepth 100000
set_option maxHeartbeats 8000000
/-! What the checker passes runs as the core says: expressions. -/
namespace GW
open PySem PySem.Spec PyProof.Rows L2 RZ
def isBool (e : Expr) : Bool := match e with | .BoolOp _ _ _ => true | _ => false
def Snd (Γ : Prog) (cf : Calls) (L : Link) (E : XK) (X : Cx) (c : CE) (t : Bool) (e : Expr) : Prop :=
  (t = false → PE X e (tI Γ cf X.K L E c)) ∧ (t = true → PT X e (tT Γ cf X.K L E c) ∧ (isBool e = true → PW X e (tT Γ cf X.K L E c)))
section
variable {X : Cx} {Γ : Prog} {L : Link} {cf : Calls} {k : Nat} {E : XK} {N : List Str} {raw sc : Scope} {st : Str → Bool} {a b c e : Expr} {es : List Expr} {ca cb cc ce : CE} {cs : CEs} {pos : Pos} {t : Bool}
theorem snd_pe (hp : (!t || plainTest e) = true) (h : PE X e (tI Γ cf X.K L E ce)) : Snd Γ cf L E X ce t e := by
  refine ⟨fun _ => h, fun ht => ?_⟩
  subst ht
  have hp : plainTest e = true := hp
  refine ⟨s_truth h (plainTest_ok hp), fun hb => ?_⟩
  cases e <;> first | exact absurd (show false = true from hb) Bool.false_ne_true | exact absurd (show false = true from hp) Bool.false_ne_true
theorem snd_pt (h : PE X e (tI Γ cf X.K L E ce)) (h2 : PT X e (tT Γ cf X.K L E ce)) (hb : isBool e = false) : Snd Γ cf L E X ce t e :=
  ⟨fun _ => h, fun _ => ⟨h2, fun z => by rw [hb] at z; cases z⟩⟩
theorem s_bool1 {op : BoolOp} (h : PE X a (tI Γ cf X.K L E ca)) : PE X (.BoolOp op [a] pos) (tI Γ cf X.K L E ca) := ⟨fun pins s σ H Q I q => by
  have e : eval (.BoolOp op [a] pos) X.env = eval a X.env := rfl
  rw [e]
  exact h.run pins s σ H Q I q⟩
theorem s_pnever (h : ∀ σ H Q, tI Γ cf X.K L E ce σ H Q → False) : PE X e (tI Γ cf X.K L E ce) := ⟨fun _ _ σ H Q _ q => (h σ H Q q).elim⟩
theorem s_glb (G : GoodH Γ L N sc st X) {g : Nat} (hg : Gl X (L.T.gl g)) (hd : (L.T.gl g == ("__debug__" : Str)) = false) : PE X (.Name (L.T.gl g) pos) (tI Γ cf X.K L E (.glb g)) := by
  cases e1 : Γ.glb g with
  | none =>
    refine s_pnever fun σ H Q h => ?_
    obtain ⟨S, M, ρ, sr, er, h⟩ := h
    rw [evE, e1] at h
    exact h
  | some d =>
    obtain ⟨v, u, hm, r, q⟩ := G.lk.glb g d e1
    refine (pe_glob hg hm r hd).imp fun σ H Q h => ?_
    obtain ⟨S, M, ρ, sr, er, h⟩ := h
    rw [evE, e1] at h
    exact Fin.now sr h v (q S)
theorem s_fnv (G : GoodH Γ L N sc st X) {f : Nat} (hg : Gl X (L.T.fn f)) (hf : Γ.glf f = true) (hd : (L.T.fn f == ("__debug__" : Str)) = false) : PE X (.Name (L.T.fn f) pos) (tI Γ cf X.K L E (.lit (.fn f))) := by
  refine (pe_glob (v := .ref (L.fa f)) hg (G.lk.gfn f hf).1 rfl hd).imp fun σ H Q h => ?_
  obtain ⟨S, M, ρ, sr, er, h⟩ := h
  rw [evE] at h
  exact Fin.now sr h _ (by rw [Rep])
theorem glC_ok (G : GoodH Γ L N sc st X) {x : Str} (h : glC sc x = true) : Gl X x := by
  unfold glC at h
  show X.env.scope.names.lookup x = some .globalImplicit
  rw [G.sc]
  split at h
  · assumption
  · cases h
theorem plainN_1 {x : Str} (h : plainN x = true) : (x == ("__debug__" : Str)) = false := by
  unfold plainN at h
  simp only [Bool.and_eq_true, Bool.not_eq_true'] at h
  exact h.1
theorem plainN_2 {x : Str} (h : plainN x = true) : (x == ("__classdict__" : Str)) = false := by
  unfold plainN at h
  simp only [Bool.and_eq_true, Bool.not_eq_true'] at h
  exact h.2
theorem tyC_ok (G : GoodH Γ L N sc st X) : ∀ {ts : List Ty} {es : List Expr}, tyC L.T Γ sc ts es = true → TyEs Γ L.T X es ts
  | [], [], _ => .nil
  | [], _ :: _, h => by cases h
  | _ :: _, [], h => by cases h
  | ty :: ts, e :: es, h => by
    unfold tyC at h
    rw [Bool.and_eq_true] at h
    obtain ⟨h1, h2⟩ := h
    split at h1
    · simp only [Bool.and_eq_true, decide_eq_true_eq] at h1
      obtain ⟨⟨⟨rfl, ok⟩, hg⟩, hn⟩ := h1
      exact .cons ok (glC_ok G hg) (plainN_1 hn) (tyC_ok G h2)
    · cases h1
theorem hot_and {hot b : Bool} (h : (!hot && b) = true) : hot = false ∧ b = true := by
  rw [Bool.and_eq_true] at h
  exact ⟨by simpa using h.1, h.2⟩
theorem Good.any (G : Good Γ L cf k E N sc st X) : Good Γ L cf k E X.N X.env.scope (fun _ => false) X := by
  have h1 := G.hN
  have h2 := G.sc
  subst h1 h2
  exact { G with sto := fun x h => nomatch h }
theorem ownN_snd (own : List Nat) : (ownN N own).map (·.2) = own := by
  unfold ownN
  rw [List.map_map]
  exact List.map_id' own
end
section
variable {Γ : Prog} {L : Link} {cf : Calls} {k : Nat} {N : List Str} {hot tl : Bool}
mutual
theorem sndE : ∀ (c : CE) (t : Bool) (raw sc : Scope) (E : XK) (X : Cx) (e : Expr), GoodH Γ L N sc (stC raw sc) X → (hot = false → Good Γ L cf k E N sc (stC raw sc) X) → (hasT c = true → tl = true → ToldRule Γ cf L k X) → chkE Γ L.T N hot tl c t raw sc e = true → Snd Γ cf L E X c t e
  | .lit d, t, raw, sc, E, X, e, GH, G, R, h => by
    rw [chkE.eq_def] at h
    dsimp only at h
    rw [Bool.and_eq_true] at h
    obtain ⟨h1, h2⟩ := h
    refine snd_pe h1 ?_
    split at h2
    · obtain rfl := eq_of_beq h2; exact s_lit_int
    · obtain rfl := eq_of_beq h2; exact s_lit_bl
    · exact s_lit_non
    · simp only [Bool.and_eq_true, decide_eq_true_eq] at h2
      obtain ⟨rfl, hz⟩ := h2
      exact s_lit_str hz
    · simp only [Bool.and_eq_true, decide_eq_true_eq] at h2
      obtain ⟨⟨⟨rfl, hf⟩, hg⟩, hn⟩ := h2
      exact s_fnv GH (glC_ok GH hg) hf (plainN_1 hn)
    · cases h2
  | .var i, t, raw, sc, E, X, e, GH, G, R, h => by
    rw [chkE.eq_def] at h
    dsimp only at h
    rw [Bool.and_eq_true] at h
    obtain ⟨h1, h2⟩ := h
    refine snd_pe h1 ?_
    split at h2
    · simp only [Bool.and_eq_true, nmAt, decide_eq_true_eq] at h2
      obtain ⟨⟨hi, hv⟩, hn⟩ := h2
      exact s_var (by rw [GH.hN]; exact hi) (by rw [GH.sc]; exact visC_ok hv) (plainN_1 hn) (plainN_2 hn)
    · cases h2
  | .glb g, t, raw, sc, E, X, e, GH, G, R, h => by
    rw [chkE.eq_def] at h
    dsimp only at h
    rw [Bool.and_eq_true] at h
    obtain ⟨h1, h2⟩ := h
    refine snd_pe h1 ?_
    split at h2
    · simp only [Bool.and_eq_true, decide_eq_true_eq] at h2
      obtain ⟨⟨rfl, hg⟩, hn⟩ := h2
      exact s_glb GH (glC_ok GH hg) (plainN_1 hn)
    · cases h2
  | .bin o a b, t, raw, sc, E, X, e, GH, G, R, h => by
    rw [chkE.eq_def] at h
    dsimp only at h
    rw [Bool.and_eq_true] at h
    obtain ⟨h1, h2⟩ := h
    refine snd_pe h1 ?_
    split at h2
    · simp only [Bool.and_eq_true, decide_eq_true_eq] at h2
      obtain ⟨⟨rfl, ha⟩, hb⟩ := h2
      exact s_bin ((sndE a false raw sc E X _ GH G (fun z y => R (by simp [hasT, hasTs, hasTO, hasTG, hasTGs, hasTI, z]) y) ha).1 rfl) ((sndE b false raw sc E X _ GH G (fun z y => R (by simp [hasT, hasTs, hasTO, hasTG, hasTGs, hasTI, z]) y) hb).1 rfl)
    · cases h2
  | .neg a, t, raw, sc, E, X, e, GH, G, R, h => by
    rw [chkE.eq_def] at h
    dsimp only at h
    rw [Bool.and_eq_true] at h
    obtain ⟨h1, h2⟩ := h
    have h1 : t = false := by simpa using h1
    subst h1
    refine ⟨fun _ => ?_, fun z => nomatch z⟩
    split at h2
    · simp only [Bool.and_eq_true, decide_eq_true_eq] at h2
      obtain ⟨rfl, ha⟩ := h2
      exact s_neg ((sndE a false raw sc E X _ GH G (fun z y => R (by simp [hasT, hasTs, hasTO, hasTG, hasTGs, hasTI, z]) y) ha).1 rfl)
    · cases h2
  | .not a, t, raw, sc, E, X, e, GH, G, R, h => by
    rw [chkE.eq_def] at h
    dsimp only at h
    split at h
    · simp only [Bool.and_eq_true, decide_eq_true_eq] at h
      obtain ⟨rfl, ha⟩ := h
      have q := sndE a t raw sc E X _ GH G (fun z y => R (by simp [hasT, hasTs, hasTO, hasTG, hasTGs, hasTI, z]) y) ha
      exact ⟨fun z => s_not (q.1 z), fun z => ⟨s_tnot (q.2 z).1, fun w => nomatch w⟩⟩
    · cases h
  | .and a b, t, raw, sc, E, X, e, GH, G, R, h => by
    rw [chkE.eq_def] at h
    dsimp only at h
    split at h
    · rename_i p x y rest q
      simp only [Bool.and_eq_true, decide_eq_true_eq] at h
      obtain ⟨⟨rfl, ha⟩, hb⟩ := h
      have qa := sndE a t raw sc E X _ GH G (fun z y => R (by simp [hasT, hasTs, hasTO, hasTG, hasTGs, hasTI, z]) y) ha
      cases rest with
      | nil =>
        have qb := sndE b t raw sc E X _ GH G (fun z y => R (by simp [hasT, hasTs, hasTO, hasTG, hasTGs, hasTI, z]) y) hb
        exact ⟨fun z => s_and (qa.1 z) (s_bool1 (qb.1 z)), fun z => have w := s_tand (pos := q) (qa.2 z).1 (s_tand1 (op := .And) (qb.2 z).1); ⟨w.pt, fun _ => w⟩⟩
      | cons u rest =>
        have qb := sndE b t raw sc E X _ GH G (fun z y => R (by simp [hasT, hasTs, hasTO, hasTG, hasTGs, hasTI, z]) y) hb
        exact ⟨fun z => s_and (qa.1 z) (qb.1 z), fun z => have w := s_tand (pos := q) (qa.2 z).1 ((qb.2 z).2 rfl); ⟨w.pt, fun _ => w⟩⟩
    · cases h
  | .or a b, t, raw, sc, E, X, e, GH, G, R, h => by
    rw [chkE.eq_def] at h
    dsimp only at h
    split at h
    · rename_i p x y rest q
      simp only [Bool.and_eq_true, decide_eq_true_eq] at h
      obtain ⟨⟨rfl, ha⟩, hb⟩ := h
      have qa := sndE a t raw sc E X _ GH G (fun z y => R (by simp [hasT, hasTs, hasTO, hasTG, hasTGs, hasTI, z]) y) ha
      cases rest with
      | nil =>
        have qb := sndE b t raw sc E X _ GH G (fun z y => R (by simp [hasT, hasTs, hasTO, hasTG, hasTGs, hasTI, z]) y) hb
        exact ⟨fun z => s_or (qa.1 z) (s_bool1 (qb.1 z)), fun z => have w := s_tor (pos := q) (qa.2 z).1 (s_tand1 (op := .Or) (qb.2 z).1); ⟨w.pt, fun _ => w⟩⟩
      | cons u rest =>
        have qb := sndE b t raw sc E X _ GH G (fun z y => R (by simp [hasT, hasTs, hasTO, hasTG, hasTGs, hasTI, z]) y) hb
        exact ⟨fun z => s_or (qa.1 z) (qb.1 z), fun z => have w := s_tor (pos := q) (qa.2 z).1 ((qb.2 z).2 rfl); ⟨w.pt, fun _ => w⟩⟩
    · cases h
  | .cmp o a b, t, raw, sc, E, X, e, GH, G, R, h => by
    rw [chkE.eq_def] at h
    dsimp only at h
    split at h
    · simp only [Bool.and_eq_true, decide_eq_true_eq, Bool.not_eq_true'] at h
      obtain ⟨⟨⟨rfl, hm⟩, ha⟩, hb⟩ := h
      have qa := (sndE a false raw sc E X _ GH G (fun z y => R (by simp [hasT, hasTs, hasTO, hasTG, hasTGs, hasTI, z]) y) ha).1 rfl
      have qb := (sndE b false raw sc E X _ GH G (fun z y => R (by simp [hasT, hasTs, hasTO, hasTG, hasTGs, hasTI, z]) y) hb).1 rfl
      exact snd_pt (s_cmp GH.hu qa qb hm) (s_tcmp GH.hu qa qb hm) rfl
    · cases h
  | .cmp2 o p a b c, t, raw, sc, E, X, e, GH, G, R, h => by
    rw [chkE.eq_def] at h
    dsimp only at h
    split at h
    · simp only [Bool.and_eq_true, decide_eq_true_eq, Bool.not_eq_true'] at h
      obtain ⟨⟨⟨⟨⟨rfl, rfl⟩, hm⟩, ha⟩, hb⟩, hc⟩ := h
      have qa := (sndE a false raw sc E X _ GH G (fun z y => R (by simp [hasT, hasTs, hasTO, hasTG, hasTGs, hasTI, z]) y) ha).1 rfl
      have qb := (sndE b false raw sc E X _ GH G (fun z y => R (by simp [hasT, hasTs, hasTO, hasTG, hasTGs, hasTI, z]) y) hb).1 rfl
      have qc := (sndE c false raw sc E X _ GH G (fun z y => R (by simp [hasT, hasTs, hasTO, hasTG, hasTGs, hasTI, z]) y) hc).1 rfl
      exact snd_pt (s_cmp2 GH.hu qa qb qc hm) (s_tcmp2 GH.hu qa qb qc hm) rfl
    · cases h
  | .ite c a b, t, raw, sc, E, X, e, GH, G, R, h => by
    rw [chkE.eq_def] at h
    dsimp only at h
    rw [Bool.and_eq_true] at h
    obtain ⟨h1, h2⟩ := h
    have h1 : t = false := by simpa using h1
    subst h1
    refine ⟨fun _ => ?_, fun z => nomatch z⟩
    split at h2
    · simp only [Bool.and_eq_true] at h2
      obtain ⟨⟨hc, ha⟩, hb⟩ := h2
      exact s_ite ((sndE c true raw sc E X _ GH G (fun z y => R (by simp [hasT, hasTs, hasTO, hasTG, hasTGs, hasTI, z]) y) hc).2 rfl).1 ((sndE a false raw sc E X _ GH G (fun z y => R (by simp [hasT, hasTs, hasTO, hasTG, hasTGs, hasTI, z]) y) ha).1 rfl) ((sndE b false raw sc E X _ GH G (fun z y => R (by simp [hasT, hasTs, hasTO, hasTG, hasTGs, hasTI, z]) y) hb).1 rfl)
    · cases h2
  | .tup es, t, raw, sc, E, X, e, GH, G, R, h => by
    rw [chkE.eq_def] at h
    dsimp only at h
    rw [Bool.and_eq_true] at h
    obtain ⟨h1, h2⟩ := h
    refine snd_pe h1 ?_
    split at h2
    · exact s_tup (sndEs es raw sc E X _ GH G (fun z y => R (by simp [hasT, hasTs, hasTO, hasTG, hasTGs, hasTI, z]) y) h2)
    · cases h2
  | .lst lv es, t, raw, sc, E, X, e, GH, G, R, h => by
    rw [chkE.eq_def] at h
    dsimp only at h
    rw [Bool.and_eq_true] at h
    obtain ⟨h1, h2⟩ := h
    refine snd_pe h1 ?_
    split at h2
    · exact s_lst (sndEs es raw sc E X _ GH G (fun z y => R (by simp [hasT, hasTs, hasTO, hasTG, hasTGs, hasTI, z]) y) h2)
    · cases h2
  | .comp lv own tg it cond elt, t, raw, sc, E, X, e, GH, G, R, h => by
    rw [chkE.eq_def] at h
    dsimp only at h
    rw [Bool.and_eq_true] at h
    obtain ⟨h1, h2⟩ := h
    have hh := (hot_and h1).1
    replace h1 := (hot_and h1).2
    have G' := G hh
    refine snd_pe h1 ?_
    split at h2
    · rename_i elt' tg' it' ifs asy scope pos
      simp only [Bool.and_eq_true, decide_eq_true_eq] at h2
      obtain ⟨⟨⟨⟨⟨⟨⟨hnt, rfl⟩, hb⟩, hc⟩, hi⟩, hg⟩, ht⟩, he⟩ := h2
      simp only [Bool.not_eq_true', Bool.or_eq_false_iff] at hnt
      have hx := s_comp (Γ := Γ) (cf := cf) (L := L) (live := lv) (own := ownN N own) (pos := pos) G'.calm (by rw [GH.hN]; exact GH.nd) (sndI it raw sc E X _ _ GH G (fun z y => R (by simp [hasT, hasTs, hasTO, hasTG, hasTGs, hasTI, z]) y) hi) (by rw [GH.hN, GH.sc]; exact blkOk_by hb)
        (fun s H C cl fp => by rw [ownN_snd]; exact sndG tg (some own) scope (relS scope sc) E0 _ _ (G'.blk (scope := scope)).toGoodH (fun _ => G'.blk (scope := scope)) (fun z => absurd z (by simp [hnt])) hg)
        (fun s H C cl fp => sndC cond scope (relS scope sc) E0 _ _ (G'.blk (scope := scope)).toGoodH (fun _ => G'.blk (scope := scope)) (fun z => absurd z (by simp [hnt])) ht)
        (fun s H C cl fp => (sndE elt false scope (relS scope sc) E0 _ _ (G'.blk (scope := scope)).toGoodH (fun _ => G'.blk (scope := scope)) (fun z => absurd z (by simp [hnt])) he).1 rfl) (compOk_ok hc)
      rw [ownN_snd] at hx
      exact hx
    · cases h2
  | .ix a b, t, raw, sc, E, X, e, GH, G, R, h => by
    rw [chkE.eq_def] at h
    dsimp only at h
    rw [Bool.and_eq_true] at h
    obtain ⟨h1, h2⟩ := h
    refine snd_pe h1 ?_
    split at h2
    · simp only [Bool.and_eq_true] at h2
      obtain ⟨⟨hp, ha⟩, hb⟩ := h2
      exact s_ix ((sndE a false raw sc E X _ GH G (fun z y => R (by simp [hasT, hasTs, hasTO, hasTG, hasTGs, hasTI, z]) y) ha).1 rfl) ((sndE b false raw sc E X _ GH G (fun z y => R (by simp [hasT, hasTs, hasTO, hasTG, hasTGs, hasTI, z]) y) hb).1 rfl) (plainIx_ok hp)
    · cases h2
  | .slc a lo hi, t, raw, sc, E, X, e, GH, G, R, h => by
    rw [chkE.eq_def] at h
    dsimp only at h
    rw [Bool.and_eq_true] at h
    obtain ⟨h1, h2⟩ := h
    refine snd_pe h1 ?_
    split at h2
    · simp only [Bool.and_eq_true] at h2
      obtain ⟨⟨ha, hl⟩, hh⟩ := h2
      exact s_slc ((sndE a false raw sc E X _ GH G (fun z y => R (by simp [hasT, hasTs, hasTO, hasTG, hasTGs, hasTI, z]) y) ha).1 rfl) (sndO lo raw sc E X _ GH G (fun z y => R (by simp [hasT, hasTs, hasTO, hasTG, hasTGs, hasTI, z]) y) hl) (sndO hi raw sc E X _ GH G (fun z y => R (by simp [hasT, hasTs, hasTO, hasTG, hasTGs, hasTI, z]) y) hh)
    · cases h2
  | .rev a, t, raw, sc, E, X, e, GH, G, R, h => by
    rw [chkE.eq_def] at h
    dsimp only at h
    rw [Bool.and_eq_true] at h
    obtain ⟨h1, h2⟩ := h
    refine snd_pe h1 ?_
    split at h2
    · simp only [Bool.and_eq_true, decide_eq_true_eq] at h2
      obtain ⟨⟨rfl, hi⟩, ha⟩ := h2
      obtain rfl := eq_of_beq hi
      exact s_rev ((sndE a false raw sc E X _ GH G (fun z y => R (by simp [hasT, hasTs, hasTO, hasTG, hasTGs, hasTI, z]) y) ha).1 rfl)
    · cases h2
  | .isi a ts, t, raw, sc, E, X, e, GH, G, R, h => by
    rw [chkE.eq_def] at h
    dsimp only at h
    rw [Bool.and_eq_true] at h
    obtain ⟨h1, h2⟩ := h
    refine snd_pe h1 ?_
    split at h2
    · rename_i f p1 x y p2
      simp only [Bool.and_eq_true, decide_eq_true_eq] at h2
      obtain ⟨⟨⟨⟨rfl, hg⟩, hs⟩, ha⟩, hy⟩ := h2
      have qa := (sndE a false raw sc E X _ GH G (fun z y => R (by simp [hasT, hasTs, hasTO, hasTG, hasTGs, hasTI, z]) y) ha).1 rfl
      split at hy
      · simp only [Bool.and_eq_true, decide_eq_true_eq] at hy
        obtain ⟨⟨hn, hl⟩, ht⟩ := hy
        exact s_isi GH (glC_ok GH hg) (tyC_ok GH ht) hn hl hs qa
      · match ts, hy with
        | [], hy => cases hy
        | ty :: _ :: _, hy => simp [tyC] at hy
        | [ty], hy =>
          unfold tyC at hy
          rw [Bool.and_eq_true] at hy
          obtain ⟨hy, _⟩ := hy
          split at hy
          · simp only [Bool.and_eq_true, decide_eq_true_eq] at hy
            obtain ⟨⟨⟨rfl, ok⟩, hgt⟩, hn⟩ := hy
            exact s_isi1 GH (glC_ok GH hg) ok (glC_ok GH hgt) (plainN_1 hn) hs qa
          · cases hy
    · cases h2
  | .eqm m a b, t, raw, sc, E, X, e, GH, G, R, h => by
    rw [chkE.eq_def] at h
    dsimp only at h
    rw [Bool.and_eq_true] at h
    obtain ⟨hm, h⟩ := h
    have hh := (hot_and hm).1
    replace hm := (hot_and hm).2
    have G' := G hh
    rw [decide_eq_true_eq] at hm
    split at h
    · simp only [Bool.and_eq_true, decide_eq_true_eq] at h
      obtain ⟨⟨rfl, ha⟩, hb⟩ := h
      have qa := (sndE a false raw sc E X _ GH G (fun z y => R (by simp [hasT, hasTs, hasTO, hasTG, hasTGs, hasTI, z]) y) ha).1 rfl
      have qb := (sndE b false raw sc E X _ GH G (fun z y => R (by simp [hasT, hasTs, hasTO, hasTG, hasTGs, hasTI, z]) y) hb).1 rfl
      exact snd_pt (s_eqm G' hm qa qb) (s_teqm G' hm qa qb) rfl
    · cases h
  | .blt b es, t, raw, sc, E, X, e, GH, G, R, h => by
    rw [chkE.eq_def] at h
    dsimp only at h
    rw [Bool.and_eq_true] at h
    obtain ⟨h1, h2⟩ := h
    have hh := (hot_and h1).1
    replace h1 := (hot_and h1).2
    have G' := G hh
    refine snd_pe h1 ?_
    split at h2
    · simp only [Bool.and_eq_true, decide_eq_true_eq] at h2
      obtain ⟨⟨⟨rfl, hg⟩, hs⟩, ha⟩ := h2
      exact s_blt G' (glC_ok GH hg) hs (sndEs es raw sc E X _ GH G (fun z y => R (by simp [hasT, hasTs, hasTO, hasTG, hasTGs, hasTI, z]) y) ha)
    · cases h2
  | .call f es, t, raw, sc, E, X, e, GH, G, R, h => by
    rw [chkE.eq_def] at h
    dsimp only at h
    rw [Bool.and_eq_true] at h
    obtain ⟨h1, h2⟩ := h
    have hh := (hot_and h1).1
    replace h1 := (hot_and h1).2
    have G' := G hh
    refine snd_pe h1 ?_
    split at h2
    · rename_i x p xs pos
      simp only [Bool.and_eq_true, decide_eq_true_eq] at h2
      obtain ⟨⟨⟨⟨⟨rfl, hf⟩, hg⟩, hn⟩, hs⟩, ha⟩ := h2
      obtain ⟨m1, m2⟩ := GH.lk.gfn f hf
      cases xs with
      | nil =>
        cases es with
        | nil => exact s_call0 G' (glC_ok GH hg) m1 m2 (plainN_1 hn)
        | cons _ _ => rw [chkEs.eq_def] at ha; dsimp only at ha; cases ha
      | cons x xs => exact s_call G' (glC_ok GH hg) m1 m2 (plainN_1 hn) hs (sndEs es raw sc E X _ GH G (fun z y => R (by simp [hasT, hasTs, hasTO, hasTG, hasTGs, hasTI, z]) y) ha)
    · cases h2
  | .calv i es, t, raw, sc, E, X, e, GH, G, R, h => by
    rw [chkE.eq_def] at h
    dsimp only at h
    rw [Bool.and_eq_true] at h
    obtain ⟨h1, h2⟩ := h
    have hh := (hot_and h1).1
    replace h1 := (hot_and h1).2
    have G' := G hh
    refine snd_pe h1 ?_
    split at h2
    · simp only [Bool.and_eq_true, nmAt, decide_eq_true_eq] at h2
      obtain ⟨⟨⟨⟨hi, hv⟩, hn⟩, hs⟩, ha⟩ := h2
      exact s_calv G' (by rw [GH.hN]; exact hi) (by rw [GH.sc]; exact visC_ok hv) (plainN_1 hn) (plainN_2 hn) hs (sndEs es raw sc E X _ GH G (fun z y => R (by simp [hasT, hasTs, hasTO, hasTG, hasTGs, hasTI, z]) y) ha)
    · cases h2
  | .new c es, t, raw, sc, E, X, e, GH, G, R, h => by
    rw [chkE.eq_def] at h
    dsimp only at h
    rw [Bool.and_eq_true] at h
    obtain ⟨h1, h2⟩ := h
    have hh := (hot_and h1).1
    replace h1 := (hot_and h1).2
    have G' := G hh
    refine snd_pe h1 ?_
    split at h2
    · simp only [Bool.and_eq_true, decide_eq_true_eq] at h2
      obtain ⟨⟨⟨⟨⟨rfl, hg⟩, hn⟩, hc⟩, hs⟩, ha⟩ := h2
      split at hc
      · rename_i f z hz
        obtain ⟨F, hF⟩ := Option.isSome_iff_exists.mp hc
        exact s_new G' hz hF (glC_ok GH hg) (plainN_1 hn) hs (sndEs es raw sc E X _ GH G (fun z y => R (by simp [hasT, hasTs, hasTO, hasTG, hasTGs, hasTI, z]) y) ha)
      · cases hc
    · cases h2
  | .mth m o es, t, raw, sc, E, X, e, GH, G, R, h => by
    rw [chkE.eq_def] at h
    dsimp only at h
    rw [Bool.and_eq_true] at h
    obtain ⟨h1, h2⟩ := h
    have hh := (hot_and h1).1
    replace h1 := (hot_and h1).2
    have G' := G hh
    refine snd_pe h1 ?_
    split at h2
    · rename_i x nm apos ys pos
      simp only [Bool.and_eq_true, decide_eq_true_eq] at h2
      obtain ⟨⟨⟨⟨⟨⟨rfl, hp⟩, hl⟩, hs⟩, hz⟩, ho⟩, ha⟩ := h2
      refine s_mth G' (fun z => ?_) ((sndE o false raw sc E X _ GH G (fun z y => R (by simp [hasT, hasTs, hasTO, hasTG, hasTGs, hasTI, z]) y) ho).1 rfl) hs (sndEs es raw sc E X _ GH G (fun z y => R (by simp [hasT, hasTs, hasTO, hasTG, hasTGs, hasTI, z]) y) ha) (mth_ht hp hl hs hz)
      subst z
      cases es with
      | nil => rfl
      | cons _ _ => rw [chkEs.eq_def] at ha; dsimp only at ha; cases ha
    · cases h2
  | .bmt m o (.cons c .nil), t, raw, sc, E, X, e, GH, G, R, h => by
    rw [chkE.eq_def] at h
    dsimp only at h
    rw [Bool.and_eq_true] at h
    obtain ⟨h1, h2⟩ := h
    refine snd_pe h1 ?_
    split at h2
    · simp only [Bool.and_eq_true] at h2
      obtain ⟨⟨⟨⟨⟨hp, hl⟩, hs⟩, ho⟩, hc⟩, hm⟩ := h2
      have qo := (sndE o false raw sc E X _ GH G (fun z y => R (by simp [hasT, hasTs, hasTO, hasTG, hasTGs, hasTI, z]) y) ho).1 rfl
      have qc := (sndE c false raw sc E X _ GH G (fun z y => R (by simp [hasT, hasTs, hasTO, hasTG, hasTGs, hasTI, z]) y) hc).1 rfl
      cases m with
      | append => simp only [decide_eq_true_eq] at hm; subst hm; exact s_append hp hl hs qo qc
      | extend => simp only [decide_eq_true_eq] at hm; subst hm; exact s_extend hp hl hs qo qc
      | indexL => simp only [decide_eq_true_eq] at hm; subst hm; exact s_indexL GH.hu hp hl hs qo qc
      | indexT => simp only [decide_eq_true_eq] at hm; subst hm; exact s_indexT hp hl hs qo qc
      | countL => simp only [decide_eq_true_eq] at hm; subst hm; exact s_countL GH.hu hp hl hs qo qc
    · cases h2
  | .bmt m o .nil, t, raw, sc, E, X, e, GH, G, R, h => by
    rw [chkE.eq_def] at h
    dsimp only at h
    cases h
  | .bmt m o (.cons c (.cons _ _)), t, raw, sc, E, X, e, GH, G, R, h => by
    rw [chkE.eq_def] at h
    dsimp only at h
    cases h
  | .att o f, t, raw, sc, E, X, e, GH, G, R, h => by
    rw [chkE.eq_def] at h
    dsimp only at h
    rw [Bool.and_eq_true] at h
    obtain ⟨h1, h2⟩ := h
    refine snd_pe h1 ?_
    split at h2
    · simp only [Bool.and_eq_true, decide_eq_true_eq] at h2
      obtain ⟨⟨rfl, hp⟩, ha⟩ := h2
      exact s_att GH hp ((sndE o false raw sc E X _ GH G (fun z y => R (by simp [hasT, hasTs, hasTO, hasTG, hasTGs, hasTI, z]) y) ha).1 rfl)
    · cases h2
  | .isx a x, t, raw, sc, E, X, e, GH, G, R, h => by
    rw [chkE.eq_def] at h
    dsimp only at h
    rw [Bool.and_eq_true] at h
    obtain ⟨h1, h2⟩ := h
    refine snd_pe h1 ?_
    split at h2
    · simp only [Bool.and_eq_true, decide_eq_true_eq] at h2
      obtain ⟨⟨⟨⟨⟨⟨⟨rfl, hi⟩, hs⟩, rfl⟩, hg⟩, hn⟩, hx⟩, ha⟩ := h2
      exact s_isx GH (glC_ok GH hi) (fun c z => by subst z; exact hx) (glC_ok GH hg) (plainN_1 hn) hs ((sndE a false raw sc E X _ GH G (fun z y => R (by simp [hasT, hasTs, hasTO, hasTG, hasTGs, hasTI, z]) y) ha).1 rfl)
    · cases h2
  | .atx o f, t, raw, sc, E, X, e, GH, G, R, h => by
    rw [chkE.eq_def] at h
    dsimp only at h
    rw [Bool.and_eq_true] at h
    obtain ⟨h1, h2⟩ := h
    refine snd_pe h1 ?_
    split at h2
    · simp only [Bool.and_eq_true, decide_eq_true_eq] at h2
      obtain ⟨⟨rfl, hp⟩, ha⟩ := h2
      exact s_atx GH hp ((sndE o false raw sc E X _ GH G (fun z y => R (by simp [hasT, hasTs, hasTO, hasTG, hasTGs, hasTI, z]) y) ha).1 rfl)
    · cases h2
  | .told a, t, raw, sc, E, X, e, GH, G, R, h => by
    rw [chkE.eq_def] at h
    dsimp only at h
    rw [Bool.and_eq_true] at h
    obtain ⟨h1, h2⟩ := h
    have hh := (hot_and h1).1
    replace h1 := (hot_and h1).2
    have G' := G hh
    simp only [Bool.and_eq_true, Bool.not_eq_true'] at h1
    obtain ⟨⟨htl, ht⟩, hna⟩ := h1
    refine ⟨fun _ => ?_, fun z => by rw [ht] at z; cases z⟩
    split at h2
    · rename_i f p1 params body scope lpos pos
      simp only [Bool.and_eq_true, decide_eq_true_eq] at h2
      obtain ⟨⟨⟨rfl, hg⟩, hq⟩, hb⟩ := h2
      split at hq
      · rename_i bs hbs
        have LQ := lamQ_by hq
        have LQ2 : LamQ X.N X.env.scope scope bs := by rw [GH.hN, GH.sc]; exact LQ
        refine R rfl htl E a params bs body scope _ _ _ (G'.any) (glC_ok GH hg) hbs LQ2 fun A outer s H E2 f c' hgd hr => ?_
        have GL := G'.lam (E' := E2) (scope := scope) (st' := stC scope scope) (outer := outer) (H := H) hgd hr (fun x hx => by
          unfold stC at hx
          rcases Bool.or_eq_true_iff.mp hx with hx | hx
          · exact absurd rfl (LQ.own _ (PySem.mem_of_lookup (eq_of_beq hx))).1
          · exact eq_of_beq hx)
        exact (sndE a false scope scope E2 _ body GL.toGoodH (fun _ => GL) (fun z => absurd z (by simp [hna])) hb).1 rfl
      · cases hq
    · cases h2
  | .dis0, t, raw, sc, E, X, e, GH, G, R, h => by
    rw [chkE.eq_def] at h
    dsimp only at h
    rw [Bool.and_eq_true] at h
    obtain ⟨h1, h2⟩ := h
    have h1 : t = false := by simpa using h1
    subst h1
    refine ⟨fun _ => ?_, fun z => nomatch z⟩
    split at h2
    · exact s_dis0
    · cases h2
  | .dis1 k n, t, raw, sc, E, X, e, GH, G, R, h => by
    rw [chkE.eq_def] at h
    dsimp only at h
    rw [Bool.and_eq_true] at h
    obtain ⟨h1, h2⟩ := h
    have h1 : t = false := by simpa using h1
    subst h1
    refine ⟨fun _ => ?_, fun z => nomatch z⟩
    split at h2
    · simp only [Bool.and_eq_true, decide_eq_true_eq] at h2
      obtain ⟨rfl, hi⟩ := h2
      obtain rfl := eq_of_beq hi
      exact s_dis1
    · cases h2
  | .frz a, t, raw, sc, E, X, e, GH, G, R, h => by
    rw [chkE.eq_def] at h
    dsimp only at h
    rw [Bool.and_eq_true] at h
    exact snd_pe h.1 (s_frz ((sndE a false raw sc E X _ GH G (fun z y => R (by simp [hasT, hasTs, hasTO, hasTG, hasTGs, hasTI, z]) y) h.2).1 rfl))
  | .same a b, t, raw, sc, E, X, e, GH, G, R, h => by
    rw [chkE.eq_def] at h
    dsimp only at h
    have hh := (hot_and h).1
    replace h := (hot_and h).2
    have G' := G hh
    rw [Bool.and_eq_true] at h
    obtain ⟨h1, h2⟩ := h
    have h1 : t = false := by simpa using h1
    subst h1
    refine ⟨fun _ => ?_, fun z => nomatch z⟩
    split at h2
    · simp only [Bool.and_eq_true, decide_eq_true_eq] at h2
      obtain ⟨⟨⟨⟨⟨⟨⟨rfl, rfl⟩, hg⟩, rfl⟩, hsx⟩, hsy⟩, ha⟩, hb⟩ := h2
      exact s_same G' (glC_ok GH hg) hsx hsy ((sndE a false raw sc E X _ GH G (fun z y => R (by simp [hasT, hasTs, hasTO, hasTG, hasTGs, hasTI, z]) y) ha).1 rfl) ((sndE b false raw sc E X _ GH G (fun z y => R (by simp [hasT, hasTs, hasTO, hasTG, hasTGs, hasTI, z]) y) hb).1 rfl)
    · cases h2
  | .lsto a, t, raw, sc, E, X, e, GH, G, R, h => by
    rw [chkE.eq_def] at h
    dsimp only at h
    rw [Bool.and_eq_true] at h
    obtain ⟨h1, h2⟩ := h
    have hh := (hot_and h1).1
    replace h1 := (hot_and h1).2
    have G' := G hh
    refine snd_pe h1 ?_
    split at h2
    · simp only [Bool.and_eq_true, decide_eq_true_eq] at h2
      obtain ⟨⟨⟨rfl, hg⟩, hs⟩, ha⟩ := h2
      exact s_lsto G' (glC_ok GH hg) hs ((sndE a false raw sc E X _ GH G (fun z y => R (by simp [hasT, hasTs, hasTO, hasTG, hasTGs, hasTI, z]) y) ha).1 rfl)
    · cases h2
theorem sndEs : ∀ (cs : CEs) (raw sc : Scope) (E : XK) (X : Cx) (es : List Expr), GoodH Γ L N sc (stC raw sc) X → (hot = false → Good Γ L cf k E N sc (stC raw sc) X) → (hasTs cs = true → tl = true → ToldRule Γ cf L k X) → chkEs Γ L.T N hot tl cs raw sc es = true → PA X es (tAs Γ cf X.K L E cs)
  | .nil, raw, sc, E, X, es, GH, G, R, h => by
    cases es with
    | nil => exact s_nil
    | cons _ _ => rw [chkEs.eq_def] at h; dsimp only at h; cases h
  | .cons c cs, raw, sc, E, X, es, GH, G, R, h => by
    cases es with
    | nil => rw [chkEs.eq_def] at h; dsimp only at h; cases h
    | cons e es =>
      rw [chkEs.eq_def] at h
      dsimp only at h
      simp only [Bool.and_eq_true] at h
      obtain ⟨⟨hs, h1⟩, h2⟩ := h
      exact s_cons ((sndE c false raw sc E X _ GH G (fun z y => R (by simp [hasT, hasTs, hasTO, hasTG, hasTGs, hasTI, z]) y) h1).1 rfl) (sndEs cs raw sc E X _ GH G (fun z y => R (by simp [hasT, hasTs, hasTO, hasTG, hasTGs, hasTI, z]) y) h2) (star_cons hs)
theorem sndO : ∀ (c : CO) (raw sc : Scope) (E : XK) (X : Cx) (e : Option Expr), GoodH Γ L N sc (stC raw sc) X → (hot = false → Good Γ L cf k E N sc (stC raw sc) X) → (hasTO c = true → tl = true → ToldRule Γ cf L k X) → chkO Γ L.T N hot tl c raw sc e = true → PO X e (tPO Γ cf X.K L E c)
  | .no, raw, sc, E, X, e, GH, G, R, h => by
    cases e with
    | none => exact s_pno
    | some _ => rw [chkO.eq_def] at h; dsimp only at h; cases h
  | .yes c, raw, sc, E, X, e, GH, G, R, h => by
    cases e with
    | none => rw [chkO.eq_def] at h; dsimp only at h; cases h
    | some e => rw [chkO.eq_def] at h; dsimp only at h; exact s_pyes ((sndE c false raw sc E X _ GH G (fun z y => R (by simp [hasT, hasTs, hasTO, hasTG, hasTGs, hasTI, z]) y) h).1 rfl)
theorem sndC : ∀ (c : CO) (raw sc : Scope) (E : XK) (X : Cx) (es : List Expr), GoodH Γ L N sc (stC raw sc) X → (hot = false → Good Γ L cf k E N sc (stC raw sc) X) → (hasTO c = true → tl = true → ToldRule Γ cf L k X) → chkC Γ L.T N hot tl c raw sc es = true → PTs X es (tTs Γ cf X.K L E c)
  | .no, raw, sc, E, X, es, GH, G, R, h => by
    cases es with
    | nil => exact s_tno
    | cons _ _ => rw [chkC.eq_def] at h; dsimp only at h; cases h
  | .yes c, raw, sc, E, X, es, GH, G, R, h => by
    rw [chkC.eq_def] at h
    dsimp only at h
    split at h
    · exact s_tyes ((sndE c true raw sc E X _ GH G (fun z y => R (by simp [hasT, hasTs, hasTO, hasTG, hasTGs, hasTI, z]) y) h).2 rfl).1
    · cases h
theorem sndG : ∀ (c : CT) (w : Option (List Nat)) (raw sc : Scope) (E : XK) (X : Cx) (e : Expr), GoodH Γ L N sc (stC raw sc) X → (hot = false → Good Γ L cf k E N sc (stC raw sc) X) → (hasTG c = true → tl = true → ToldRule Γ cf L k X) → chkG Γ L.T N hot tl c w raw sc e = true → PG X e (tG Γ cf X.K L E w c)
  | .name i, w, raw, sc, E, X, e, GH, G, R, h => by
    rw [chkG.eq_def] at h
    dsimp only at h
    split at h
    · simp only [Bool.and_eq_true, nmAt, decide_eq_true_eq] at h
      obtain ⟨⟨⟨hi, hl⟩, hs⟩, hw⟩ := h
      exact s_gname (by rw [GH.hN]; exact GH.nd) (by rw [GH.hN]; exact hi) (by rw [GH.sc]; exact locC_ok hl) (GH.sto _ hs) hw
    · cases h
  | .tup ts, w, raw, sc, E, X, e, GH, G, R, h => by
    rw [chkG.eq_def] at h
    dsimp only at h
    split at h
    · simp only [Bool.and_eq_true, decide_eq_true_eq] at h
      obtain ⟨⟨⟨hh, hs⟩, hl⟩, hg⟩ := h
      have G' := G (by simpa using hh)
      exact s_gtup G'.calm (sndGs ts w raw sc E X _ GH G (fun z y => R (by simp [hasT, hasTs, hasTO, hasTG, hasTGs, hasTI, z]) y) hg) hs hl
    · cases h
  | .sub o i, w, raw, sc, E, X, e, GH, G, R, h => by
    rw [chkG.eq_def] at h
    dsimp only at h
    split at h
    · simp only [Bool.and_eq_true] at h
      obtain ⟨⟨hs, ho⟩, hi⟩ := h
      exact s_gsub ((sndE o false raw sc E X _ GH G (fun z y => R (by simp [hasT, hasTs, hasTO, hasTG, hasTGs, hasTI, z]) y) ho).1 rfl) ((sndE i false raw sc E X _ GH G (fun z y => R (by simp [hasT, hasTs, hasTO, hasTG, hasTGs, hasTI, z]) y) hi).1 rfl) hs
    · cases h
  | .att o f, w, raw, sc, E, X, e, GH, G, R, h => by
    rw [chkG.eq_def] at h
    dsimp only at h
    split at h
    · simp only [Bool.and_eq_true, decide_eq_true_eq] at h
      obtain ⟨⟨hh, rfl⟩, ho⟩ := h
      have G' := G (by simpa using hh)
      exact s_gatt G' ((sndE o false raw sc E X _ GH G (fun z y => R (by simp [hasT, hasTs, hasTO, hasTG, hasTGs, hasTI, z]) y) ho).1 rfl)
    · cases h
theorem sndGs : ∀ (cs : CTs) (w : Option (List Nat)) (raw sc : Scope) (E : XK) (X : Cx) (es : List Expr), GoodH Γ L N sc (stC raw sc) X → (hot = false → Good Γ L cf k E N sc (stC raw sc) X) → (hasTGs cs = true → tl = true → ToldRule Γ cf L k X) → chkGs Γ L.T N hot tl cs w raw sc es = true → PGs X es (tGs Γ cf X.K L E w cs)
  | .nil, w, raw, sc, E, X, es, GH, G, R, h => by
    cases es with
    | nil => exact s_gnil
    | cons _ _ => rw [chkGs.eq_def] at h; dsimp only at h; cases h
  | .cons c cs, w, raw, sc, E, X, es, GH, G, R, h => by
    cases es with
    | nil => rw [chkGs.eq_def] at h; dsimp only at h; cases h
    | cons e es =>
      rw [chkGs.eq_def] at h
      dsimp only at h
      simp only [Bool.and_eq_true] at h
      obtain ⟨⟨hs, h1⟩, h2⟩ := h
      exact s_gcons (sndG c w raw sc E X _ GH G (fun z y => R (by simp [hasT, hasTs, hasTO, hasTG, hasTGs, hasTI, z]) y) h1) (sndGs cs w raw sc E X _ GH G (fun z y => R (by simp [hasT, hasTs, hasTO, hasTG, hasTGs, hasTI, z]) y) h2) hs
theorem sndI : ∀ (c : CI) (raw sc : Scope) (E : XK) (X : Cx) (tg e : Expr), GoodH Γ L N sc (stC raw sc) X → (hot = false → Good Γ L cf k E N sc (stC raw sc) X) → (hasTI c = true → tl = true → ToldRule Γ cf L k X) → chkI Γ L.T N hot tl c raw sc tg e = true → PI X tg e (tIt Γ cf X.K L E c)
  | .seq a, raw, sc, E, X, tg, e, GH, G, R, h => by
    rw [chkI.eq_def] at h
    dsimp only at h
    exact s_seq ((sndE a false raw sc E X _ GH G (fun z y => R (by simp [hasT, hasTs, hasTO, hasTG, hasTGs, hasTI, z]) y) h).1 rfl)
  | .rng1 a, raw, sc, E, X, tg, e, GH, G, R, h => by
    rw [chkI.eq_def] at h
    dsimp only at h
    have hh := (hot_and h).1
    replace h := (hot_and h).2
    have G' := G hh
    split at h
    · simp only [Bool.and_eq_true, decide_eq_true_eq] at h
      obtain ⟨⟨⟨rfl, hg⟩, hs⟩, ha⟩ := h
      exact s_rng1 G' (glC_ok GH hg) hs ((sndE a false raw sc E X _ GH G (fun z y => R (by simp [hasT, hasTs, hasTO, hasTG, hasTGs, hasTI, z]) y) ha).1 rfl)
    · cases h
  | .rng2 a b, raw, sc, E, X, tg, e, GH, G, R, h => by
    rw [chkI.eq_def] at h
    dsimp only at h
    have hh := (hot_and h).1
    replace h := (hot_and h).2
    have G' := G hh
    split at h
    · simp only [Bool.and_eq_true, decide_eq_true_eq] at h
      obtain ⟨⟨⟨⟨⟨rfl, hg⟩, hs⟩, hs2⟩, ha⟩, hb⟩ := h
      exact s_rng2 G' (glC_ok GH hg) hs hs2 ((sndE a false raw sc E X _ GH G (fun z y => R (by simp [hasT, hasTs, hasTO, hasTG, hasTGs, hasTI, z]) y) ha).1 rfl) ((sndE b false raw sc E X _ GH G (fun z y => R (by simp [hasT, hasTs, hasTO, hasTG, hasTGs, hasTI, z]) y) hb).1 rfl)
    · cases h
  | .enu a, raw, sc, E, X, tg, e, GH, G, R, h => by
    rw [chkI.eq_def] at h
    dsimp only at h
    have hh := (hot_and h).1
    replace h := (hot_and h).2
    have G' := G hh
    split at h
    · simp only [Bool.and_eq_true, decide_eq_true_eq] at h
      obtain ⟨⟨⟨rfl, hg⟩, hs⟩, ha⟩ := h
      exact s_enu G' (glC_ok GH hg) hs ((sndE a false raw sc E X _ GH G (fun z y => R (by simp [hasT, hasTs, hasTO, hasTG, hasTGs, hasTI, z]) y) ha).1 rfl)
    · cases h
  | .zip a b, raw, sc, E, X, tg, e, GH, G, R, h => by
    rw [chkI.eq_def] at h
    dsimp only at h
    have hh := (hot_and h).1
    replace h := (hot_and h).2
    have G' := G hh
    split at h
    · simp only [Bool.and_eq_true, decide_eq_true_eq] at h
      obtain ⟨⟨⟨⟨⟨rfl, hg⟩, hs⟩, hs2⟩, ha⟩, hb⟩ := h
      exact s_zip G' (glC_ok GH hg) hs hs2 ((sndE a false raw sc E X _ GH G (fun z y => R (by simp [hasT, hasTs, hasTO, hasTG, hasTGs, hasTI, z]) y) ha).1 rfl) ((sndE b false raw sc E X _ GH G (fun z y => R (by simp [hasT, hasTs, hasTO, hasTG, hasTGs, hasTI, z]) y) hb).1 rfl)
    · cases h
end
end
end GW

set_option Elab.async false
set_option linter.all false
set_option autoImplicit false
set_option maxRecDepth 100000
set_option maxHeartbeats 8000000
/-! What the checker passes runs as the core says: statements. -/
namespace GW
open PySem PySem.Spec PyProof.Rows L2 RZ
/-! ### the order of stores -/
def namesOf (sc : Scope) (ts : List Expr) : List Str :=
  ts.filterMap fun
    | .Name id pos => if sc.names.lookup id == some .local && pos.line == (ts.head?.map (·.pos.line)).getD 0 then some id else none
    | _ => none
def isStar (e : Expr) : Bool := match e with | .Starred .. => true | _ => false
/-- no stores are swapped -/
def swN1 (sc : Scope) (ts vs : List Expr) : Bool :=
  (!(ts.length == 2 || ts.length == 3) || vs.length != ts.length) || vs.any isStar || ((namesOf sc ts).length != ts.length || (namesOf sc ts).eraseDups.length != (namesOf sc ts).length) || vs.all (foldedForSure 8)
def swNo (sc : Scope) (tg v : Expr) : Bool := match tg, v with
  | .Tuple ts _ _, .Tuple vs _ _ => swN1 sc ts vs
  | .List _ _, .Tuple _ _ _ => false
  | _, _ => true
theorem bk_fun {env : PySem.Env} (h : env.scope.kind = .function) : env.blockKind = .function := by
  unfold Env.blockKind
  rw [h]
  rfl
theorem sw_form {ts vs : List Expr} {env : PySem.Env} {k k2 : Nat} {p p2 : Pos} (hb : env.blockKind = .function) : swappedStores [.Tuple ts k p] (.Tuple vs k2 p2) env =
    if (!(ts.length == 2 || ts.length == 3) || vs.length != ts.length) = true then pure none else if vs.any isStar = true then pure none
    else if ((namesOf env.scope ts).length != ts.length || (namesOf env.scope ts).eraseDups.length != (namesOf env.scope ts).length) = true then pure none
    else if vs.all (foldedForSure 8) = true then pure none else if vs.all (constantsAlone 8) = true then (do unsupported "assign.tuple-of-constant-expressions:order-of-the-stores"; pure (some (namesOf env.scope ts))) else pure (some (namesOf env.scope ts)) := by
  have e : (!(ts.length == 2 || ts.length == 3) || vs.length != ts.length || env.blockKind != ScopeKind.function) = (!(ts.length == 2 || ts.length == 3) || vs.length != ts.length) := by
    rw [hb]
    simp
  unfold swappedStores
  dsimp only
  rw [e]
  rfl
theorem swNo_ok {sc : Scope} {tg v : Expr} {env : PySem.Env} (hs : env.scope = sc) (hk : sc.kind = .function) (h : swNo sc tg v = true) : swappedStores [tg] v env = pure none := by
  subst hs
  unfold swNo at h
  split at h
  · rename_i ts k p vs k2 p2
    rw [sw_form (bk_fun hk)]
    unfold swN1 at h
    simp only [Bool.or_eq_true] at h
    split
    · rfl
    · rename_i c1
      split
      · rfl
      · rename_i c2
        split
        · rfl
        · rename_i c3
          split
          · rfl
          · rename_i c4
            simp only [Bool.or_eq_true] at c1 c3
            rcases h with ((h | h) | h) | h
            · exact absurd h c1
            · exact absurd h c2
            · exact absurd h c3
            · exact absurd h c4
  · cases h
  · rename_i h1 h2
    cases tg <;> cases v <;> first | rfl | exact (h1 _ _ _ _ _ _ rfl rfl).elim | exact (h2 _ _ _ _ _ rfl rfl).elim
/-- the stores are swapped -/
def swYes (sc : Scope) (ts vs : List Expr) (ns : List Str) : Bool :=
  (ts.length == 2 || ts.length == 3) && vs.length == ts.length && !(vs.any isStar) && decide (namesOf sc ts = ns) && ns.length == ts.length && ns.eraseDups.length == ns.length && !(vs.all (foldedForSure 8)) && !(vs.all (constantsAlone 8))
theorem swYes_ok {sc : Scope} {ts vs : List Expr} {k k2 : Nat} {p p2 : Pos} {ns : List Str} {env : PySem.Env} (hs : env.scope = sc) (hk : sc.kind = .function) (h : swYes sc ts vs ns = true) : swappedStores [.Tuple ts k p] (.Tuple vs k2 p2) env = pure (some ns) := by
  subst hs
  rw [sw_form (bk_fun hk)]
  unfold swYes at h
  simp only [Bool.and_eq_true, Bool.or_eq_true, Bool.not_eq_true', decide_eq_true_eq, beq_iff_eq] at h
  obtain ⟨⟨⟨⟨⟨⟨⟨h1, h2⟩, h3⟩, rfl⟩, h5⟩, h6⟩, h7⟩, h8⟩ := h
  rw [if_neg (by rcases h1 with h1 | h1 <;> simp [h1, h2]), if_neg (by rw [h3]; exact Bool.false_ne_true), if_neg (by simp [h5, h6]), if_neg (by rw [h7]; exact Bool.false_ne_true), if_neg (by rw [h8]; exact Bool.false_ne_true)]
/-- a comprehension's value goes to its name at once -/
def swT (sc : Scope) (tg v : Expr) : Bool := match tg, v with
  | .Name y py, .ListComp _ _ scope pos => (py.line == pos.line) && (sc.names.lookup y == some .local) && !(scope.names.any fun (n, k) => n == y && (k == .local || k == .cell))
  | _, _ => false
/-- swapsWith, wholly -/
def swF (sc : Scope) (tg v : Expr) : Bool := match v with
  | .ListComp _ _ scope pos => match tg with
    | .Name y py => !((sc.names.lookup y == some .local) && (py.line == pos.line) && !(scope.names.any fun (n, k) => n == y && (k == .local || k == .cell)))
    | _ => true
  | .SetComp .. => false | .DictComp .. => false
  | _ => true
theorem swF_ok {sc : Scope} {tg v : Expr} {l : Nat} {env : PySem.Env} (hs : env.scope = sc) (hk : sc.kind = .function) (h : swF sc tg v = true) : swapsWith v (some tg) l env = pure false := by
  subst hs
  unfold swF at h
  split at h
  · rename_i elt gs scope pos
    have hb : env.blockKind = .function := bk_fun hk
    split at h
    · rename_i y py
      unfold swapsWith
      dsimp only
      rw [hb]
      have e : env.kindOf y = env.scope.names.lookup y := rfl
      rw [e]
      simp only [Bool.not_eq_true'] at h
      show pure (((ScopeKind.function == ScopeKind.function) && (env.scope.names.lookup y == some .local) && (py.line == pos.line)) && !(scope.names.any fun (n, k) => n == y && (k == .local || k == .cell))) = _
      rw [show (ScopeKind.function == ScopeKind.function) = true from rfl, Bool.true_and, h]
    · rename_i hne
      cases tg <;> first | rfl | exact (hne _ _ rfl).elim
  · cases h
  · cases h
  · rename_i h1 h2 h3
    cases v <;> first | rfl | exact (h1 _ _ _ _ rfl).elim | exact (h2 _ _ _ _ rfl).elim | exact (h3 _ _ _ _ _ rfl).elim
theorem swT_ok {sc : Scope} {y : Str} {py pos : Pos} {elt : Expr} {gs : List Comprehension} {scope : Scope} {l : Nat} {env : PySem.Env} (hs : env.scope = sc) (hk : sc.kind = .function) (h : swT sc (.Name y py) (.ListComp elt gs scope pos) = true) :
    swapsWith (.ListComp elt gs scope pos) (some (.Name y py)) l env = pure true ∧ sc.names.lookup y = some .local := by
  subst hs
  simp only [swT, Bool.and_eq_true, Bool.not_eq_true'] at h
  obtain ⟨⟨h1, h2⟩, h3⟩ := h
  have h2 := eq_of_beq h2
  exact ⟨sw_true hk h2 h1 h3, h2⟩
section
variable (Γ : Prog) (T : Tbl) (N : List Str) (hot tl : Bool)
/-- a store to names, swapped -/
def chkPar (t : CT) (v : CE) (sc : Scope) (tg e : Expr) : Bool := match t, v, tg, e with
  | .tup (.cons (.name i) (.cons (.name j) .nil)), .tup cs, .Tuple [.Name x px, .Name y py] _ _, .Tuple [a, b] _ _ =>
    nmAt N i x && nmAt N j y && decide (i ≠ j) && decide (sc.names.lookup x = some .local) && decide (sc.names.lookup y = some .local) && swYes sc [.Name x px, .Name y py] [a, b] [x, y] && chkEs Γ T N hot tl cs sc sc [a, b]
  | .tup (.cons (.name i) (.cons (.name j) (.cons (.name l) .nil))), .tup cs, .Tuple [.Name x px, .Name y py, .Name z pz] _ _, .Tuple [a, b, c] _ _ =>
    nmAt N i x && nmAt N j y && nmAt N l z && decide (i ≠ j) && decide (i ≠ l) && decide (j ≠ l) && decide (sc.names.lookup x = some .local) && decide (sc.names.lookup y = some .local) && decide (sc.names.lookup z = some .local) &&
      swYes sc [.Name x px, .Name y py, .Name z pz] [a, b, c] [x, y, z] && chkEs Γ T N hot tl cs sc sc [a, b, c]
  | _, _, _, _ => false
def chkLc (t : CT) (v : CE) (sc : Scope) (tg e : Expr) : Bool := match t, v, tg, e with
  | .name i, .comp _ own ct ci cond elt, .Name y py, .ListComp elt' [⟨tg', it', ifs, asy⟩] scope pos =>
    swT sc (.Name y py) (.ListComp elt' [⟨tg', it', ifs, asy⟩] scope pos) && nmAt N i y && !(hasTG ct || hasTO cond || hasT elt) && decide (asy = 0) && blkC N sc scope (ownN N own) && compOk it' && chkI Γ T N hot tl ci sc sc tg' it' && chkG Γ T N hot tl ct (some own) scope (relS scope sc) tg' && chkC Γ T N hot tl cond scope (relS scope sc) ifs && chkE Γ T N hot tl elt false scope (relS scope sc) elt'
  | _, _, _, _ => false
def chkFld (t : CT) (v : CE) (sc : Scope) (tg e : Expr) : Bool := match t, tg with
  | .att o f, .Attribute x nm _ => decide (nm = T.nm f) && swN e && chkE Γ T N hot tl o false sc sc x && chkE Γ T N hot tl v false sc sc e
  | _, _ => false
/-- a raise -/
def chkRais (c : Nat) (es : CEs) (sc : Scope) (e : Expr) : Bool := match e with
  | .Call (.Name x _) ys [] _ => decide (x = T.cl c) && Γ.xcl c && glC sc x && plainN x && decide ((T.xf c).length = ys.length) && ys.all noStar && chkEs Γ T N hot tl es sc sc ys
  | _ => false
mutual
def chkS : CS → Scope → Stmt → Bool
  | .asg t v, sc, s => match s with
    | .Assign [tg] e _ => (noStar tg && swF sc tg e && swNo sc tg e && chkE Γ T N hot tl v false sc sc e && chkG Γ T N hot tl t none sc sc tg) || (!hot && chkPar Γ T N hot tl t v sc tg e) || (!hot && chkLc Γ T N hot tl t v sc tg e) || (!hot && chkFld Γ T N hot tl t v sc tg e)
    | _ => false
  | .aug i o v, sc, s => match s with
    | .AugAssign (.Name x _) p e _ => decide (p = opA o) && (decide (o = .add) || decide (o = .sub)) && nmAt N i x && locC sc x && stC sc sc x && chkE Γ T N hot tl v false sc sc e
    | _ => false
  | .augs _ _ _ _, _, _ => false
  | .exp v, sc, s => match s with
    | .Expr e _ => swN e && chkE Γ T N hot tl v false sc sc e
    | _ => false
  | .ret v, sc, s => match s with
    | .Return (some e) _ => chkE Γ T N hot tl v false sc sc e
    | _ => false
  | .ife c a b, sc, s => match s with
    | .If x y z _ => chkE Γ T N hot tl c true sc sc x && chkSs a sc y && chkSs b sc z
    | _ => false
  | .loop t it b, sc, s => match s with
    | .For tg e body els _ => !hot && (match els with | [] => true | _ :: _ => false) && compOk e && chkI Γ T N hot tl it sc sc tg e && chkG Γ T N hot tl t none sc sc tg && chkSs b sc body
    | _ => false
  | .whil c b, sc, s => match s with
    | .While x body els _ => (match els with | [] => true | _ :: _ => false) && chkE Γ T N hot tl c true sc sc x && chkSs b sc body
    | _ => false
  | .brk, _, s => match s with | .Break _ => true | _ => false
  | .pas, _, s => match s with | .Pass _ => true | .Expr (.Constant (.str _) _ _) _ => true | _ => false
  | .rais c es, sc, s => match s with
    | .Raise (some e) none _ => !hot && chkRais Γ T N hot tl c es sc e
    | _ => false
  | .frzv _, _, _ => false
  | .never, _, _ => true
def chkSs : CSs → Scope → List Stmt → Bool
  | .nil, _, ss => match ss with | [] => true | _ :: _ => false
  | .cons c cs, sc, ss => (match c with | .frzv i => decide (i < N.length) && chkSs cs sc ss | _ => (match ss with | s :: ss => chkS c sc s && chkSs cs sc ss | [] => false))
end
end
section
variable {Γ : Prog} {L : Link} {cf : Calls} {k : Nat} {N : List Str} {hot tl : Bool} {X : Cx} {E : XK} {sc : Scope} {ss : List Stmt} {pos : Pos} {es : List Expr} {cs : CEs}
/-- what may change becomes what does not: nothing runs -/
theorem s_frzv {i : Nat} {xs : CSs} (h : PSs X ss (tSs Γ cf X.K L E xs)) : PSs X ss (tSs Γ cf X.K L E (.cons (.frzv i) xs)) := by
  refine h.imp fun D σ H h => ?_
  obtain ⟨S, M, ρ, sr, er, h⟩ := h
  rw [exSs, exS] at h
  replace h := h.bind
  split at h
  · rename_i x hx
    obtain ⟨v, hv, rv⟩ := er.get i x hx
    cases x with
    | ref n =>
      have h := h.bind
      simp only [frzD] at h
      split at h
      · rename_i xs1 hm
        rw [Rep] at rv
        obtain ⟨p, hp, rfl⟩ := rv
        obtain ⟨ws, e, r⟩ := sr.rp n _ p hm hp
        obtain ⟨sr2, st2⟩ := sr.freeze hm hp rfl e
        have h2 := h _ _ st2 sr2
        have h3 := Fin.now sr2 h2
        refine ⟨_, _, _, sr2, ?_, h3⟩
        have := (er.mono st2.le).set (i := i) (v := .ref p) (rep_lst (xs := xs1) (vs := ws) st2.le upd_same r)
        have e2 : σ.set i (some (.ref p)) = σ := by
          apply List.ext_getElem?
          intro j
          by_cases z : i = j
          · subst z
            rw [List.getElem?_set_self (List.getElem?_eq_some_iff.mp hv).1, hv]
          · rw [List.getElem?_set_ne z]
        rw [e2] at this
        exact this
      · exact (show False from h).elim
    | _ => 
      have h3 := Fin.now sr h
      refine ⟨S, M, _, sr, ?_, h3⟩
      have := er.set (i := i) rv
      have e2 : σ.set i (some v) = σ := by
        apply List.ext_getElem?
        intro j
        by_cases z : i = j
        · subst z
          rw [List.getElem?_set_self (List.getElem?_eq_some_iff.mp hv).1, hv]
        · rw [List.getElem?_set_ne z]
      rw [e2] at this
      exact this
  · exact (show False from h).elim
theorem Fin.with {K : PySem.W.Frag} {L : Link} {α : Type} {S : RS} {H : Hp} {E : XK} {r : Out α} {Q : α → Mem → RS → Hp → Prop} (h : Fin K L S H E r Q) : Fin K L S H E r (fun a M' S' H' => Q a M' S' H' ∧ r = .ok a M') := by
  cases r with
  | ok a M' => exact fun S' H' st sr => ⟨h S' H' st sr, rfl⟩
  | exc c as M' => exact h
  | err => exact h
def lenEs : CEs → Nat
  | .nil => 0
  | .cons _ cs => lenEs cs + 1
theorem evEs_len : ∀ {cs : CEs} {ρ : Env} {M M' : Mem} {xs : List D}, evEs Γ cf cs ρ M = .ok xs M' → xs.length = lenEs cs
  | .nil, ρ, M, M', xs, h => by
    rw [evEs] at h
    cases h
    rfl
  | .cons c cs, ρ, M, M', xs, h => by
    rw [evEs] at h
    cases e1 : evE Γ cf c ρ M with
    | err => rw [e1] at h; cases h
    | exc _ _ _ => rw [e1] at h; cases h
    | ok x M1 =>
      rw [e1] at h
      dsimp only [Out.bind] at h
      cases e2 : evEs Γ cf cs ρ M1 with
      | err => rw [e2] at h; cases h
      | exc _ _ _ => rw [e2] at h; cases h
      | ok ys M2 =>
        rw [e2] at h
        cases h
        rw [List.length_cons, lenEs, evEs_len e2]
theorem chkEs_len : ∀ {cs : CEs} {raw sc : Scope} {es : List Expr}, chkEs Γ L.T N hot tl cs raw sc es = true → lenEs cs = es.length
  | .nil, raw, sc, es, h => by
    rw [chkEs.eq_def] at h
    dsimp only at h
    cases es with
    | nil => rfl
    | cons _ _ => cases h
  | .cons c cs, raw, sc, es, h => by
    rw [chkEs.eq_def] at h
    dsimp only at h
    cases es with
    | nil => cases h
    | cons e es =>
      simp only [Bool.and_eq_true] at h
      rw [lenEs, List.length_cons, chkEs_len h.2]
theorem s_rais (G : Good Γ L cf k E N sc (stC sc sc) X) (R : tl = true → ToldRule Γ cf L k X) {c : Nat} {e : Expr} (hc : chkRais Γ L.T N hot tl c cs sc e = true) : PS X (.Raise (some e) none pos) (tS Γ cf X.K L E (.rais c cs)) := by
  unfold chkRais at hc
  split at hc
  · rename_i x p ys q
    simp only [Bool.and_eq_true, decide_eq_true_eq] at hc
    obtain ⟨⟨⟨⟨⟨⟨rfl, hx⟩, hg⟩, hn⟩, hl⟩, hs⟩, ha⟩ := hc
    obtain ⟨fI, IK, hm⟩ := G.exc c hx
    have pa := sndEs cs sc sc E X ys G.toGoodH (fun _ => G) (fun _ y => R y) ha
    refine (ps_raise G.calm G.tk (pmk_exc IK G.room (G.lk.blt _ (by decide +kernel)) (glC_ok G.toGoodH hg) hm (plainN_1 hn) hs pa (fun z σ H Q h => ?_))).imp fun D σ H h => ?_
    · subst z
      obtain ⟨S, M, ρ, sr, er, h⟩ := h
      cases cs with
      | nil =>
        rw [evEs] at h
        exact Fin.now sr h [] .nil
      | cons _ _ => rw [chkEs.eq_def] at ha; cases ha
    · obtain ⟨S, M, ρ, sr, er, h⟩ := h
      rw [exS] at h
      refine ⟨S, M, ρ, sr, er, h.bind.with.imp fun xs M1 S1 H1 st1 sr1 ⟨h1, hev⟩ vs rvs => ?_⟩
      have hE : ∀ S' H' dd, Step S1 H1 S' H' → SR X.K L S' M1 H' → ExcRep X.K L S' c xs dd H' → E (.ref (L.ca c)) dd H' := h1
      have hln : vs.length = (L.T.xf c).length := by rw [hl, rvs.length, evEs_len hev, chkEs_len ha]
      refine ⟨hln, ?_⟩
      by_cases hf : L.T.xf c = []
      · refine .inl ⟨hf, hE S1 H1 none (.refl _ _) sr1 (.inl ⟨?_, rfl⟩)⟩
        rw [hf] at hln
        have hv : vs = [] := List.length_eq_zero_iff.mp hln
        subst hv
        exact List.length_eq_zero_iff.mp rvs.length.symm
      · refine .inr ⟨hf, fun d hd => ?_⟩
        obtain ⟨sr2, st2⟩ := sr1.extra (o := .xd ((L.T.xf c).zip vs)) hd
        exact hE S1 _ (some d) st2 sr2 (.inr ⟨d, vs, rfl, upd_same, rvs, by rw [← hln, rvs.length]⟩)
  · cases hc
mutual
theorem sndS : ∀ (c : CS) (sc : Scope) (X : Cx) (s : Stmt), GoodH Γ L N sc (stC sc sc) X → (hot = false → Good Γ L cf k E N sc (stC sc sc) X) → (tl = true → ToldRule Γ cf L k X) → PassesOwn (model X.prog X.w) X.A X.env X.xe → sc.kind = .function → chkS Γ L.T N hot tl c sc s = true → PS X s (tS Γ cf X.K L E c)
  | .asg t v, sc, X, s, GH, G, R, hp, hk, h => by
    rw [chkS.eq_def] at h
    dsimp only at h
    split at h
    · rename_i tg e pos
      simp only [Bool.or_eq_true] at h
      rcases h with ((h | h) | h) | h
      · simp only [Bool.and_eq_true] at h
        obtain ⟨⟨⟨⟨h1, h2⟩, h3⟩, h4⟩, h5⟩ := h
        exact s_asg ((sndE v false sc sc E X _ GH G (fun _ y => R y) h4).1 rfl) (sndG t none sc sc E X _ GH G (fun _ y => R y) h5) (swF_ok GH.sc hk h2) (swNo_ok GH.sc hk h3) h1
      · have G' := G (hot_and h).1
        replace h := (hot_and h).2
        unfold chkPar at h
        split at h
        · simp only [Bool.and_eq_true, nmAt, decide_eq_true_eq] at h
          obtain ⟨⟨⟨⟨⟨⟨h1, h2⟩, h3⟩, h4⟩, h5⟩, h6⟩, h7⟩ := h
          exact s_par G'.calm (by rw [GH.hN]; exact GH.nd) (by rw [GH.hN]; exact h1) (by rw [GH.hN]; exact h2) h3 (by rw [GH.sc]; exact h4) (by rw [GH.sc]; exact h5) (sndEs _ sc sc E X _ GH G (fun _ y => R y) h7) (swYes_ok GH.sc hk h6)
        · simp only [Bool.and_eq_true, nmAt, decide_eq_true_eq] at h
          obtain ⟨⟨⟨⟨⟨⟨⟨⟨⟨⟨h1, h2⟩, h3⟩, h4⟩, h5⟩, h6⟩, h7⟩, h8⟩, h9⟩, h10⟩, h11⟩ := h
          exact s_par3 G'.calm (by rw [GH.hN]; exact GH.nd) (by rw [GH.hN]; exact h1) (by rw [GH.hN]; exact h2) (by rw [GH.hN]; exact h3) h4 h5 h6 (by rw [GH.sc]; exact h7) (by rw [GH.sc]; exact h8) (by rw [GH.sc]; exact h9) (sndEs _ sc sc E X _ GH G (fun _ y => R y) h11) (swYes_ok GH.sc hk h10)
        · cases h
      · have G' := G (hot_and h).1
        replace h := (hot_and h).2
        unfold chkLc at h
        split at h
        · rename_i i live own ct ci cond elt y py elt' tg' it' ifs asy scope lpos
          simp only [Bool.and_eq_true, nmAt, decide_eq_true_eq] at h
          obtain ⟨⟨⟨⟨⟨⟨⟨⟨⟨hw, hy⟩, hnt⟩, rfl⟩, hb⟩, hc⟩, hi⟩, hg⟩, ht⟩, he⟩ := h
          simp only [Bool.not_eq_true', Bool.or_eq_false_iff] at hnt
          obtain ⟨sw, hyl⟩ := swT_ok (l := pos.line) GH.sc hk hw
          have hx := s_setLc (Γ := Γ) (cf := cf) (L := L) (E := E) (live := live) (own := ownN N own) (pos := lpos) (spos := pos) (py := py) G'.calm (by rw [GH.hN]; exact GH.nd) (by rw [GH.hN]; exact hy) (by rw [GH.sc]; exact hyl) sw (sndI ci sc sc E X _ _ GH G (fun _ y => R y) hi) (by rw [GH.hN, GH.sc]; exact blkOk_by hb)
            (fun s H C cl fp => by rw [ownN_snd]; exact sndG ct (some own) scope (relS scope sc) E0 _ _ (G'.blk (scope := scope)).toGoodH (fun _ => G'.blk (scope := scope)) (fun z => absurd z (by simp [hnt])) hg)
            (fun s H C cl fp => sndC cond scope (relS scope sc) E0 _ _ (G'.blk (scope := scope)).toGoodH (fun _ => G'.blk (scope := scope)) (fun z => absurd z (by simp [hnt])) ht)
            (fun s H C cl fp => (sndE elt false scope (relS scope sc) E0 _ _ (G'.blk (scope := scope)).toGoodH (fun _ => G'.blk (scope := scope)) (fun z => absurd z (by simp [hnt])) he).1 rfl) (compOk_ok hc)
          rw [ownN_snd] at hx
          exact hx
        · cases h
      · have G' := G (hot_and h).1
        replace h := (hot_and h).2
        unfold chkFld at h
        split at h
        · simp only [Bool.and_eq_true, decide_eq_true_eq] at h
          obtain ⟨⟨⟨rfl, h2⟩, h3⟩, h4⟩ := h
          exact s_fld G' ((sndE v false sc sc E X _ GH G (fun _ y => R y) h4).1 rfl) ((sndE _ false sc sc E X _ GH G (fun _ y => R y) h3).1 rfl) (swN_ok h2)
        · cases h
    · cases h
  | .aug i o v, sc, X, s, GH, G, R, hp, hk, h => by
    rw [chkS.eq_def] at h
    dsimp only at h
    split at h
    · simp only [Bool.and_eq_true, Bool.or_eq_true, nmAt, decide_eq_true_eq] at h
      obtain ⟨⟨⟨⟨⟨rfl, ho⟩, hi⟩, hl⟩, hs⟩, he⟩ := h
      exact s_aug ho (by rw [GH.hN]; exact GH.nd) (by rw [GH.hN]; exact hi) (by rw [GH.sc]; exact locC_ok hl) ((sndE v false sc sc E X _ GH G (fun _ y => R y) he).1 rfl) (GH.sto _ hs)
    · cases h
  | .augs _ _ _ _, sc, X, s, GH, G, R, hp, hk, h => by
    rw [chkS.eq_def] at h
    dsimp only at h
    cases h
  | .exp v, sc, X, s, GH, G, R, hp, hk, h => by
    rw [chkS.eq_def] at h
    dsimp only at h
    split at h
    · simp only [Bool.and_eq_true] at h
      exact s_exp ((sndE v false sc sc E X _ GH G (fun _ y => R y) h.2).1 rfl) (swN_ok h.1)
    · cases h
  | .ret v, sc, X, s, GH, G, R, hp, hk, h => by
    rw [chkS.eq_def] at h
    dsimp only at h
    split at h
    · exact s_ret ((sndE v false sc sc E X _ GH G (fun _ y => R y) h).1 rfl)
    · cases h
  | .ife c a b, sc, X, s, GH, G, R, hp, hk, h => by
    rw [chkS.eq_def] at h
    dsimp only at h
    split at h
    · simp only [Bool.and_eq_true] at h
      obtain ⟨⟨h1, h2⟩, h3⟩ := h
      exact s_ife ((sndE c true sc sc E X _ GH G (fun _ y => R y) h1).2 rfl).1 (sndSs a sc X _ GH G R hp hk h2) (sndSs b sc X _ GH G R hp hk h3)
    · cases h
  | .loop t it b, sc, X, s, GH, G, R, hp, hk, h => by
    rw [chkS.eq_def] at h
    dsimp only at h
    split at h
    · rename_i tg e body els pos
      simp only [Bool.and_eq_true] at h
      obtain ⟨⟨⟨⟨⟨hh, h0⟩, h1⟩, h2⟩, h3⟩, h4⟩ := h
      have G' := G (by simpa using hh)
      cases els with
      | nil => exact s_for hp G'.calm (sndI it sc sc E X _ _ GH G (fun _ y => R y) h2) (sndG t none sc sc E X _ GH G (fun _ y => R y) h3) (sndSs b sc X _ GH G R hp hk h4) (compOk_ok h1)
      | cons _ _ => cases h0
    · cases h
  | .whil c b, sc, X, s, GH, G, R, hp, hk, h => by
    rw [chkS.eq_def] at h
    dsimp only at h
    split at h
    · rename_i e body els pos
      simp only [Bool.and_eq_true] at h
      obtain ⟨⟨h0, h1⟩, h2⟩ := h
      cases els with
      | nil => exact s_while hp ((sndE c true sc sc E X _ GH G (fun _ y => R y) h1).2 rfl).1 (sndSs b sc X _ GH G R hp hk h2)
      | cons _ _ => cases h0
    · cases h
  | .brk, sc, X, s, GH, G, R, hp, hk, h => by
    rw [chkS.eq_def] at h
    dsimp only at h
    split at h
    · exact s_brk
    · cases h
  | .pas, sc, X, s, GH, G, R, hp, hk, h => by
    rw [chkS.eq_def] at h
    dsimp only at h
    split at h
    · exact s_pas
    · exact s_doc
    · cases h
  | .rais c es, sc, X, s, GH, G, R, hp, hk, h => by
    rw [chkS.eq_def] at h
    dsimp only at h
    split at h
    · exact s_rais (G (hot_and h).1) R (hot_and h).2
    · cases h
  | .frzv _, sc, X, s, GH, G, R, hp, hk, h => by
    rw [chkS.eq_def] at h
    dsimp only at h
    cases h
  | .never, sc, X, s, GH, G, R, hp, hk, h => s_snever
theorem sndSs : ∀ (c : CSs) (sc : Scope) (X : Cx) (s : List Stmt), GoodH Γ L N sc (stC sc sc) X → (hot = false → Good Γ L cf k E N sc (stC sc sc) X) → (tl = true → ToldRule Γ cf L k X) → PassesOwn (model X.prog X.w) X.A X.env X.xe → sc.kind = .function → chkSs Γ L.T N hot tl c sc s = true → PSs X s (tSs Γ cf X.K L E c)
  | .nil, sc, X, s, GH, G, R, hp, hk, h => by
    rw [chkSs.eq_def] at h
    dsimp only at h
    cases s with
    | nil => exact s_snil
    | cons _ _ => cases h
  | .cons c cs, sc, X, s, GH, G, R, hp, hk, h => by
    rw [chkSs.eq_def] at h
    dsimp only at h
    split at h
    · simp only [Bool.and_eq_true] at h
      exact s_frzv (sndSs cs sc X _ GH G R hp hk h.2)
    · split at h
      · simp only [Bool.and_eq_true] at h
        exact s_scons (sndS c sc X _ GH G R hp hk h.1) (sndSs cs sc X _ GH G R hp hk h.2)
      · cases h
end
end
end GW

set_option Elab.async false
set_option linter.all false
set_option autoImplicit false
set_option maxRecDepth 100000
set_option maxHeartbeats 8000000
/-! Calls of the core; how a def's names start. -/
namespace GW
open PySem PySem.Spec PyProof.Rows L2 RZ
theorem callF_ar {Γ : Prog} {n f : Nat} {F : FD} {ds : List D} {M : Mem} (h : Γ.fn f = some F) (hne : callF Γ n f ds M ≠ .err) : ds.length = F.ar := by
  cases n with
  | zero => exact absurd rfl hne
  | succ n =>
    unfold callF at hne
    rw [h] at hne
    dsimp only at hne
    by_cases hz : ds.length = F.ar ∧ F.ar ≤ F.nn
    · exact hz.1
    · rw [if_neg hz] at hne
      exact absurd rfl hne
theorem callF_no {Γ : Prog} {n f : Nat} {ds : List D} {M : Mem} (h : Γ.fn f = none) : callF Γ n f ds M = .err := by
  cases n with
  | zero => rfl
  | succ n =>
    unfold callF
    rw [h]
section
variable {Γ : Prog} {P : Program} {w : World} {K : PySem.W.Frag} {mg : Str → Option Value} {base : Heap} {L : Link}
theorem fin_cut {S : RS} {M : Mem} {H : Hp} {E : XK} {d : D} {M1 : Mem} {Q : VK} (sr : SR K L S M H) (h : Fin K L S H E (.ok d (shrink M [d] M1)) (fun d _ S' H' => ∀ v, Rep K L S' d v → Q v H')) : Fin K L S H E (.ok d M1) (fun d _ S' H' => ∀ v, Rep K L S' d v → Q v H') := by
  intro S' H' st sr' v rv
  by_cases hc : Shrinks M [d] M1
  · have e : shrink M [d] M1 = M1.take M.length := by unfold shrink; rw [if_pos hc]
    rw [e] at h
    obtain ⟨q1, q2, q3⟩ := sr.cut st sr' hc
    obtain ⟨_, _, z, r, _⟩ := q3 [v] (.cons rv .nil)
    cases z
    exact h _ _ q2 q1 v r
  · have e : shrink M [d] M1 = M1 := by unfold shrink; rw [if_neg hc]
    rw [e] at h
    exact h S' H' st sr' v rv
theorem envR_start {S : RS} {nn : Nat} {N : List Str} {ds : List D} {vs : List V} (hN : N.length = nn) (r : Reps K L S ds vs) : EnvR K L S (startE nn ds) (L2.start N vs) := by
  have hl := r.length
  refine ⟨?_, fun i d e => ?_⟩
  · unfold startE L2.start
    rw [List.length_append, List.length_append, List.length_map, List.length_map, List.length_replicate, List.length_replicate, hN, hl]
  · unfold startE at e
    unfold L2.start
    by_cases hi : i < ds.length
    · rw [List.getElem?_append_left (by rw [List.length_map]; exact hi), List.getElem?_map] at e
      rw [List.getElem?_append_left (by rw [List.length_map, hl]; exact hi), List.getElem?_map]
      cases e2 : ds[i]? with
      | none => rw [e2] at e; cases e
      | some d2 =>
        rw [e2] at e
        cases e
        obtain ⟨v, hv, rv⟩ := r.get e2
        exact ⟨v, by rw [hv]; rfl, rv⟩
    · rw [List.getElem?_append_right (by rw [List.length_map]; omega)] at e
      rw [List.getElem?_replicate] at e
      split at e <;> cases e
end
end GW

set_option Elab.async false
set_option linter.all false
set_option autoImplicit false
set_option maxRecDepth 100000
set_option maxHeartbeats 4000000
/-! A lambda, without a parameter or with one that has a number for its default, handed to a def. -/
namespace GW
open PySem PySem.Spec PyProof.Rows L2 LamX
abbrev lamO (q : Str) (params : Arguments) (body : Expr) (scope : Scope) (cl : List (Str × Addr)) (dV doc pm : Value) (c' : Addr) (ctv : Value) : Obj := PySem.W.kdv_obj "<lambda>" q params (.expr body) scope cl dV doc pm c' ctv
/-- how its defaults stand -/
def DfOk (X : Cx) (H : Hp) (h : Heap) (bs : List (Str × Int)) (dV : Value) : Prop :=
  (bs = [] ∧ dV = .none) ∨ ∃ (t : Addr) (a : Str) (n : Int) (tk : Tok), dV = .ref t ∧ bs = [(a, n)] ∧ h.get? t = some (PySem.W.kdv_tup [.int n tk]) ∧ H t = none ∧ t ∉ frs X.stack
section
variable {X : Cx} {pins : List (Addr × Obj)} {σ : L2.St} {H : Hp} {s : Shared}
theorem tail_make {T : List (Addr × Str)} {c P : Addr} {params : Arguments} {body : Expr} {scope : Scope} {pos : Pos} {dV : Value} {E : Value → Shared → Prop} {Q : Value → Shared → Prop} (I : Inv X pins σ H s) (TB : TabB X.base X.mg c P) (hcode : X.env.code = .ref c)
    (hm : (P, X.env.qual ++ "<lambda>") ∈ T) (hu : ∀ p ∈ T, p.1 = P → p.2 = X.env.qual ++ "<lambda>") (hT : Tabs T H) (hfree : ∀ y ∈ scope.names, y.2 = .free → ∃ c, X.env.cells.lookup y.1 = some c)
    (h : ∀ (f c' : Addr) (doc pm ctv : Value) (H1 : Hp) (s' : Shared), Inv X pins σ H1 s' → ExtN H H1 → Tabs T H1 → (∀ b o, H b = none → s.heap.get? b = some o → H1 b = none ∧ s'.heap.get? b = some o) →
      s'.heap.get? f = some (lamO (X.env.qual ++ "<lambda>") params body scope (cloFrom X.env.cells scope.names []) dV doc pm c' ctv) → H1 f = none → f ∉ frs X.stack → H1 c' = some (CodeO c' (X.env.qual ++ "<lambda>")) → Q (.ref f) s') :
    wpAny (model X.prog X.w) X.A (makeTail "<lambda>" (X.env.qual ++ "<lambda>") params (.expr body) scope X.env dV .none none pos pos.line) Q E s := by
  obtain ⟨ps, hP, ht, ha⟩ := hT _ hm
  have bP : s.heap.BuiltinsAt X.mg P := TB.bm.keeps I.bk
  have hP' : s.heap.get? P = some { cls := .none, data := .fields ps } := I.hok P _ hP
  have nofr : ∀ f, s.heap.objs.size ≤ f → f ∉ frs X.stack := fun f hf z => by
    rcases List.mem_cons.mp (I.stkSub _ z) with e | e
    · have h1 := I.lt
      rw [← e] at h1
      exact Nat.lt_irrefl _ (Nat.lt_of_lt_of_le h1 hf)
    · exact I.nofs hf e
  cases hc : codeAmong pos ps.toList with
  | none =>
    refine PySem.W.kdv_makeTail (mg := X.mg) (c := c) (P := P) (ps := ps) (closure_ok hfree) I.ok.glob (I.mod.glob.keeps I.bk) hcode (TB.code.keeps I.bk) hP' ht hc TB.gP bP fun c' ctv doc h' tk hx hge hlt hrec htb => ?_
    obtain ⟨c2, oc, vs, t, e2, hoc, hd, hv⟩ := hrec
    cases e2
    have hsz : s.heap.objs.size ≤ h'.objs.size := Nat.le_trans hge (Nat.le_of_lt hlt)
    have nC : H c' = none := I.hok.fresh hge
    have I1 := inv_table (t' := tk) (more := #[rawInt pos.line, rawInt pos.col, .ref c']) (h' := h'.push (lamO (X.env.qual ++ "<lambda>") params body scope (cloFrom X.env.cells scope.names []) dV doc ((X.mg "__name__").getD .none) c' ctv)) I hP
      (fun b o hb e => Heap.get?_push_of_some _ (hx b o hb e)) (Heap.get?_push_of_some _ htb) hge ⟨oc, vs, t, Heap.get?_push_of_some _ hoc, hd, hv⟩
    have hE : ExtN H (upd (upd H P (.tbl (ps ++ #[rawInt pos.line, rawInt pos.col, .ref c']))) c' (CodeO c' (X.env.qual ++ "<lambda>"))) := fun b o e n => by
      rw [upd_ne (ne_of_none e nC), upd_ne (fun z => n ps (Option.some.inj (e.symm.trans (by rw [z]; exact hP))))]
      exact e
    have eL : (ps ++ #[rawInt pos.line, rawInt pos.col, .ref c']).toList = ps.toList ++ [rawInt pos.line, rawInt pos.col, .ref c'] := by simp
    refine h h'.objs.size c' doc ((X.mg "__name__").getD .none) ctv _ _ I1 hE (fun p hp => ?_) (fun b o hn e => ⟨?_, ?_⟩) (Heap.get?_push_size _ rfl) ?_ (nofr _ hsz) upd_same
    · by_cases hb : p.1 = P
      · rw [hu p hp hb, hb]
        refine ⟨_, by rw [upd_ne (ne_of_none hP nC), upd_same], by rw [eL]; exact PySem.TriplesOk_snoc _ _ _ _ ht, fun p' cv hcv => ?_⟩
        rw [eL] at hcv
        rcases among_app _ ht hcv with z | z
        · obtain ⟨c0, e1, e2⟩ := ha p' cv z
          exact ⟨c0, e1, hE _ _ e2 codeO_ne⟩
        · exact ⟨c', z, upd_same⟩
      · obtain ⟨ps', a1, a2, a3⟩ := hT p hp
        refine ⟨ps', by rw [upd_ne (ne_of_none a1 nC), upd_ne hb]; exact a1, a2, fun p' cv hcv => ?_⟩
        obtain ⟨c0, e1, e2⟩ := a3 p' cv hcv
        exact ⟨c0, e1, hE _ _ e2 codeO_ne⟩
    · rw [upd_ne (fun z => ?_), upd_ne (fun z => ?_)]
      · exact hn
      · rw [z, hP] at hn; cases hn
      · rw [z] at e
        exact absurd (Heap.lt_size e) (Nat.not_lt.mpr hge)
    · exact Heap.get?_push_of_some _ (hx b o (fun z => by rw [z, hP] at hn; cases hn) e)
    · have n1 : h'.objs.size ≠ c' := Nat.ne_of_gt hlt
      have n2 : h'.objs.size ≠ P := Nat.ne_of_gt (Nat.lt_of_lt_of_le (Heap.lt_size hP') hsz)
      rw [upd_ne n1, upd_ne n2]
      exact I.hok.fresh hsz
  | some cv =>
    obtain ⟨c', e, hco⟩ := ha pos cv hc
    subst e
    refine PySem.W.kdv_makeTailHit (mg := X.mg) (c := c) (P := P) (ps := ps) (closure_ok hfree) I.ok.glob (I.mod.glob.keeps I.bk) hcode (TB.code.keeps I.bk) hP' ht hc bP fun ctv doc h' tk hx hsz => ?_
    have I1 : Inv X pins σ H { s with heap := h'.push (lamO (X.env.qual ++ "<lambda>") params body scope (cloFrom X.env.cells scope.names []) dV doc ((X.mg "__name__").getD .none) c' ctv), toks := tk } := I.kept fun b o e => Heap.get?_push_of_some _ (hx b o e)
    exact h h'.objs.size c' doc ((X.mg "__name__").getD .none) ctv H _ I1 (ExtN.refl H) hT (fun b o hn e => ⟨hn, Heap.get?_push_of_some _ (hx b o e)⟩) (Heap.get?_push_size _ rfl) (I.hok.fresh hsz) (nofr _ hsz) hco
theorem lam_make {T : List (Addr × Str)} {c P : Addr} {params : Arguments} {bs : List (Str × Int)} {body : Expr} {scope : Scope} {pos : Pos} {Q : Value → Shared → Prop} (I : Inv X pins σ H s) (TB : TabB X.base X.mg c P) (hcode : X.env.code = .ref c)
    (hm : (P, X.env.qual ++ "<lambda>") ∈ T) (hu : ∀ p ∈ T, p.1 = P → p.2 = X.env.qual ++ "<lambda>") (hT : Tabs T H) (hpar : lamP params = some bs) (hfree : ∀ y ∈ scope.names, y.2 = .free → ∃ c, X.env.cells.lookup y.1 = some c)
    (h : ∀ (f c' : Addr) (dV doc pm ctv : Value) (H1 : Hp) (s' : Shared), Inv X pins σ H1 s' → ExtN H H1 → Tabs T H1 → DfOk X H1 s'.heap bs dV →
      s'.heap.get? f = some (lamO (X.env.qual ++ "<lambda>") params body scope (cloFrom X.env.cells scope.names []) dV doc pm c' ctv) → H1 f = none → f ∉ frs X.stack → H1 c' = some (CodeO c' (X.env.qual ++ "<lambda>")) → Q (.ref f) s') :
    wpAny (model X.prog X.w) X.A (eval (.Lambda params body scope pos) X.env) Q X.xe s := by
  have nofr : ∀ f, s.heap.objs.size ≤ f → f ∉ frs X.stack := fun f hf z => by
    rcases List.mem_cons.mp (I.stkSub _ z) with e | e
    · have h1 := I.lt
      rw [← e] at h1
      exact Nat.lt_irrefl _ (Nat.lt_of_lt_of_le h1 hf)
    · exact I.nofs hf e
  unfold lamP at hpar
  split at hpar
  · cases hpar
    refine PySem.W.kla_eval rfl ?_
    rw [makeFunction_eq]
    simp only [List.zip_nil_right, List.filterMap_nil, List.isEmpty_nil, if_true, pure_bind]
    exact tail_make I TB hcode hm hu hT hfree fun f c' doc pm ctv H1 s' I1 eN T1 kp hf hfn hfr hco => h f c' .none doc pm ctv H1 s' I1 eN T1 (.inl ⟨rfl, rfl⟩) hf hfn hfr hco
  · rename_i a an ap n kk kp
    cases hpar
    refine PySem.W.kdv_lam rfl rfl (PySem.W.kdv_all1 ?_)
    have hci := (pe_int (X := X) (i := n) (j := kk) (pos := kp)).run pins s σ H (fun v H1 => v = .int n ∧ H1 = H) I ⟨rfl, rfl⟩
    refine thn hci fun u s1 ⟨v, H1, I1, r1, e1, e2⟩ => ?_
    subst e1 e2
    obtain ⟨tk, rfl⟩ := r1
    refine PySem.W.kdv_all0 ?_
    rw [makeFunction_eq]
    simp only [List.zip_nil_right, List.filterMap_nil, List.isEmpty_nil, List.isEmpty_cons, if_true, pure_bind, Bool.false_eq_true, if_false]
    refine wpAny_bind (wpAny_newTextTuple ?_)
    have nofr1 : s1.heap.objs.size ∉ frs X.stack := fun z => by
      rcases List.mem_cons.mp (I1.stkSub _ z) with e | e
      · have h1 := I1.lt
        rw [← e] at h1
        exact Nat.lt_irrefl _ h1
      · exact I1.nofs (Nat.le_refl _) e
    have I2 : Inv X pins σ H1 { s1 with heap := s1.heap.push { cls := .type "tuple", data := .seq [Value.int n tk].toArray } } := I1.kept (t' := s1.toks) fun b o e => Heap.get?_push_of_some _ e
    refine tail_make I2 TB hcode hm hu hT hfree fun f c' doc pm ctv H2 s' J eN T1 kp' hf hfn hfr hco => ?_
    obtain ⟨k1, k2⟩ := kp' s1.heap.objs.size _ (I1.hok.fresh (Nat.le_refl _)) (Heap.get?_push_size _ rfl)
    exact h f c' (.ref s1.heap.objs.size) doc pm ctv H2 s' J eN T1 (.inr ⟨_, a, n, tk, rfl, rfl, k2, k1, nofr1⟩) hf hfn hfr hco
  · cases hpar
end
section
variable {X : Cx} {pins : List (Addr × Obj)} {σ : L2.St} {H HZ : Hp} {s s1 : Shared}
theorem lam_start {A : Around} {outer : List PySem.Env} {E : XK} {scope : Scope} {f c' : Addr} {h₁ : Heap} {tk : Nat} {bs : List (Str × Int)} {m : Str → Option Value} (I : Inv X pins σ H s) (L : LamQ X.N X.env.scope scope bs) (e0 : Env0 X.prog X.w X.K X.mg X.base A outer s1 HZ) (hd : A.handled = none)
    (un : Un (frs X.stack) [] H HZ s.heap s1.heap) (hns : h₁.Ns s1.heap.objs.size m) (kp : ∀ b o, s1.heap.get? b = some o → h₁.get? b = some o) :
    Inv (lamCx X A outer s1 HZ E scope f c') [] σ HZ { s1 with heap := h₁, toks := tk } := by
  have hfree := L.has I.ok
  have cm : ∀ {y c}, (cloFrom X.env.cells scope.names []).lookup y = some c → X.env.cells.lookup y = some c := fun {y c} e => by
    rcases cloFrom_mem (PySem.mem_of_lookup e) with hm | ⟨h1, h2⟩
    · cases hm
    · obtain ⟨c1, hc⟩ := hfree _ h1 rfl
      have hc : X.env.cells.lookup y = some c1 := hc
      have e2 : c = c1 := by
        rw [h2, hc] <;> rfl
      rw [e2]
      exact hc
  have look : ∀ {y}, scope.names.lookup y = some .free → ∃ c, (cloFrom X.env.cells scope.names []).lookup y = some c := fun {y} hl => by
    have hy : (y, NameKind.free) ∈ scope.names := PySem.mem_of_lookup hl
    exact mem_lookup (cloFrom_has (cells := X.env.cells) (acc := []) hy)
  have cellK : ∀ {c : Addr} {v : Option Value}, H c = none → s.heap.IsCell c v → h₁.IsCell c v := fun {c v} n ⟨o, ho, hd⟩ => by
    obtain ⟨sl, q⟩ := un.any ho n (by simp)
    exact ⟨_, kp _ _ q, hd⟩
  have noA : ∀ b : Addr, b ∉ (lamCx X A outer s1 HZ E scope f c').ex := fun b z => absurd (show b ∈ ([] : List Addr) from z) (by simp)
  refine ⟨⟨e0.mod, L.kind, rfl, rfl, Nat.le_refl _, fun y z c e1 e2 => I.ok.inj y z c (cm e1) (cm e2), fun y hy => ?_, fun y c z _ => ?_, fun _ => hd, Around.frames_deeper e0.frames, .inr ⟨rfl, rfl⟩, fun b z => absurd z (noA b), e0.bs, e0.bsz, fun b _ _ => noA b,
      fun b z => absurd z (noA b), e0.funs, e0.frf⟩,
    rfl, e0.bare, Un.kept kp, ⟨_, hns, fun i y v e1 e2 e3 => ?_⟩, fun y c e => ?_, e0.hok.fresh (Nat.le_refl _), fun y c e => ?_, fun q hq => absurd (show q ∈ ([] : List (Addr × Obj)) ++ [] from hq) (by simp), e0.hok.kept kp, I.len⟩
  · have hy : scope.names.lookup y = some .cell ∨ scope.names.lookup y = some .free := hy
    rcases hy with hy | hy
    · exact absurd rfl (L.own _ (PySem.mem_of_lookup hy)).1
    · exact look hy
  · have z : false = true := z
    cases z
  · have e3 : Vis scope y := e3
    rcases e3 with k | k | k
    · exact absurd (List.mem_of_getElem? e1) ((L.own _ (PySem.mem_of_lookup k)).2 rfl)
    · exact absurd rfl (L.own _ (PySem.mem_of_lookup k)).1
    · obtain ⟨m, hn, hl⟩ := I.loc
      have hvis : Vis X.env.scope y := (L.free _ (PySem.mem_of_lookup k) rfl).elim (fun k => .inr (.inl k)) (fun k => .inr (.inr k))
      obtain ⟨w', r, q⟩ := hl i y v e1 e2 hvis
      obtain ⟨c2, h2⟩ := look k
      refine ⟨w', r, .inr ⟨.inr k, c2, h2, ?_⟩⟩
      have c1 := cm h2
      rcases q with ⟨k', _⟩ | ⟨_, c3, e', z⟩
      · have k' : X.env.scope.names.lookup y = some .local := k'
        rcases L.free _ (PySem.mem_of_lookup k) rfl with k2 | k2 <;> rw [show X.env.scope.names.lookup y = _ from k2] at k' <;> cases k'
      · rw [c1] at e'
        cases e'
        exact cellK (I.freeC y _ c1) z
  · obtain ⟨w', z⟩ := I.cell y c (cm e)
    exact ⟨w', cellK (I.freeC y c (cm e)) z⟩
  · obtain ⟨v, o, ho, hd⟩ := I.cell y c (cm e)
    exact un.free c o ho (I.freeC y c (cm e)) (by simp)
/-- x(), in the def that got the lambda: Z is that def's context, entered at s -/
theorem lam_act {CXg : CXT} {Eg : XK} {Ng : List Str} {qg : Str} {sg : Scope} {g f c' : Addr} {cdg dV doc pm ctv : Value} {params : Arguments} {bs : List (Str × Int)} {body : Expr} {scope : Scope} {k i : Nat} {a : Str} {pn : List (Addr × Obj)} {xe : Value → Shared → Prop} {W : WX} {E : XK} {tb : TE} {p1 p2 : Pos}
    (I : Inv X pins σ H s) (hpar : lamP params = some bs) (L : LamQ X.N X.env.scope scope bs) (hdf : DfOk X H s.heap bs dV) (hf : s.heap.get? f = some (lamO (X.env.qual ++ "<lambda>") params body scope (cloFrom X.env.cells scope.names []) dV doc pm c' ctv)) (hfn : H f = none) (hfr : f ∉ frs X.stack)
    (hGD : X.A.guards = some []) (tk : Takes ((cxOf CXg X.prog X.w X.K X.mg X.base Ng qg sg g cdg X.A X.stack s H Eg).tr pn xe) W) (hW : ∀ cls d σ' H', E cls d H' → W cls d σ' H') (hr : Room (k + 1) (X.A.deeper (envOfC qg sg s.heap.objs.size g cdg)))
    (hbody : ∀ (A : Around) (outer : List PySem.Env) (s : Shared) (H : Hp), A.guards = some [] → Room k (A.deeper (lamEnv X scope s.heap.objs.size f c')) → PE (lamCx X A outer s H E scope f c') body tb)
    (hN : Ng[i]? = some a) (hv : Vis sg a) (hd : (a == ("__debug__" : Str)) = false) (hcd : (a == ("__classdict__" : Str)) = false) :
    PE ((cxOf CXg X.prog X.w X.K X.mg X.base Ng qg sg g cdg X.A X.stack s H Eg).tr pn xe) (.Call (.Name a p1) [] [] p2)
      (fun σZ HZ Q => σZ[i]? = some (some (.ref f)) ∧ HZ c' = some (CodeO c' (X.env.qual ++ "<lambda>")) ∧ tb σ HZ Q) := by
  refine ⟨fun pinsZ sZ σZ HZ Q IZ h => ?_⟩
  obtain ⟨hs, hc, ht⟩ := h
  refine wpAny_Call_Name_kw (thn ((pe_var (pos := p1) (i := i) hN hv hd hcd).run pinsZ sZ σZ HZ (fun v H1 => v = .ref f ∧ H1 = HZ) IZ ⟨.ref f, hs, rfl, rfl⟩) fun u s1 ⟨v, H1, I1, r1, q1⟩ => ?_)
  obtain ⟨ev, eH⟩ := q1
  subst ev
  rw [eH] at I1
  obtain rfl : u = Value.ref f := r1
  have of1 : s1.heap.get? f = some (lamO (X.env.qual ++ "<lambda>") params body scope (cloFrom X.env.cells scope.names []) dV doc pm c' ctv) := I1.base.keep f _ hf hfn hfr (fun z => nomatch (show f ∈ ([] : List Addr) from z))
  refine PySem.W.callWith_F0 ⟨_, _, _, _, of1⟩ ?_
  have un : Un (frs X.stack) [] H HZ s.heap s1.heap := I1.base
  obtain ⟨⟨oc, vs, t, hoc, hdc, hvc⟩, _, _⟩ := I1.hok c' _ hc
  have hbd : ∃ binds, BindsTo s1 (PySem.W.kdv_fn "<lambda>" (X.env.qual ++ "<lambda>") params (.expr body) scope (cloFrom X.env.cells scope.names []) dV doc pm (.ref c') ctv) ⟨[], []⟩ binds ∧ ∀ y ∈ binds, scope.names.lookup y.1 = some .local := by
    rcases hdf with ⟨rfl, rfl⟩ | ⟨t2, a2, n2, tk2, rfl, rfl, g1, g2, g3⟩
    · refine ⟨[], .of_eq ?_, fun y hy => absurd hy (by simp)⟩
      unfold lamP at hpar
      split at hpar
      · rfl
      · cases hpar
      · cases hpar
    · have g4 : s1.heap.get? t2 = some (PySem.W.kdv_tup [.int n2 tk2]) := I1.base.keep t2 _ g1 g2 g3 (fun z => nomatch (show t2 ∈ ([] : List Addr) from z))
      unfold lamP at hpar
      split at hpar
      · cases hpar
      · cases hpar
        exact ⟨[(a2, .int n2 tk2)], BindsTo.of_defaults rfl g4 rfl rfl (by simp), fun y hy => by
          rcases List.mem_singleton.mp hy with rfl
          exact L.par (a2, n2) (List.mem_singleton.mpr rfl)⟩
      · cases hpar
  obtain ⟨binds, hb1, hb2⟩ := hbd
  have rc : codeAny (model X.prog X.w) (X.A.deeper (envOfC qg sg s.heap.objs.size g cdg)) (.call (.ref f) ⟨[], []⟩) (CR (L2.CX X.prog X.w) (envOfC qg sg s.heap.objs.size g cdg :: X.stack) X.prog X.w HZ s1 Q E) s1 := by
    refine PySem.W.kla_callFunE hr.depth of1 rfl L.co L.gen rfl ⟨c', oc, vs, t, rfl, hoc, hdc, hvc⟩ (hb1 _ _ _ _ ?_)
    refine wpAny_newFunctionEnv (fun y hy => (L.own y hy).1) hb2 (fun h₁ hns hsb => ⟨I1.nolimit.fresh _ hsb, ?_⟩) L.kind
    show codeAny _ _ (.expr body (lamEnv X scope s1.heap.objs.size f c')) _ _
    have kp : ∀ b o, s1.heap.get? b = some o → h₁.get? b = some o := fun b o e => hsb.extBut b o (Nat.ne_of_lt (Heap.lt_size e)) (Heap.get?_push_of_some _ e)
    have J : Inv (lamCx X (X.A.deeper (envOfC qg sg s.heap.objs.size g cdg)) (envOfC qg sg s.heap.objs.size g cdg :: X.stack) s1 HZ E scope f c') [] σ HZ { s1 with heap := h₁, toks := s1.toks + binds.length } :=
      lam_start I L I1.env0 hr.hd un hns kp
    refine PySem.W.kla_codeExpr (wpAny_mono ((hbody (X.A.deeper (envOfC qg sg s.heap.objs.size g cdg)) _ s1 HZ hGD (hr.deeper _)).run [] _ _ HZ Q J ht) (fun v s' hq => ?_) fun e s' hq => hq)
    obtain ⟨w', H', J', rv, q⟩ := hq
    exact ⟨w', H', J'.os, J'.bare, J'.base, J'.hok, rv, q⟩
  have hx : Passes (L2.CX X.prog X.w) ((cxOf CXg X.prog X.w X.K X.mg X.base Ng qg sg g cdg X.A X.stack s H Eg).tr pn xe) E := passes_call tk hW
  refine wpAny_call (codeAny_mono rc fun r s' hq => ?_)
  cases r with
  | error e => exact hx pinsZ σZ HZ s1 e s' I1 hq
  | ok fl =>
    cases fl with
    | ret u => exact I1.after hq
    | next => exact False.elim hq
    | brk => exact False.elim hq
    | cont => exact False.elim hq
end
end GW

set_option Elab.async false
set_option linter.all false
set_option autoImplicit false
set_option maxRecDepth 100000
set_option maxHeartbeats 8000000
/-! What a call gives or how it is refused, told. -/
namespace GW
open PySem PySem.Spec PyProof.Rows L2 LamX L2H
/-! ### an exception at hand, or none -/
mutual
def noX : D → Bool
  | .tup xs => noXs xs | .lst xs => noXs xs | .ins _ _ xs => noXs xs | .tupk xs => noXs xs
  | .exn _ _ => false
  | .non => true | .bl _ => true | .int _ => true | .str _ => true | .dct _ _ => true | .fn _ => true | .ref _ => true
def noXs : List D → Bool
  | [] => true
  | d :: ds => noX d && noXs ds
end
section
variable {K : PySem.W.Frag} {L : Link}
mutual
theorem Rep.noX {S : RS} (hx : L.xn = none) : ∀ (d : D) (v : V), Rep K L S d v → GW.noX d = true
  | .non, _, _ => rfl | .bl _, _, _ => rfl | .int _, _, _ => rfl | .str _, _, _ => rfl | .dct _ _, _, _ => rfl | .fn _, _, _ => rfl | .ref _, _, _ => rfl
  | .tup xs, v, h => by rw [Rep] at h; obtain ⟨_, vs, _, _, r⟩ := h; exact Reps.noX hx xs vs r
  | .lst xs, v, h => by rw [Rep] at h; obtain ⟨_, vs, _, _, r⟩ := h; exact Reps.noX hx xs vs r
  | .tupk xs, v, h => by rw [Rep] at h; obtain ⟨_, vs, _, _, r⟩ := h; exact Reps.noX hx xs vs r
  | .ins _ _ xs, v, h => by rw [Rep] at h; obtain ⟨_, _, vs, _, _, r, _⟩ := h; exact Reps.noX hx xs vs r
  | .exn _ _, v, h => by rw [Rep] at h; obtain ⟨_, _, _, z, _⟩ := h; rw [hx] at z; cases z
theorem Reps.noX {S : RS} (hx : L.xn = none) : ∀ (ds : List D) (vs : List V), Reps K L S ds vs → noXs ds = true
  | [], _, _ => rfl
  | d :: ds, vs, h => by
    obtain ⟨v, vr, rfl, r, t⟩ := h.cons_inv
    rw [noXs, Rep.noX hx d v r, Reps.noX hx ds vr t]
    rfl
end
mutual
theorem Rep.reX {S : RS} {y y' : Option (Addr × Nat × Option Addr)} : ∀ (d : D) (v : V), GW.noX d = true → Rep K { L with xn := y } S d v → Rep K { L with xn := y' } S d v
  | .non, _, _, h => by rw [Rep] at h ⊢; exact h
  | .bl _, _, _, h => by rw [Rep] at h ⊢; exact h
  | .int _, _, _, h => by rw [Rep] at h ⊢; exact h
  | .str _, _, _, h => by rw [Rep] at h ⊢; exact h
  | .dct _ _, _, _, h => by rw [Rep] at h ⊢; exact h
  | .fn _, _, _, h => by rw [Rep] at h ⊢; exact h
  | .ref _, _, _, h => by rw [Rep] at h ⊢; exact h
  | .tup xs, v, n, h => by
    rw [Rep] at h ⊢
    obtain ⟨a, vs, e, q, r⟩ := h
    exact ⟨a, vs, e, q, Reps.reX xs vs (by simpa [GW.noX] using n) r⟩
  | .lst xs, v, n, h => by
    rw [Rep] at h ⊢
    obtain ⟨a, vs, e, q, r⟩ := h
    exact ⟨a, vs, e, q, Reps.reX xs vs (by simpa [GW.noX] using n) r⟩
  | .tupk xs, v, n, h => by
    rw [Rep] at h ⊢
    obtain ⟨a, vs, e, q, r⟩ := h
    exact ⟨a, vs, e, q, Reps.reX xs vs (by simpa [GW.noX] using n) r⟩
  | .ins _ _ xs, v, n, h => by
    rw [Rep] at h ⊢
    obtain ⟨a, dx, vs, e, q, r, z⟩ := h
    exact ⟨a, dx, vs, e, q, Reps.reX xs vs (by simpa [GW.noX] using n) r, z⟩
  | .exn _ _, v, n, h => by simp [GW.noX] at n
theorem Reps.reX {S : RS} {y y' : Option (Addr × Nat × Option Addr)} : ∀ (ds : List D) (vs : List V), noXs ds = true → Reps K { L with xn := y } S ds vs → Reps K { L with xn := y' } S ds vs
  | [], _, _, h => by rw [Reps] at h ⊢; exact h
  | d :: ds, vs, n, h => by
    simp only [noXs, Bool.and_eq_true] at n
    obtain ⟨v, vr, rfl, r, t⟩ := h.cons_inv
    exact .cons (Rep.reX d v n.1 r) (Reps.reX ds vr n.2 t)
end
/-- what stood is as it stood -/
theorem SR.frame {S : RS} {M : Mem} {H H2 : Hp} {HF0 : Hp} {S2 : RS} (sr : SR K L S M H) (h0 : ∀ a o, S.HF a = some o → HF0 a = some o) (h1 : ∀ b o, H b = some o → NoTbl o → S.HF b = none → HF0 b = none) (st : Step ⟨HF0, []⟩ H S2 H2) (sub2 : ∀ a o, S2.HF a = some o → H2 a = some o) (tb2 : LamX.Tabs L.tabs H2) (nh2 : ∀ a ps, S2.HF a ≠ some (.tbl ps)) :
    SR K L ⟨S2.HF, S.φ⟩ M H2 ∧ Step S H ⟨S2.HF, S.φ⟩ H2 := by
  have hn : ∀ a ∈ S.φ, ∀ {p : Prop}, p → S.HF a = none → HF0 a = none := fun a ha p _ z => by
    obtain ⟨u, hu⟩ := sr.al a ha
    exact h1 a u hu (sr.nt a ha u hu) z
  have le : Le S ⟨S2.HF, S.φ⟩ := ⟨fun a o e => st.le.hf a o (h0 a o e), [], by simp⟩
  refine ⟨⟨sub2, sr.len, sr.nd, fun a ha => ?_, fun n o a h1 h2 => ?_, fun n o a h1 h2 h3 => ?_, tb2, fun a ha u e => ?_, nh2⟩, ⟨le, fun b o e n w => ⟨(st.keep b o e (by simp) w).1, n⟩, fun b o e n w z => ?_⟩⟩
  · obtain ⟨u, hu⟩ := sr.al a ha
    exact ⟨u, (st.keep a u hu (by simp) (sr.nt a ha u hu)).1⟩
  · have ha := List.mem_of_getElem? h2
    obtain ⟨u, hu⟩ := sr.al a ha
    have q := sr.rp n o a h1 h2
    rw [hu] at q
    rw [(st.keep a u hu (by simp) (sr.nt a ha u hu)).1]
    exact q.mono le
  · have ha := List.mem_of_getElem? h2
    obtain ⟨u, hu⟩ := sr.al a ha
    exact st.un a u hu (by simp) (sr.nt a ha u hu) (hn a ha h3 (sr.fr n o a h1 h2 h3))
  · obtain ⟨u0, hu⟩ := sr.al a ha
    have e2 := (st.keep a u0 hu (by simp) (sr.nt a ha u0 hu)).1
    rw [e2] at e
    cases e
    exact sr.nt a ha u hu
  · exact st.un b o e (by simp) w (h1 b o e w z)
end
/-! ### the refusal, told -/
/-- what the written part says of _law_refusal: its core F over the names N gives what rfd says -/
structure RfW (Γ : Prog) (K : PySem.W.Frag) (L : Link) (gr : Addr) : Prop where
  ex : ∃ (sr : Stmt) (fr : FuncData) (N : List Str) (F : CSs), Fun K "_law_refusal" "_law_refusal" sr gr fr ∧ FnScope N ["e"] (defScope sr) ∧ Binds K fr ["e"] [] ∧ chkSs Γ L.T N true false F (defScope sr) (defBody sr) = true ∧
    ∀ c as d, Γ.xcl c = true → Γ.rfd c as = some d → exSs Γ (fun _ _ _ => .err) F (startE N.length [.exn c as]) [] = .ok (.rt d) []
  noX : ∀ c as d, Γ.rfd c as = some d → noXs as = true → GW.noX d = true
theorem LinkOk.reX {Γ : Prog} {K : PySem.W.Frag} {L : Link} {mg : Str → Option Value} {y : Option (Addr × Nat × Option Addr)} (lk : LinkOk Γ K L mg) (hx : L.xn = none) (hg : ∀ g d, Γ.glb g = some d → GW.noX d = true) : LinkOk Γ K { L with xn := y } mg :=
  { lk with
    glb := fun g d e => by
      obtain ⟨v, u, h1, h2, h3⟩ := lk.glb g d e
      refine ⟨v, u, h1, h2, fun S => ?_⟩
      have h4 := h3 S
      have e2 : L = { L with xn := none } := by cases L; cases hx; rfl
      rw [e2] at h4
      exact Rep.reX (L := L) d v (hg g d e) h4 }
section
variable {Γ : Prog} {P : Program} {w : World} {K : PySem.W.Frag} {mg : Str → Option Value} {base : Heap} {L : Link}
theorem refusal_run {CX : CXT} {gr : Addr} {A : Around} {outer : List PySem.Env} {s : Shared} {H : Hp} {Q : VK} {E : XK} {a : Addr} {oe : Obj} {S : RS} {M : Mem} {c : Nat} {as : List D} {dd : Option Addr} {d : D} (W : RfW Γ K L gr) (lk : LinkOk Γ K L mg) (hx : L.xn = none) (hg : ∀ g d, Γ.glb g = some d → GW.noX d = true)
    (hr : RoomH 1 A) (hpin : PinOk outer H s (a, oe)) (e0 : Env0 P w K mg base A outer s H) (hz : Zc (.ref (L.ca c)) dd oe) (hf : ∃ vs, oe.data = .fields vs) (sr : SR K L S M H) (hc : Γ.xcl c = true) (h0 : closedL 0 as = true) (hd : Γ.rfd c as = some d) (hex : ExcRep K L S c as dd H)
    (hQ : ∀ S' H', Step S H S' H' → SR K L S' M H' → ∀ v, Rep K L S' d v → Q v H') : codeAny (model P w) A (.call (.ref gr) ⟨[.ref a], []⟩) (CR CX outer P w H s Q E) s := by
  obtain ⟨⟨st, fr, N, F, h1, h2, h3, h4, h5⟩, hnX⟩ := W
  obtain ⟨oc, od, kV, doc, pm, an, cdv, ct, osl, rfl, lkf, hcd⟩ := h1.ex
  have KX : K.In s.heap := e0.mod.kin.keeps fun b o e => (e0.bs b o e).1
  have lim : s.heap.NoLimit := e0.mod.nolimit.keeps fun b o e => (e0.bs b o e).1
  have hb := h3 s [.ref a] KX rfl
  have hkind : ∀ y ∈ (["e"] : List Str).zip [Value.ref a], (defScope st).names.lookup y.1 = some .local ∨ ((defScope st).names.lookup y.1 = some .cell ∧ ((cellsFrom (s.heap.objs.size + 1) (defScope st).names []).lookup y.1).isSome = true) := fun ⟨n, v⟩ hy => by
    rcases h2.par n (List.of_mem_zip hy).1 with q | q
    · exact .inl q
    · exact .inr ⟨q, PySem.W.cellsFrom_some _ _ _ (.inl q)⟩
  refine codeAny_call_function hr.depth (KX _ _ lkf) rfl h2.co h2.gen rfl (PySem.W.codeRec_of KX hcd) (hb _ _ _ _ ?_)
  refine wpAny_newFunctionEnv_cells h2.kind hkind fun env he s1 x => ?_
  subst he
  refine ⟨lim.keeps x.toInCall.keep, codeAny_func ?_⟩
  have I : Inv (cxH CX P w K mg base N "_law_refusal" (defScope st) gr cdv A outer s H E (a, oe)) [] (L2.start N [.ref a]) H s1 := inv_startH h2 hpin e0 rfl (.cons rfl .nil) x
  -- the reading
  have hLL : L = { L with xn := none } := by cases L; cases hx; rfl
  have GH : GoodH Γ { L with xn := some (a, c, dd) } N (defScope st) (stC (defScope st) (defScope st)) (cxH CX P w K mg base N "_law_refusal" (defScope st) gr cdv A outer s H E (a, oe)) :=
    ⟨rfl, h2.nd, rfl, fun x _ => .inl rfl, lk.reX hx hg, by have := hr.un; show A.units + 3 + 65 < cLine; omega, fun a' c' dd' z => by
      cases (Option.some.inj z)
      exact ⟨oe, List.mem_singleton.mpr rfl, hz, hf⟩⟩
  have hps := sndSs (k := 0) (E := fun _ _ _ => False) (cf := fun _ _ _ => .err) (hot := true) (tl := false) F (defScope st) _ (defBody st) GH (fun z => nomatch z) (fun z => nomatch z) (passes_of rfl) h2.kind h4
  have ht : tSs Γ (fun _ _ _ => .err) K { L with xn := some (a, c, dd) } (fun _ _ _ => False) F { nx := fun _ H' => Q .non H', rt := Q } (L2.start N [.ref a]) H := by
    obtain ⟨HF0, knh, k1, k2, k3, k4⟩ : ∃ HF0 : Hp, (∀ a ps, HF0 a ≠ some (.tbl ps)) ∧ (∀ a o, S.HF a = some o → HF0 a = some o) ∧ (∀ b o, H b = some o → NoTbl o → S.HF b = none → HF0 b = none) ∧ (∀ a o, HF0 a = some o → H a = some o) ∧
        ∃ vs, ((as = [] ∧ dd = none) ∨ ∃ x, dd = some x ∧ HF0 x = some (.xd ((L.T.xf c).zip vs)) ∧ (L.T.xf c).length = as.length) ∧ Reps K L S as vs := by
      rcases hex with ⟨z1, z2⟩ | ⟨x, vs, z1, z2, z3, z4⟩
      · exact ⟨S.HF, sr.nh, fun _ _ h => h, fun _ _ _ _ h => h, sr.sub, [], .inl ⟨z1, z2⟩, by rw [z1]; exact .nil⟩
      · refine ⟨upd S.HF x (.xd ((L.T.xf c).zip vs)), nh_upd sr.nh (fun _ z => nomatch z), fun b o e => ?_, fun b o e nt z => ?_, fun b o e => ?_, vs, .inr ⟨x, z1, upd_same, z4⟩, z3⟩
        · by_cases hb : b = x
          · subst hb
            have := sr.sub b o e
            rw [z2] at this
            rw [upd_same]
            exact this
          · rw [upd_ne hb]; exact e
        · rw [upd_ne (fun y => by rw [y, z2] at e; cases e; exact nt.2 _ rfl)]
          exact z
        · by_cases hb : b = x
          · subst hb
            rw [upd_same] at e
            cases e
            exact z2
          · rw [upd_ne hb] at e
            exact sr.sub b o e
    obtain ⟨vs, k5, k6⟩ := k4
    have nX := Reps.noX hx as vs k6
    have r0 : Reps K L ⟨HF0, []⟩ as vs := by
      have q1 : Reps K L ⟨HF0, [] ++ S.φ⟩ as vs := Reps.mono (S := S) (S' := ⟨HF0, S.φ⟩) ⟨k1, [], by simp⟩ _ _ k6
      exact Reps.cut as vs h0 q1
    have rX : Rep K { L with xn := some (a, c, dd) } ⟨HF0, []⟩ (.exn c as) (.ref a) := by
      rw [Rep]
      refine ⟨a, dd, vs, rfl, rfl, k5, ?_⟩
      rw [hLL] at r0
      exact Reps.reX as vs nX r0
    have sr0 : SR K { L with xn := some (a, c, dd) } ⟨HF0, []⟩ [] H := ⟨k3, rfl, .nil, fun a h => absurd h (by simp), fun n o a h => absurd h (by simp), fun n o a h => absurd h (by simp), sr.tb, fun a h => absurd h (by simp), knh⟩
    refine ⟨⟨HF0, []⟩, [], startE N.length [.exn c as], sr0, envR_start rfl (.cons rX .nil), ?_⟩
    rw [h5 c as d hc hd]
    intro S2 H2 st2 sr2 v rv
    obtain ⟨sr3, st3⟩ := sr.frame k1 k2 st2 sr2.sub sr2.tb sr2.nh
    have e2 : S2.φ = [] := List.length_eq_zero_iff.mp sr2.len
    refine hQ _ _ st3 sr3 v ?_
    have q1 := Rep.reX (y' := none) d v (hnX c as d hd nX) rv
    rw [← hLL] at q1
    have le : Le S2 ⟨S2.HF, S.φ⟩ := ⟨fun _ _ h => h, S.φ, by show S.φ = S2.φ ++ S.φ; rw [e2]; rfl⟩
    exact q1.mono le
  refine wpAny_mono (hps.run [] s1 (L2.start N [.ref a]) H _ I ht) (fun fl s' hs => ?_) fun e s' hs => hs
  have fin : ∀ {σ' : L2.St} {H' : Hp} {v : V} {u : Value}, Inv (cxH CX P w K mg base N "_law_refusal" (defScope st) gr cdv A outer s H E (a, oe)) [] σ' H' s' → L2.RelV v u → Q v H' → L2.CE outer P w H s Q u s' :=
    fun {σ' H' v u} J rv q => ⟨v, H', J.os, J.bare, J.base, J.hok, rv, q⟩
  cases fl with
  | ret u =>
    obtain ⟨v, σ', H', J, rv, q⟩ := hs
    exact fin J rv q
  | next =>
    obtain ⟨σ', H', J, q⟩ := hs
    exact fin (v := V.non) (u := Value.none) J rfl q
  | brk =>
    obtain ⟨_, _, _, q⟩ := hs
    exact False.elim q
  | cont =>
    obtain ⟨_, _, _, q⟩ := hs
    exact False.elim q
end
end GW

set_option Elab.async false
set_option linter.all false
set_option autoImplicit false
set_option maxRecDepth 100000
set_option maxHeartbeats 8000000
/-! _law_told(lambda: e). -/
namespace GW
open PySem PySem.Spec PyProof.Rows L2 LamX L2H
section
variable {K : PySem.W.Frag} {L : Link}
theorem SR.extN {S : RS} {M : Mem} {H H1 : Hp} (sr : SR K L S M H) (eN : ExtN H H1) (T1 : Tabs L.tabs H1) : SR K L S M H1 ∧ Step S H S H1 := by
  have at_ : ∀ a ∈ S.φ, ∃ u, H a = some u ∧ H1 a = some u := fun a ha => by
    obtain ⟨u, hu⟩ := sr.al a ha
    exact ⟨u, hu, eN a u hu (sr.nt a ha u hu).1⟩
  refine ⟨⟨fun a o e => eN a o (sr.sub a o e) (fun ps z => sr.nh a ps (by rw [e, z])), sr.len, sr.nd, fun a ha => ?_, fun n o a h1 h2 => ?_, sr.fr, T1, fun a ha u e => ?_, sr.nh⟩, .refl S, fun b o e n w => ⟨eN b o e w.1, n⟩, fun _ _ _ _ _ h => h⟩
  · obtain ⟨u, _, e⟩ := at_ a ha
    exact ⟨u, e⟩
  · obtain ⟨u, e1, e2⟩ := at_ a (List.mem_of_getElem? h2)
    rw [e2, ← e1]
    exact sr.rp n o a h1 h2
  · obtain ⟨u1, e1, e2⟩ := at_ a ha
    rw [e2] at e
    cases e
    exact sr.nt a ha u e1
end
/-- the text of _law_told -/
def toldB : List Stmt → Bool
  | [.Try [.Return (some (.Tuple [.Constant (.str s) _ _, .Call (.Name c _) [] [] _] _ _)) _] [.ExceptHandler (some (.Name x _)) (some e) [.Return (some (.Call (.Name r _) [.Name e2 _] [] _)) _] _] [] [] _] =>
    decide (s = ("told" : Str)) && decide (c = ("call" : Str)) && decide (x = ("ClimateError" : Str)) && decide (e = ("e" : Str)) && decide (e2 = ("e" : Str)) && decide (r = ("_law_refusal" : Str))
  | _ => false
/-- what the written part says of _law_told -/
structure TdW (Γ : Prog) (K : PySem.W.Frag) (mg : Str → Option Value) (L : Link) : Prop where
  td : ∃ (ga : Addr) (st : Stmt) (fd : FuncData) (N : List Str) (i : Nat), Fun K "_law_told" "_law_told" st ga fd ∧ FnScope N ["call"] (defScope st) ∧ Binds K fd ["call"] [] ∧ mg "_law_told" = some (.ref ga) ∧ toldB (defBody st) = true ∧ N[i]? = some "e" ∧ i ≠ 0 ∧
    (defScope st).names.lookup ("call" : Str) = some .local ∧ (defScope st).names.lookup ("e" : Str) = some .local ∧ (defScope st).names.lookup ("ClimateError" : Str) = some .globalImplicit ∧ (defScope st).names.lookup ("_law_refusal" : Str) = some .globalImplicit
  rf : ∃ gr : Addr, mg "_law_refusal" = some (.ref gr) ∧ PySem.W.keepIn K (.ref gr) = true ∧ RfW Γ K L gr
  ce : ∃ c : Addr, mg "ClimateError" = some (.ref c) ∧ ∀ k, Γ.xcl k = true → PySem.W.exmOne K (.ref (L.ca k)) (.ref c) = some true
  gx : ∀ g d, Γ.glb g = some d → GW.noX d = true
section
variable {X : Cx} {Γ : Prog} {L : Link} {cf : Calls} {k : Nat} {E : XK} {N : List Str} {sc : Scope} {st : Str → Bool} {ce : CE} {pos : Pos}
/-- what the suite asks -/
def tRf (Γ : Prog) (K : PySem.W.Frag) (L : Link) (i : Nat) (a : Addr) (cls : Value) (d : Option Addr) : TE := fun σ H Q => ∃ S M c as dr, cls = .ref (L.ca c) ∧ SR K L S M H ∧ ExcRep K L S c as d H ∧ Γ.xcl c = true ∧ closedL 0 as = true ∧ Γ.rfd c as = some dr ∧ (i < σ.length → σ[i]? = some (some (.ref a))) ∧
  ∀ S' H', Step S H S' H' → SR K L S' M H' → ∀ v, Rep K L S' dr v → Q v H'
theorem pe_rf {Z : Cx} {i : Nat} {a gr : Addr} {oe : Obj} {cls : Value} {d : Option Addr} {pn : List (Addr × Obj)} {p7 p8 p9 : Pos} (W : RfW Γ Z.K L gr) (lk : LinkOk Γ Z.K L Z.mg) (hx : L.xn = none) (hgx : ∀ g d, Γ.glb g = some d → GW.noX d = true) (hr : RoomH 1 Z.A) (hg : Z.env.kindOf "_law_refusal" = some .globalImplicit) (hm : Z.mg "_law_refusal" = some (.ref gr)) (hk : PySem.W.keepIn Z.K (.ref gr) = true)
    (hN : Z.N[i]? = some "e") (hv : Vis Z.env.scope "e") (hz : Zc cls d oe) (hf : ∃ vs, oe.data = .fields vs) : PE (Z.suite a ((a, oe) :: pn)) (.Call (.Name "_law_refusal" p7) [.Name "e" p8] [] p9) (tRf Γ Z.K L i a cls d) := by
  refine ⟨fun pins s σ H Q I h => ?_⟩
  obtain ⟨S, M, c, as, dr, rfl, sr, hex, hc, h0, hd, hs, hQ⟩ := h
  refine wpAny_Call_Name_kw (ld_glob I hg hm ?_ (by decide))
  have hil : i < σ.length := by
    have h1 : σ.length = Z.N.length := I.len
    rw [h1]
    exact (List.getElem?_eq_some_iff.mp hN).1
  replace hs := hs hil
  have hA : PA (Z.suite a ((a, oe) :: pn)) [.Name "e" p8] (tCons (tVar i) tNil) := pa_cons (pe_var hN hv (by decide) (by decide)) pa_nil
  refine PySem.W.callWith_K (h₀ := Z.base) I.ok.mod.kin hk (thn (hA.run p9 pins s σ H (fun vs H1 => vs = [.ref a] ∧ H1 = H) I ⟨_, hs, rfl, rfl⟩) fun us s1 ⟨vs, H1, I1, r, ev, eH⟩ => ⟨I1.kIn, ?_⟩) rfl rfl
  subst ev eH
  obtain ⟨u, rfl, ru⟩ := r.one
  obtain rfl : u = Value.ref a := ru
  have P1 := I1.pin (a, oe) (List.mem_append_left _ List.mem_cons_self)
  have hpin : PinOk Z.stack H1 s1 (a, oe) := ⟨P1.1, P1.2.1, fun hm => (List.mem_cons.mp (I1.stkSub _ hm)).elim P1.2.2.1 P1.2.2.2.1, P1.2.2.2.2⟩
  refine wpAny_call (codeAny_mono (refusal_run (CX := fun _ _ _ _ _ _ => False) (E := fun _ _ _ => False) (Q := Q) W lk hx hgx (A := (Z.suite a ((a, oe) :: pn)).A) ⟨hr.dp, hr.un⟩ hpin I1.env0 hz hf sr hc h0 hd hex hQ) fun r s' hq => ?_)
  cases r with
  | error e => exact False.elim hq
  | ok fl =>
    cases fl with
    | ret u => exact I1.after hq
    | next => exact False.elim hq
    | brk => exact False.elim hq
    | cont => exact False.elim hq
theorem toldB_ok {b : List Stmt} (h : toldB b = true) : ∃ (k1 k2 : Nat) (p1 p2 p3 p4 p5 p6 p7 p8 p9 p10 p11 p12 : Pos), b = [.Try [.Return (some (.Tuple [.Constant (.str "told") k1 p1, .Call (.Name "call" p2) [] [] p3] k2 p4)) p5] [.ExceptHandler (some (.Name "ClimateError" p6)) (some "e") [.Return (some (.Call (.Name "_law_refusal" p7) [.Name "e" p8] [] p9)) p10] p11] [] [] p12] := by
  unfold toldB at h
  split at h
  · simp only [Bool.and_eq_true, decide_eq_true_eq] at h
    obtain ⟨⟨⟨⟨⟨rfl, rfl⟩, rfl⟩, rfl⟩, rfl⟩, rfl⟩ := h
    exact ⟨_, _, _, _, _, _, _, _, _, _, _, _, _, _, rfl⟩
  · cases h
/-- what a maker of lambdas is -/
structure MkL (L : Link) (X : Cx) : Prop where
  ex : ∃ c P : Addr, X.env.code = .ref c ∧ TabB X.base X.mg c P ∧ (P, X.env.qual ++ "<lambda>") ∈ L.tabs ∧ ∀ p ∈ L.tabs, p.1 = P → p.2 = X.env.qual ++ "<lambda>"
theorem s_told (G : Good Γ L cf k E N sc st X) (T : TdW Γ X.K X.mg L) (ML : MkL L X) (r3 : Room (k + 4) X.A) {params : Arguments} {bs : List (Str × Int)} {body : Expr} {scope : Scope} {p lpos : Pos} (hgt : Gl X "_law_told") (hpar : lamP params = some bs) (LQ : LamQ X.N X.env.scope scope bs)
    (hbody : ∀ (A : Around) (outer : List PySem.Env) (s : Shared) (H : Hp) (E : XK) (f c' : Addr), A.guards = some [] → Room (k + 1) (A.deeper (lamEnv X scope s.heap.objs.size f c')) → PE (lamCx X A outer s H E scope f c') body (tI Γ cf X.K L E ce)) :
    PE X (.Call (.Name "_law_told" p) [.Lambda params body scope lpos] [] pos) (tI Γ cf X.K L E (.told ce)) := by
  obtain ⟨⟨ga, stm, fd, Nt, i, F, FS, hb, hm, hB, hNi, hi0, hsc, hse, hsx, hsr⟩, ⟨gr, hmr, hkr, RW⟩, ⟨cx, hmx, hex⟩, hgx⟩ := T
  obtain ⟨c0, P0, hcode, TB, hmT, hu⟩ := ML.ex
  obtain ⟨oc, od, kV, doc0, pm0, an, cdv, ct, osl, rfl, lkf, hcd⟩ := F.ex
  obtain ⟨k1, k2, p1, p2, p3, p4, p5, p6, p7, p8, p9, p10, p11, p12, hbd⟩ := toldB_ok hB
  refine ⟨fun pins s σ H Q I h => ?_⟩
  obtain ⟨S, M, ρ, sr, er, h⟩ := h
  rw [evE] at h
  refine wpAny_Call_Name_kw (ld_glob I hgt hm ?_ (by decide))
  refine PySem.W.callWith_K (h₀ := X.base) I.ok.mod.kin F.kp ?_ (by rfl) (by rfl)
  show wpAny _ _ (spliced ((false, eval (.Lambda params body scope lpos) X.env) :: backTo pos (starEach [] X.env))) _ _ s
  refine Calls.spliced_cons (lam_make I TB hcode hmT hu sr.tb hpar (LQ.has I.ok) fun f c' dV doc pm ctv H1 s' I1 eN T1 hdf hf hfn hfr hco => ?_)
  refine Calls.spliced_nil ⟨I1.kIn, ?_⟩
  obtain ⟨sr1, st1⟩ := sr.extN eN T1
  have rc : codeAny (model X.prog X.w) X.A (.call (.ref ga) ⟨[.ref f], []⟩) (CR (fun _ _ _ _ _ _ => False) X.stack X.prog X.w H1 s' Q (fun _ _ _ => False)) s' := by
    refine run_ofS (k := k + 3) (N := Nt) (ps := ["call"]) (us := [.ref f]) (vs := [.ref f]) lkf hcd FS r3 I1.env0 (hb s' [.ref f] I1.kIn rfl) (.cons rfl .nil) rfl fun hr' => ?_
    refine ⟨fun D σZ HZ => ∃ Ech : XK, (∀ cls d σ' H', Ech cls d H' → wAs X.K (.ref cx) i (fun a cls d D σ H => tRf Γ X.K L i a cls d σ H D.rt) (fun _ _ _ _ => False) D cls d σ' H') ∧ σZ[0]? = some (some (.ref f)) ∧ HZ c' = some (CodeO c' (X.env.qual ++ "<lambda>")) ∧ tTup (tCons (tC (.str "told")) (tCons (fun _ H Q => tI Γ cf X.K L Ech ce σ H Q) tNil)) σZ HZ D.rt, ?_, ?_⟩
    · rw [hbd]
      refine PSs.nox (pss_one (ps_try_as (X := (cxOf (fun _ _ _ _ _ _ => False) X.prog X.w X.K X.mg X.base Nt "_law_told" (defScope stm) ga cdv X.A X.stack s' H1 (fun _ _ _ => False)).nox) (c := .ref cx) (i := i) (ts := fun a cls d D σ H => tRf Γ X.K L i a cls d σ H D.rt) (Wout := fun _ _ _ _ => False)
        (tb := fun W D σZ HZ => ∃ Ech : XK, (∀ cls d σ' H', Ech cls d H' → W cls d σ' H') ∧ σZ[0]? = some (some (.ref f)) ∧ HZ c' = some (CodeO c' (X.env.qual ++ "<lambda>")) ∧ tTup (tCons (tC (.str "told")) (tCons (fun _ H Q => tI Γ cf X.K L Ech ce σ H Q) tNil)) σZ HZ D.rt)
        rfl rfl FS.nd hNi hse ⟨hsx, by decide, .inl hmx⟩ LamX.takes0 (fun W pn xe tk _ => ⟨fun pinsZ sZ σZ HZ D IZ h' => ?_⟩) (fun a oe cls d pn hz hf => ?_)))
      · obtain ⟨Ech, hW, a1, a2, a3⟩ := h'
        have act := lam_act (CXg := fun _ _ _ _ _ _ => False) (Eg := fun _ _ _ => False) (Ng := Nt) (qg := "_law_told") (sg := defScope stm) (g := ga) (cdg := cdv) (i := 0) (a := "call") (pn := pn) (xe := xe) (W := W) (E := Ech) (tb := tI Γ cf X.K L Ech ce) (p1 := p2) (p2 := p3) (k := k + 1) I1 hpar LQ hdf hf hfn hfr G.gd tk hW (hr'.mono (by omega)) (fun A outer s H hg2 hr2 => hbody A outer s H Ech f c' hg2 hr2) (by
          have := FS.pre
          have h2 : Nt.take 1 = [("call" : Str)] := this
          cases Nt with
          | nil => cases h2
          | cons z zs => simp at h2; rw [h2]; rfl) (.inl hsc) (by decide) (by decide)
        have hps : PSs _ [.Return (some (.Tuple [.Constant (.str "told") k1 p1, .Call (.Name "call" p2) [] [] p3] k2 p4)) p5] _ := pss_one (ps_ret (pos := p5) (pe_tup (pos := p4) (pa_cons (pe_str (x := "told") (j := k1) (pos := p1)) (pa_cons act pa_nil))))
        exact hps.run pinsZ sZ σZ HZ D IZ ⟨a1, a2, a3⟩
      · exact pss_one (ps_ret (pe_rf (Z := (cxOf (fun _ _ _ _ _ _ => False) X.prog X.w X.K X.mg X.base Nt "_law_told" (defScope stm) ga cdv X.A X.stack s' H1 (fun _ _ _ => False)).nox) RW G.lk G.nx hgx (roomH_of (hr'.mono (show 1 ≤ k + 3 by omega))) hsr hmr hkr hNi (.inl hse) hz hf))
    · refine ⟨fun cls d H' => ∃ S' M' c as dr, cls = .ref (L.ca c) ∧ SR X.K L S' M' H' ∧ ExcRep X.K L S' c as d H' ∧ Γ.xcl c = true ∧ closedL 0 as = true ∧ Γ.rfd c as = some dr ∧ ∀ S2 H2, Step S' H' S2 H2 → SR X.K L S2 M' H2 → ∀ v, Rep X.K L S2 dr v → Q v H2, ?_, rfl, hco, ?_⟩
      · rintro cls d σ' H' ⟨S', M', c, as, dr, rfl, q1, q2, q3, q4, q5, q6⟩
        exact ⟨true, hex c q3, fun _ a ha => ⟨S', M', c, as, dr, rfl, q1, q2, q3, q4, q5, fun hl => List.getElem?_set_self (by simpa using hl), q6⟩, fun z => nomatch z⟩
      · show tI Γ cf X.K L _ ce σ H1 _
        refine ⟨S, M, ρ, sr1, er, ?_⟩
        cases e1 : evE Γ cf ce ρ M with
        | err => rw [e1] at h; exact (show False from h).elim
        | ok d M1 =>
          rw [e1] at h
          intro S2 H2 st2 sr2 v rv
          refine ⟨by show 2 ≤ sizeLine; rw [sizeLine_eq]; decide, fun q hq => ?_⟩
          obtain ⟨sr3, st3⟩ := sr2.newF (o := .tup [.str "told", v]) hq
          exact h _ _ (st1.trans (st2.trans st3)) sr3 _ (rep_tup st3.le upd_same (.cons (rep_str (by decide)) (.cons rv .nil)))
        | exc c as M1 =>
          rw [e1] at h
          dsimp only at h
          by_cases hz : (Γ.xcl c && closedL 0 as) = true
          case neg => rw [if_neg hz] at h; exact (show False from h).elim
          rw [if_pos hz] at h
          rw [Bool.and_eq_true] at hz
          intro S2 H2 dd st2 sr2 hx2
          cases e2 : Γ.rfd c as with
          | none => rw [e2] at h; exact (show False from h).elim
          | some dr =>
            rw [e2] at h
            exact ⟨S2, M1, c, as, dr, rfl, sr2, hx2, hz.1, hz.2, e2, fun S3 H3 st3 sr3 v rv => h S3 H3 (st1.trans (st2.trans st3)) sr3 v rv⟩
  refine wpAny_call (codeAny_mono rc fun r s2 hq => ?_)
  cases r with
  | error e => exact (show False from hq).elim
  | ok fl =>
    cases fl with
    | ret u => exact I1.after hq
    | next => exact False.elim hq
    | brk => exact False.elim hq
    | cont => exact False.elim hq
end
end GW

set_option Elab.async false
set_option linter.all false
set_option autoImplicit false
set_option maxRecDepth 100000
set_option maxHeartbeats 8000000
/-! A def whose text the checker passes keeps what the core says. -/
namespace GW
open PySem PySem.Spec PyProof.Rows L2 RZ LamX
/-- a def of the text and its core; tl: lambdas stand in it; cs: code objects and their tables -/
structure DefOk (Γ : Prog) (K : PySem.W.Frag) (L : Link) (cs : List (Addr × Addr)) (f : Nat) (F : FD) : Prop where
  ex : ∃ (x qual : Str) (st : Stmt) (fd : FuncData) (N ps : List Str) (tl : Bool), Fun K x qual st (L.fa f) fd ∧ FnScope N ps (defScope st) ∧ Binds K fd ps [] ∧ ps.length = F.ar ∧ N.length = F.nn ∧ chkSs Γ L.T N false tl F.body (defScope st) (defBody st) = true ∧
    (tl = true → ∃ c P : Addr, (c, P) ∈ cs ∧ fd.code = .ref c ∧ (P, (qual ++ ".<locals>.") ++ "<lambda>") ∈ L.tabs ∧ ∀ p ∈ L.tabs, p.1 = P → p.2 = (qual ++ ".<locals>.") ++ "<lambda>")
structure Wd (Γ : Prog) (P : Program) (K : PySem.W.Frag) (mg : Str → Option Value) (L : Link) (cs : List (Addr × Addr)) : Prop where
  lk : LinkOk Γ K L mg
  xn : L.xn = none
  exc : ∀ c, Γ.xcl c = true → ∃ fI, InitK P K (L.ca c) fI (L.T.xf c) ∧ mg (L.T.cl c) = some (.ref (L.ca c))
  td : (∃ p, p ∈ cs) → TdW Γ K mg L
  defs : ∀ f F, Γ.fn f = some F → DefOk Γ K L cs f F
section
variable {Γ : Prog} {P : Program} {w : World} {K : PySem.W.Frag} {mg : Str → Option Value} {base : Heap} {L : Link} {cs : List (Addr × Addr)}
theorem fun_ok (W : Wd Γ P K mg L cs) (hB : ∀ p ∈ cs, TabB base mg p.1 p.2) : ∀ (n f : Nat) (F : FD), Γ.fn f = some F → ∃ fd ps, ps.length = F.ar ∧ FnG P w K mg base (L2.CX P w) (5 * n) (L.fa f) fd ps (spI K L (callF Γ n) f F.ar) ∧ Binds K fd ps [] ∧ PySem.W.keepIn K (.ref (L.fa f)) = true
  | 0, f, F, hF => by
    obtain ⟨x, qual, st, fd, N, ps, tl, h1, h2, h3, h4, h5, h6, h7⟩ := (W.defs f F hF).ex
    refine ⟨fd, ps, h4, ⟨fun vs H Q E h => by rw [h4]; exact h.1, fun A outer s H args us vs Q E _ _ _ _ _ h => ?_⟩, h3, h1.kp⟩
    obtain ⟨_, S, M, ds, _, _, h⟩ := h
    exact (show False from h).elim
  | n + 1, f, F, hF => by
    obtain ⟨x, qual, st, fd, N, ps, tl, h1, h2, h3, h4, h5, h6, h7⟩ := (W.defs f F hF).ex
    refine ⟨fd, ps, h4, ?_, h3, h1.kp⟩
    have e : 5 * (n + 1) = (5 * n + 4) + 1 := by omega
    rw [e]
    obtain ⟨oc, od, kV, doc, pm, an, cdv, ct, osl, rfl, lkf, hcd⟩ := h1.ex
    refine fnG_of lkf hcd h2 (fun vs H Q E h => by rw [h4]; exact h.1) fun A outer s H vs Q E hG hr h => ?_
    have G : Good Γ L (callF Γ n) (5 * n) E N (defScope st) (stC (defScope st) (defScope st)) (cxOf (L2.CX P w) P w K mg base N qual (defScope st) (L.fa f) cdv A outer s H E) :=
      ⟨⟨rfl, h2.nd, rfl, fun x _ => .inl rfl, W.lk, by have := hr.un; show (A.deeper (envOfC qual (defScope st) s.heap.objs.size (L.fa f) cdv)).units + 65 < cLine; omega, fun a c dd z => by rw [W.xn] at z; cases z⟩, W.xn, rfl, hr.mono (by omega), hG, takes_of rfl rfl rfl rfl, fun f F ds M e1 e2 => callF_ar e1 e2, fun f ds M e1 => callF_no e1, W.exc, fun f F e1 => fun_ok W hB n f F e1⟩
    have R : tl = true → ToldRule Γ (callF Γ n) L (5 * n) (cxOf (L2.CX P w) P w K mg base N qual (defScope st) (L.fa f) cdv A outer s H E) := fun htl => by
      obtain ⟨c, PP, m1, m2, m3, m4⟩ := h7 htl
      intro E2 ce params bs body scope p lpos pos G2 hgt hpar LQ hbody
      exact s_told G2 (W.td ⟨_, m1⟩) ⟨⟨c, PP, m2, hB _ m1, m3, m4⟩⟩ hr hgt hpar LQ hbody
    refine ⟨tSs Γ (callF Γ n) K L E F.body, sndSs F.body (defScope st) _ _ G.toGoodH (fun _ => G) R (passes_of rfl) h2.kind h6, ?_⟩
    obtain ⟨hl, S, M, ds, sr, r, h⟩ := h
    have hdl := r.length
    refine ⟨S, M, startE F.nn ds, sr, envR_start h5 r, ?_⟩
    unfold callF at h
    rw [hF] at h
    dsimp only at h
    by_cases hz : ds.length = F.ar ∧ F.ar ≤ F.nn
    case neg => rw [if_neg hz] at h; exact (show False from h).elim
    rw [if_pos hz] at h
    cases e1 : exSs Γ (callF Γ n) F.body (startE F.nn ds) M with
    | err => rw [e1] at h; exact (show False from h).elim
    | exc c as M1 =>
      rw [e1] at h
      dsimp only at h
      intro S' H' dd st' sr' x
      by_cases hc : Shrinks M as M1
      · have e : shrink M as M1 = M1.take M.length := by unfold shrink; rw [if_pos hc]
        rw [e] at h
        obtain ⟨q1, q2, q3⟩ := sr.cut st' sr' hc
        refine h _ _ dd q2 q1 ?_
        rcases x with x | ⟨p, vs, x1, x2, x3, x4⟩
        · exact .inl x
        · exact .inr ⟨p, vs, x1, x2, q3 vs x3, x4⟩
      · have e : shrink M as M1 = M1 := by unfold shrink; rw [if_neg hc]
        rw [e] at h
        exact h S' H' dd st' sr' x
    | ok fl M1 =>
      rw [e1] at h
      cases fl with
      | bk ρ => exact (show False from h).elim
      | rt d =>
        have h := fin_cut sr h
        exact fun S' H' st' sr' v rv => h S' H' st' sr' v rv
      | nx ρ =>
        have h : Fin K L S H E (.ok .non (shrink M [] M1)) (fun d _ S' H' => ∀ v, Rep K L S' d v → Q v H') := h
        intro S' H' st' sr' σ' er'
        by_cases hc : Shrinks M [] M1
        · have e : shrink M [] M1 = M1.take M.length := by unfold shrink; rw [if_pos hc]
          rw [e] at h
          obtain ⟨q1, q2, q3⟩ := sr.cut st' sr' hc
          exact h _ _ q2 q1 .non (by rw [Rep])
        · have e : shrink M [] M1 = M1 := by unfold shrink; rw [if_neg hc]
          rw [e] at h
          exact h S' H' st' sr' .non (by rw [Rep])
end
end GW

set_option Elab.async false
set_option linter.all false
set_option autoImplicit false
set_option maxRecDepth 100000
set_option maxHeartbeats 4000000
/-! What the written part says of a law's names, as one test. -/
namespace GW
open PySem PySem.Spec PyProof.Rows L2
open PySem.W (Frag nsIn findIn keepIn plainGet hasDictIn plainOver specialIn takesIn mroIn kitOne notFirst isFn makesIn subIn clsIn typeIn)
/-- names, all different -/
def nmOf (l : List Str) (i : Nat) : Str := (l[i]?).getD ⟨#[1114112 + i]⟩
theorem nmOf_inj {l : List Str} (hn : l.Nodup) (hv : (l.all fun x => x.cps.all (· < 1114112)) = true) : ∀ i j, nmOf l i = nmOf l j → i = j := by
  intro i j h
  have big : ∀ (i : Nat) (x : Str), x ∈ l → x ≠ ⟨#[1114112 + i]⟩ := fun i x hx e => by
    have := List.all_eq_true.mp hv x hx
    rw [e] at this
    simp at this
    omega
  unfold nmOf at h
  cases hi : l[i]? with
  | none =>
    cases hj : l[j]? with
    | none =>
      rw [hi, hj] at h
      simp at h
      exact h
    | some y =>
      rw [hi, hj] at h
      exact absurd h.symm (big i y (List.mem_of_getElem? hj))
  | some x =>
    cases hj : l[j]? with
    | none =>
      rw [hi, hj] at h
      exact absurd h (big j x (List.mem_of_getElem? hi))
    | some y =>
      rw [hi, hj] at h
      simp only [Option.getD_some] at h
      subst h
      obtain ⟨h1, e1⟩ := List.getElem?_eq_some_iff.mp hi
      obtain ⟨h2, e2⟩ := List.getElem?_eq_some_iff.mp hj
      exact (List.getElem_inj hn).mp (e1.trans e2.symm)
/-- what is listed -/
structure Lst where
  fns : List Nat
  owns : List Nat
  xs : List Nat
  flds : List (Nat × Nat)
  mths : List (Nat × Nat × Nat)
  inits : List (Nat × Nat)
section
variable (Γ : Prog) (T : Tbl) (fa ca : Nat → Addr) (Z : Lst) (K : Frag)
def fnB (f : Nat) : Bool := (nsIn K mainGlobals (T.fn f) == some (some (.ref (fa f)))) && keepIn K (.ref (fa f))
def ownB (c : Nat) : Bool :=
  plainGet K (ca c) Str.empty && (hasDictIn K (ca c) && (plainOver K (ca c) && ((findIn K (.ref (ca c)) "__setattr__" == some (some (.builtin "object.__setattr__"))) && ((findIn K (.ref (ca c)) "__class__" == some (some (.builtin "object.__class__"))) &&
  ((specialIn K (.builtin "object.__class__") "__get__" == some (some (.builtin "getset_descriptor.__get__"))) && ((takesIn K (.builtin "object.__class__") == some true) && ((mroIn K (ca c) (.type "object") == some true) &&
  ((tyNames.all fun t => (kitOne K (.type t) (.ref (ca c)) == some false) && (kitOne K (.ref (ca c)) (.type t) == some false)) && ((Z.owns.all fun d => (kitOne K (.ref (ca c)) (.ref (ca d)) == some (decide (d = c))) && notFirst K (ca c) (.ref (ca d))) &&
  (notFirst K (ca c) (.type "tuple") && (nsIn K mainGlobals (T.cl c) == some (some (.ref (ca c))))))))))))))
def mthB (p : Nat × Nat × Nat) : Bool := (findIn K (.ref (ca p.1)) (T.nm p.2.1) == some (some (.ref (fa p.2.2)))) && (isFn K (.ref (fa p.2.2)) && keepIn K (.ref (fa p.2.2)))
def iniB (p : Nat × Nat) : Bool := makesIn K (ca p.1) && ((findIn K (.ref (ca p.1)) "__init__" == some (some (.ref (fa p.2)))) && (isFn K (.ref (fa p.2)) && keepIn K (.ref (ca p.1))))
def excB (c : Nat) : Bool :=
  (findIn K (.ref (ca c)) "__getattribute__" == some (some (.builtin "BaseException.__getattribute__"))) && ((findIn K (.ref (ca c)) "__getattr__" == some none) && ((subIn K (.ref (ca c)) (.type "BaseException") == some true) && (hasDictIn K (ca c) &&
  ((clsIn K (ca c)).isSome && ((findIn K (.ref (ca c)) "__class__" == some (some (.builtin "object.__class__"))) && ((specialIn K (.builtin "object.__class__") "__get__" == some (some (.builtin "getset_descriptor.__get__"))) &&
  ((takesIn K (.builtin "object.__class__") == some true) && ((mroIn K (ca c) (.type "object") == some true) && ((nsIn K mainGlobals (T.cl c) == some (some (.ref (ca c)))) && ((kitOne K (.ref (ca c)) (.type "ValueError") == some true) &&
  (decide ((Γ.xfl c).map T.nm = T.xf c) && (((Γ.xfl c).all fun f => findIn K (.ref (ca c)) (T.nm f) == some none) && (Z.xs.all fun d => kitOne K (.ref (ca c)) (.ref (ca d)) == some (decide (d = c)))))))))))))))
def lnkB : Bool :=
  Z.fns.all (fnB T fa K) && (Z.owns.all (ownB T ca Z K) && ((Z.flds.all fun p => findIn K (.ref (ca p.1)) (T.nm p.2) == some none) && (Z.mths.all (mthB T fa ca K) && (Z.inits.all (iniB fa ca K) && (Z.xs.all (excB Γ T ca Z K) && (bltNames.all fun x => nsIn K mainGlobals x == some none))))))
end
/-- the lists hold all that the program names -/
structure LstOk (Γ : Prog) (Z : Lst) : Prop where
  fns : ∀ f, Γ.glf f = true → f ∈ Z.fns
  owns : ∀ c x, Γ.cls c = some x → c ∈ Z.owns
  isO : ∀ c ∈ Z.owns, (Γ.cls c).isSome = true
  xs : ∀ c, Γ.xcl c = true → c ∈ Z.xs
  flds : ∀ c f, Γ.fld c f = true → (c, f) ∈ Z.flds ∧ c ∈ Z.owns
  mths : ∀ c m f, Γ.mth c m = some f → (c, m, f) ∈ Z.mths ∧ c ∈ Z.owns
  inits : ∀ c f z, Γ.cls c = some (f, z) → (c, f) ∈ Z.inits
theorem lk_of {Γ : Prog} {T : Tbl} {fa ca : Nat → Addr} {Z : Lst} {K : Frag} {h : Heap} {mg : Str → Option Value} {tabs : List (Addr × Str)} (X : K.In h) (G : h.Ns mainGlobals mg) (inj : ∀ f g, T.nm f = T.nm g → f = g) (O : LstOk Γ Z) (hb : lnkB Γ T fa ca Z K = true)
    (glb : ∀ g d, Γ.glb g = some d → ∃ v u, mg (T.gl g) = some u ∧ RelV v u ∧ ∀ S, Rep K ⟨T, fa, ca, tabs, none⟩ S d v) : LinkOk Γ K ⟨T, fa, ca, tabs, none⟩ mg := by
  unfold lnkB at hb
  simp only [Bool.and_eq_true, List.all_eq_true, beq_iff_eq] at hb
  obtain ⟨b1, b2, b3, b4, b5, b6, b7⟩ := hb
  have own : ∀ c x, Γ.cls c = some x → _ := fun c x e => b2 c (O.owns c x e)
  simp only [ownB, Bool.and_eq_true, List.all_eq_true, beq_iff_eq] at own
  have exc : ∀ c, Γ.xcl c = true → _ := fun c e => b6 c (O.xs c e)
  simp only [excB, Bool.and_eq_true, List.all_eq_true, beq_iff_eq, decide_eq_true_eq] at exc
  refine ⟨inj, fun c x e => ?_, fun c f e => ?_, fun c x e => ?_, fun c x t e ht => ?_, fun c x t e ht => ?_, fun c x c' x' e e' => ?_, fun c m f e => ?_, fun c f z e => ?_, fun c e => ?_, fun c c' e e' => ?_, fun f e => ?_, fun c x e => ?_, fun c x c' x' e e' => ?_, fun c x e => ?_, glb, fun x hx => PySem.W.mg_none_of X G (b7 x hx)⟩
  · obtain ⟨a1, a2, a3, a4, _⟩ := own c x e
    exact ⟨a1, a2, a3, a4⟩
  · obtain ⟨h1, h2⟩ := O.flds c f e
    exact ⟨O.isO c h2, b3 _ h1⟩
  · obtain ⟨_, _, _, _, a5, a6, a7, a8, _⟩ := own c x e
    exact ⟨a5, a6, a7, a8⟩
  · obtain ⟨_, _, _, _, _, _, _, _, a9, _⟩ := own c x e
    exact (a9 t ht).1
  · obtain ⟨_, _, _, _, _, _, _, _, a9, _⟩ := own c x e
    exact (a9 t ht).2
  · obtain ⟨_, _, _, _, _, _, _, _, _, a10, _⟩ := own c x e
    exact (a10 c' (O.owns c' x' e')).1
  · obtain ⟨h1, h2⟩ := O.mths c m f e
    have := b4 _ h1
    simp only [mthB, Bool.and_eq_true, beq_iff_eq] at this
    exact ⟨O.isO c h2, this.1, this.2.1, this.2.2⟩
  · have := b5 _ (O.inits c f z e)
    simp only [iniB, Bool.and_eq_true, beq_iff_eq] at this
    exact ⟨this.1, this.2.1, this.2.2.1, this.2.2.2⟩
  · obtain ⟨a1, a2, a3, a4, a5, a6, a7, a8, a9, a10, a11, a12, a13, a14⟩ := exc c e
    exact ⟨⟨a1, a2, a3, a4, a5, a6, a7, a8, a9⟩, PySem.W.mg_of X G a10, a11, a12, a13⟩
  · obtain ⟨a1, a2, a3, a4, a5, a6, a7, a8, a9, a10, a11, a12, a13, a14⟩ := exc c e
    exact a14 c' (O.xs c' e')
  · have := b1 _ (O.fns f e)
    simp only [fnB, Bool.and_eq_true, beq_iff_eq] at this
    exact ⟨PySem.W.mg_of X G this.1, this.2⟩
  · obtain ⟨_, _, _, _, _, _, _, _, _, _, a11, _⟩ := own c x e
    exact a11
  · obtain ⟨_, _, _, _, _, _, _, _, _, a10, _⟩ := own c x e
    exact (a10 c' (O.owns c' x' e')).2
  · obtain ⟨_, _, _, _, _, _, _, _, _, _, _, a12⟩ := own c x e
    exact PySem.W.mg_of X G a12
end GW

set_option Elab.async false
set_option linter.all false
set_option autoImplicit false
set_option maxRecDepth 100000
set_option maxHeartbeats 4000000
/-! The end: the law is called where the head has left the heap. -/
namespace GW
open PySem PySem.Spec PyProof.Rows L2 LamX
/-- at the law's entry: the script at a, frozen; the tables, empty -/
def spot (oa : Obj) (u : HO) (a : Addr) (ts : List Addr) : Hp := fun b => if b = a then some (.frz oa u) else if b ∈ ts then some (.tbl #[]) else none
section
variable {oa : Obj} {u o : HO} {a b : Addr} {ts : List Addr}
theorem spot_a : spot oa u a ts a = some (.frz oa u) := if_pos rfl
theorem spot_t (h : b ≠ a) (m : b ∈ ts) : spot oa u a ts b = some (.tbl #[]) := by unfold spot; rw [if_neg h, if_pos m]
theorem spot_none (h : b ≠ a) (m : b ∉ ts) : spot oa u a ts b = none := by unfold spot; rw [if_neg h, if_neg m]
theorem spot_or (h : spot oa u a ts b = some o) : (b = a ∧ o = .frz oa u) ∨ (b ≠ a ∧ b ∈ ts ∧ o = .tbl #[]) := by
  by_cases h1 : b = a
  · rw [h1, spot_a] at h
    exact .inl ⟨h1, (Option.some.inj h).symm⟩
  · by_cases h2 : b ∈ ts
    · rw [spot_t h1 h2] at h
      exact .inr ⟨h1, h2, (Option.some.inj h).symm⟩
    · rw [spot_none h1 h2] at h
      cases h
end
/-- what the written part says of the heap at the law's entry -/
structure Entry (K : PySem.W.Frag) (mg : Str → Option Value) (cs : List (Addr × Addr)) (s : Shared) : Prop where
  kin : K.In s.heap
  noL : ∀ b o, K.lookup b = some o → o.cls ≠ .type "list"
  glob : s.heap.Ns mainGlobals mg
  blt : ∃ mb, s.heap.Ns builtinsNs mb ∧ ∀ x : Str, x ≠ "__name__" → mb x = bootBuiltins x
  lim : s.heap.NoLimit
  gens : s.gens = #[]
  tab : ∀ p ∈ cs, s.heap.get? p.2 = some { cls := .none, data := .fields #[] } ∧ K.lookup p.2 = none ∧ PySem.W.CodeHd s.heap p.1 p.2
  bm : ∃ (m : Addr) (o : Obj), mg "__builtins__" = some (.ref m) ∧ m ≠ builtinsNs ∧ s.heap.get? m = some o ∧ o.cls = .type "module" ∧ o.dict = some builtinsNs ∧ o.data = .plain
theorem call_G {P : Program} {w : World} {K : PySem.W.Frag} {mg : Str → Option Value} {CX : CXT} {k : Nat} {fa a : Addr} {cs : List (Addr × Addr)} {sp : Sp} {s : Shared} {vs : List Value} {ns : List Int}
    (N : Entry K mg cs s) (ha : s.heap.get? a = some { cls := .type "list", data := .seq vs.toArray }) (hi : IntsAre vs ns) (hl : ns.length ≤ sizeLine) (hr : Room k callerA)
    (F : ∀ base : Heap, K.In base → base.Ns mainGlobals mg → (∀ p ∈ cs, TabB base mg p.1 p.2) → ∃ (fd : FuncData) (x : Str), (∀ (t : Shared) (u : Value), K.In t.heap → BindsTo t fd ⟨[u], []⟩ [(x, u)]) ∧ FnG P w K mg base CX k fa fd [x] sp)
    (hsp : ∀ H : Hp, (∀ p ∈ cs, H p.2 = some (.tbl #[])) → (∃ o, H a = some (.frz o (.lst (ns.map V.int)))) → sp [.ref a] H (fun v _ => v = .bl true) fun _ _ _ => False)
    (hCX : ∀ H e t, CX [] H s (fun _ _ _ => False) e t → False) :
    codeAny (model P w) callerA (.call (.ref fa) ⟨[.ref a], []⟩) (fun r t => r = .ok (.ret (.bool true)) ∧ OldK s.heap t.heap ∧ t.os = s.os ∧ AllBare t.gens) s := by
  obtain ⟨oa, hoa⟩ : ∃ oa : Obj, oa = { cls := .type "list", data := .seq vs.toArray } := ⟨_, rfl⟩
  rw [← hoa] at ha
  obtain ⟨H, hH⟩ : ∃ H, H = spot oa (.lst (ns.map V.int)) a (cs.map (·.2)) := ⟨_, rfl⟩
  have tabs : ∀ b ∈ cs.map (·.2), s.heap.get? b = some { cls := .none, data := .fields #[] } ∧ K.lookup b = none := fun b hb => by
    obtain ⟨p, hp, rfl⟩ := List.mem_map.mp hb
    exact ⟨(N.tab p hp).1, (N.tab p hp).2.1⟩
  have ta : ∀ b ∈ cs.map (·.2), b ≠ a := fun b hb e => by
    have := (tabs b hb).1
    rw [e, ha, hoa] at this
    cases this
  have Ht : ∀ p ∈ cs, H p.2 = some (.tbl #[]) := fun p hp => by
    have m : p.2 ∈ cs.map (·.2) := List.mem_map_of_mem hp
    rw [hH]
    exact spot_t (ta _ m) m
  have Ha : H a = some (.frz oa (.lst (ns.map V.int))) := by rw [hH]; exact spot_a
  -- what is neither a list nor an empty row of fields stays in sight
  have clear : ∀ {b : Addr} {o : Obj}, s.heap.get? b = some o → (∀ xs n, o.data ≠ .seq xs n) → o.data ≠ .fields #[] → H b = none := fun {b o} e h1 h2 => by
    cases q : H b with
    | none => rfl
    | some v =>
      rw [hH] at q
      rcases spot_or q with ⟨rfl, _⟩ | ⟨_, m, _⟩
      · rw [ha] at e
        cases e
        rw [hoa] at h1
        exact (h1 _ _ rfl).elim
      · rw [(tabs b m).1] at e
        cases e
        exact (h2 rfl).elim
  have sight : ∀ {b : Addr} {o : Obj}, s.heap.get? b = some o → (∀ xs n, o.data ≠ .seq xs n) → o.data ≠ .fields #[] → (hidT s.heap H).get? b = some o := fun e h1 h2 => hidT_get e (clear e h1 h2)
  have names : ∀ {b : Addr} {m : Str → Option Value}, s.heap.Ns b m → (hidT s.heap H).Ns b m := fun {b m} ⟨o, es, ep, e, d, r⟩ => ⟨o, es, ep, sight e (fun xs n z => by rw [d] at z; cases z) (fun z => by rw [d] at z; cases z), d, r⟩
  have kin : K.In (hidT s.heap H) := fun b o e => hidT_get (N.kin b o e) (by
    cases q : H b with
    | none => rfl
    | some v =>
      rw [hH] at q
      rcases spot_or q with ⟨rfl, _⟩ | ⟨_, m, _⟩
      · have e2 := N.kin _ _ e
        rw [ha] at e2
        cases e2
        exact (N.noL _ _ e (by rw [hoa])).elim
      · rw [(tabs b m).2] at e
        cases e)
  have hok : HOk P w H s.heap := fun b v q => by
    rw [hH] at q
    rcases spot_or q with ⟨rfl, rfl⟩ | ⟨_, m, rfl⟩
    · exact ⟨ha, by rw [List.length_map]; exact hl, vs, _, vals_ints hi, by rw [ha, hoa]⟩
    · exact (tabs b m).1
  have md : L2.Mod K mg (hidT s.heap H) := ⟨kin, names N.glob, let ⟨mb, h1, h2⟩ := N.blt; ⟨mb, names h1, h2⟩, let ⟨mc, h1, h2⟩ := N.lim; ⟨mc, names h1, h2⟩⟩
  have TB : ∀ p ∈ cs, TabB (hidT s.heap H) mg p.1 p.2 := fun p hp => by
    obtain ⟨hT, _, C⟩ := N.tab p hp
    refine ⟨?_, ?_, fun z => ?_⟩
    · obtain ⟨o, us, f1, f2, f3, f4, f5, f6, f7, e, r1, r2, r3, r⟩ := C
      exact ⟨o, us, f1, f2, f3, f4, f5, f6, f7, sight e (fun xs n z => by rw [r2] at z; cases z) (fun z => by rw [r2] at z; cases z; simp at r3), r1, r2, r3, r⟩
    · obtain ⟨m, o, b1, b2, b3, b4, b5, b6⟩ := N.bm
      refine ⟨m, o, b1, b2, fun z => ?_, fun z => ?_, sight b3 (fun xs n z => by rw [b6] at z; cases z) (fun z => by rw [b6] at z; cases z), b4, b5, b6⟩
      · obtain ⟨og, es, ep, e, hd, _⟩ := N.glob
        rw [z, e] at b3
        cases b3
        rw [hd] at b6
        cases b6
      · rw [z, hT] at b3
        cases b3
        cases b6
    · obtain ⟨og, es, ep, e, hd, _⟩ := N.glob
      rw [z, hT] at e
      cases e
      cases hd
  have e0 : Env0 P w K mg (hidT s.heap H) callerA [] s H := ⟨rfl, md, fun b o e => of_hidT e, Nat.le_of_eq (hidT_size _ _), trivial, fun b hb => absurd (show b ∈ ([] : List Addr) from hb) List.not_mem_nil, hok, .of_eq N.gens⟩
  obtain ⟨fd, x, hbind, hF⟩ := F _ kin (names N.glob) TB
  refine codeAny_mono (hF.run callerA [] s H ⟨[.ref a], []⟩ [.ref a] [.ref a] _ _ rfl hr e0 (hbind s (.ref a) N.kin) (.cons rfl .nil) (hsp H Ht ⟨_, Ha⟩)) fun r t h => ?_
  match r, h with
  | .error e, h => exact (hCX H e t h).elim
  | .ok .next, h => exact h.elim
  | .ok .brk, h => exact h.elim
  | .ok .cont, h => exact h.elim
  | .ok (.ret u), h =>
    obtain ⟨v, H', os, bare, un, hok', rv, rfl⟩ := h
    obtain rfl : u = Value.bool true := rv
    have grown : ∀ b ∈ cs.map (·.2), ∃ more : Array Value, t.heap.get? b = some { cls := .none, data := .fields more } := fun b hb => by
      obtain ⟨p, hp, rfl⟩ := List.mem_map.mp hb
      obtain ⟨more, z⟩ := un.tbls p.2 #[] (Ht p hp)
      exact ⟨_, hok' _ _ z⟩
    have same : ∀ b o, b ∉ cs.map (·.2) → s.heap.get? b = some o → t.heap.get? b = some o := fun b o nb e => by
      by_cases hb : b = a
      · obtain ⟨e1, _⟩ := hok' _ _ (un.frzs a oa _ Ha)
        rw [hb] at e ⊢
        rw [ha] at e
        cases e
        exact e1
      · exact un.keep b o e (by rw [hH]; exact spot_none hb nb) (fun z => absurd (show b ∈ ([] : List Addr) from z) List.not_mem_nil) List.not_mem_nil
    refine ⟨rfl, ⟨fun b o e => ?_, fun b o e => ?_⟩, os, bare⟩
    · by_cases hb : b ∈ cs.map (·.2)
      · obtain ⟨more, hm⟩ := grown b hb
        have hT := (tabs b hb).1
        obtain ⟨p, hp, rfl⟩ := List.mem_map.mp hb
        rw [hT] at e
        cases e
        exact .inr (.inl ⟨((N.tab p hp).2.2.tab hT).isCodeTable, rfl, #[], more, rfl, by rw [Array.empty_append]; exact hm⟩)
      · exact .inl (same b o hb e)
    · by_cases hb : b ∈ cs.map (·.2)
      · obtain ⟨more, hm⟩ := grown b hb
        exact ⟨_, hm⟩
      · exact ⟨o, same b o hb e⟩
theorem walkG {l : PySem.W.OpenLaw} {n k : Nat} {q : Program} {loose : List Str} {XP : (Str → Option Value) → Heap → Prop} {YP : World → Heap → Prop} {d : DefRec} {CX : World → CXT} {K : Params → PySem.W.Frag}
    (hn : l.most = some n) (hn2 : n ≤ sizeLine) (hdf : d.params.defaults = []) (hr : Room k callerA) (hY : ∀ (w : World) (h : Heap), YP w h → (K w.params).In h)
    (F : ∀ (w : World) (mg : Str → Option Value) (fa : Addr) (h : Heap), YP w h → (K w.params).In h → h.Ns mainGlobals mg → mg d.name = some (.ref fa) →
      ∃ (cs : List (Addr × Addr)) (sp : Sp), (∀ p ∈ cs, h.get? p.2 = some { cls := .none, data := .fields #[] } ∧ (K w.params).lookup p.2 = none ∧ PySem.W.CodeHd h p.1 p.2) ∧ (∀ b o, (K w.params).lookup b = some o → o.cls ≠ .type "list") ∧
        (∀ (H : Hp) (a : Addr) (ns : List Int), ns.length ≤ n → (∀ p ∈ cs, H p.2 = some (.tbl #[])) → (∃ o, H a = some (.frz o (.lst (ns.map V.int)))) → sp [.ref a] H (fun v _ => v = .bl true) fun _ _ _ => False) ∧
        ∀ base : Heap, (K w.params).In base → base.Ns mainGlobals mg → (∀ p ∈ cs, TabB base mg p.1 p.2) → ∃ (fd : FuncData) (x : Str), (∀ (t : Shared) (u : Value), (K w.params).In t.heap → BindsTo t fd ⟨[u], []⟩ [(x, u)]) ∧ FnG l.prog w (K w.params) mg base (CX w) k fa fd [x] sp)
    (hCX : ∀ (w : World) (H : Hp) (s : Shared) (e : Value) (t : Shared), CX w [] H s (fun _ _ _ => False) e t → False) :
    PySem.W.WalkO q loose XP YP l.row.toRowW d [] (fun f vs => PySem.call f vs) := by
  refine Att.attach_callB hn hdf fun w s₀ s mg mb fa o pm cd doc a vs ns G Y ho hd hcd hmg hobj hints hlen hbits hg => ?_
  obtain ⟨cs, sp, hT, nL, hsp, hF⟩ := F w mg fa _ Y (hY w _ Y) G.T.g hmg
  exact call_G ⟨hY w _ Y, nL, G.T.g, ⟨mb, G.T.b, G.T.builtins⟩, G.T.nolimit, hg, hT, G.T.bmain⟩ hobj hints (Nat.le_trans hlen hn2) hr hF (fun H h1 h2 => hsp H a ns hlen h1 h2) fun H e t => hCX w H s e t
end GW

set_option maxRecDepth 100000
set_option linter.all false
set_option autoImplicit false
/-! The cores of the defs that the laws share (printed). -/
namespace GW.Sh
open PySem GW
/-- is_whole: 0:value -/
def b0 : CSs := (.cons (.ret (.and (.isi (.var 0) [.int]) (.not (.isi (.var 0) [.bool])))) .nil)
/-- is_within: 0:value 1:least 2:most -/
def b1 : CSs := (.cons (.ret (.and (.call 0 (.cons (.var 0) .nil)) (.cmp2 .le .le (.var 1) (.var 0) (.var 2)))) .nil)
/-- is_row: 0:value 1:size -/
def b3 : CSs := (.cons (.ret (.and (.isi (.var 0) [.tuple]) (.cmp .eq (.blt .len (.cons (.var 0) .nil)) (.var 1)))) .nil)
/-- are_numbers: 0:value 1:size 2:least 3:most 4:one -/
def b4 : CSs := (.cons (.ret (.and (.call 3 (.cons (.var 0) (.cons (.var 1) .nil))) (.blt .all (.cons (.comp false [4] (.name 4) (.seq (.var 0)) .no (.call 1 (.cons (.var 4) (.cons (.var 2) (.cons (.var 3) .nil))))) .nil)))) .nil)
/-- first_wrong: 0:value 1:least 2:most 3:judge 4:place 5:row -/
def b6 : CSs := (.cons (.ife (.or (.not (.isi (.var 0) [.tuple])) (.not (.cmp2 .le .le (.var 1) (.blt .len (.cons (.var 0) .nil)) (.var 2)))) (.cons (.ret (.neg (.lit (.int 1)))) .nil) .nil) (.cons (.loop (.tup (.cons (.name 4) (.cons (.name 5) .nil))) (.enu (.var 0)) (.cons (.ife (.not (.calv 3 (.cons (.var 5) (.cons (.slc (.var 0) .no (.yes (.var 4))) .nil)))) (.cons (.ret (.var 4)) .nil) .nil) .nil)) (.cons (.ret (.lit .non)) .nil)))
/-- require_part: 0:part 1:place -/
def b7 : CSs := (.cons (.ife (.cmp .isnot (.var 1) (.lit .non)) (.cons (.rais 1 (.cons (.var 0) (.cons (.ite (.cmp .eq (.var 1) (.neg (.lit (.int 1)))) (.lit .non) (.var 1)) .nil))) .nil) .nil) .nil)
/-- wrong_number: 0:value 1:least 2:most -/
def b8 : CSs := (.cons (.ret (.ite (.call 1 (.cons (.var 0) (.cons (.var 1) (.cons (.var 2) .nil)))) (.lit .non) (.neg (.lit (.int 1))))) .nil)
/-- require_parts: 0:thing 1:words 2:parts 3:judge 4:place 5:word -/
def b9 : CSs := (.cons (.ife (.not (.call 3 (.cons (.var 2) (.cons (.blt .len (.cons (.var 1) .nil)) .nil)))) (.cons (.exp (.call 7 (.cons (.var 0) (.cons (.neg (.lit (.int 1))) .nil)))) .nil) .nil) (.cons (.loop (.tup (.cons (.name 4) (.cons (.name 5) .nil))) (.enu (.var 1)) (.cons (.exp (.call 7 (.cons (.var 5) (.cons (.calv 3 (.cons (.var 2) (.cons (.var 4) .nil))) .nil)))) .nil)) .nil))
/-- replaced: 0:parts 1:place 2:value -/
def b10 : CSs := (.cons (.ret (.bin .add (.bin .add (.slc (.var 0) .no (.yes (.var 1))) (.tup (.cons (.var 2) .nil))) (.slc (.var 0) (.yes (.bin .add (.var 1) (.lit (.int 1)))) .no))) .nil)
/-- place_of: 0:words 1:word 2:thing -/
def b11 : CSs := (.cons (.ife (.or (.not (.isi (.var 1) [.str])) (.cmp .notin (.var 1) (.var 0))) (.cons (.exp (.call 7 (.cons (.var 2) (.cons (.neg (.lit (.int 1))) .nil)))) .nil) .nil) (.cons (.ret (.bmt .indexT (.var 0) (.cons (.var 1) .nil))) .nil))
/-- _law_taken: 0:row 1:many 2:cell 3:found -/
def b15 : CSs := (.cons (.ife (.cmp .gt (.ix (.var 0) (.lit (.int 3))) (.lit (.int 0))) (.cons (.asg (.name 3) (.bin .mod (.blt .int (.cons (.ix (.var 0) (.lit (.int 3))) .nil)) (.var 1))) (.cons (.asg (.sub (.var 0) (.lit (.int 3))) (.bin .fdiv (.ix (.var 0) (.lit (.int 3))) (.var 1))) (.cons (.ret (.var 3)) .nil))) .nil) (.cons (.asg (.sub (.var 0) (.lit (.int 1))) (.bin .add (.ix (.var 0) (.lit (.int 1))) (.lit (.int 1)))) (.cons (.ife (.cmp .gt (.ix (.var 0) (.lit (.int 1))) (.blt .len (.cons (.ix (.var 0) (.lit (.int 0))) .nil))) (.cons (.asg (.sub (.var 0) (.lit (.int 2))) (.bin .mod (.blt .int (.cons (.bin .add (.bin .mul (.ix (.var 0) (.lit (.int 2))) (.lit (.int 48271))) (.lit (.int 11))) .nil)) (.lit (.int 2147483647)))) (.cons (.ret (.bin .mod (.blt .int (.cons (.bin .fdiv (.ix (.var 0) (.lit (.int 2))) (.lit (.int 7))) .nil)) (.var 1))) .nil)) .nil) (.cons (.asg (.name 2) (.ix (.ix (.var 0) (.lit (.int 0))) (.bin .sub (.ix (.var 0) (.lit (.int 1))) (.lit (.int 1))))) (.cons (.asg (.sub (.var 0) (.lit (.int 2))) (.bin .mod (.blt .int (.cons (.bin .add (.bin .add (.bin .mul (.ix (.var 0) (.lit (.int 2))) (.lit (.int 48271))) (.var 2)) (.lit (.int 11))) .nil)) (.lit (.int 2147483647)))) (.cons (.ife (.cmp .ge (.var 2) (.bin .pow (.lit (.int 10)) (.lit (.int 18)))) (.cons (.asg (.sub (.var 0) (.lit (.int 3))) (.bin .fdiv (.var 2) (.var 1))) (.cons (.ret (.bin .mod (.blt .int (.cons (.var 2) .nil)) (.var 1))) .nil)) .nil) (.cons (.ret (.bin .mod (.blt .int (.cons (.bin .add (.bin .mul (.bin .mod (.blt .int (.cons (.var 2) .nil)) (.lit (.int 1000003))) (.lit (.int 31))) (.bin .fdiv (.ix (.var 0) (.lit (.int 2))) (.lit (.int 11)))) .nil)) (.var 1))) .nil)))))))
/-- _law_pick: 0:row 1:things -/
def b16 : CSs := (.cons (.ret (.ix (.var 1) (.call 15 (.cons (.var 0) (.cons (.blt .len (.cons (.var 1) .nil)) .nil))))) .nil)
/-- _law_alike: 0:found 1:due 2:k -/
def b17 : CSs := (.cons (.ife (.isi (.var 1) [.tuple,.list]) (.cons (.ife (.or (.not (.isi (.var 0) [.tuple,.list])) (.cmp .ne (.isi (.var 0) [.list]) (.isi (.var 1) [.list]))) (.cons (.ret (.lit (.bl false))) .nil) .nil) (.cons (.ife (.cmp .ne (.blt .len (.cons (.var 0) .nil)) (.blt .len (.cons (.var 1) .nil))) (.cons (.ret (.lit (.bl false))) .nil) .nil) (.cons (.ret (.cmp .eq (.comp false [2] (.name 2) (.rng1 (.blt .len (.cons (.var 1) .nil))) (.yes (.not (.call 17 (.cons (.ix (.var 0) (.var 2)) (.cons (.ix (.var 1) (.var 2)) .nil))))) (.var 2)) (.lst false .nil))) .nil))) .nil) (.cons (.ife (.or (.cmp .is (.var 1) (.lit .non)) (.isi (.var 1) [.str])) (.cons (.ret (.and (.cmp .eq (.var 0) (.var 1)) (.cmp .eq (.isi (.var 0) [.str]) (.isi (.var 1) [.str])))) .nil) .nil) (.cons (.ret (.and (.isi (.var 0) [.int]) (.and (.cmp .eq (.isi (.var 0) [.bool]) (.isi (.var 1) [.bool])) (.cmp .eq (.var 0) (.var 1))))) .nil)))
/-- _law_same: 0:found 1:due -/
def b18 : CSs := (.cons (.ret (.same (.var 0) (.var 1))) .nil)
/-- _law_odd: 0:row 1:odd -/
def b20 : CSs := (.cons (.asg (.name 1) (.lst false (.cons (.lit .non) (.cons (.lit (.bl true)) (.cons (.lit (.bl false)) (.cons (.neg (.lit (.int 1))) (.cons (.bin .pow (.lit (.int 10)) (.lit (.int 30))) (.cons (.lit (.str "")) (.cons (.lit (.str "A")) (.cons (.lit (.str "a1")) (.cons (.lit (.str "abcdefghi")) (.cons (.lst false .nil) (.cons (.lst false (.cons (.lit (.int 1)) .nil)) (.cons .dis0 (.cons (.dis1 "a" 1) (.cons (.lit (.str "a b")) (.cons (.lit (.int 61)) (.cons (.lit (.str "-")) .nil)))))))))))))))))) (.cons (.ret (.call 16 (.cons (.var 0) (.cons (.var 1) .nil)))) .nil))
/-- _law_refusal: 0:e 1:kinds 2:marks 3:name -/
def b22 : CSs := (.cons (.asg (.name 1) (.lst false (.cons (.lit (.str "BadPart")) (.cons (.lit (.str "BadNumber")) (.cons (.lit (.str "Unknown")) (.cons (.lit (.str "BadCourse")) (.cons (.lit (.str "BadChange")) (.cons (.lit (.str "BadText")) (.cons (.lit (.str "BadLine")) (.cons (.lit (.str "NotSure")) (.cons (.lit (.str "BadClaim")) (.cons (.lit (.str "NothingDone")) .nil)))))))))))) (.cons (.asg (.name 2) (.lst false (.cons (.isx (.var 0) (some 1)) (.cons (.isx (.var 0) (some 2)) (.cons (.isx (.var 0) (some 3)) (.cons (.isx (.var 0) (some 4)) (.cons (.isx (.var 0) (some 5)) (.cons (.isx (.var 0) (some 6)) (.cons (.isx (.var 0) (some 7)) (.cons (.isx (.var 0) (some 8)) (.cons (.isx (.var 0) (some 9)) (.cons (.isx (.var 0) (some 10)) .nil)))))))))))) (.cons (.ife (.or (.cmp .ne (.bmt .countL (.var 2) (.cons (.lit (.bl true)) .nil)) (.lit (.int 1))) (.not (.isx (.var 0) none))) (.cons (.ret (.tup (.cons (.lit (.str "other")) .nil))) .nil) .nil) (.cons (.asg (.name 3) (.ix (.var 1) (.bmt .indexL (.var 2) (.cons (.lit (.bl true)) .nil)))) (.cons (.ife (.cmp .eq (.var 3) (.lit (.str "BadPart"))) (.cons (.ret (.tup (.cons (.var 3) (.cons (.atx (.var 0) 4) (.cons (.atx (.var 0) 0) .nil))))) .nil) .nil) (.cons (.ife (.cmp .eq (.var 3) (.lit (.str "BadNumber"))) (.cons (.ret (.tup (.cons (.var 3) (.cons (.atx (.var 0) 3) .nil)))) .nil) .nil) (.cons (.ife (.cmp .eq (.var 3) (.lit (.str "Unknown"))) (.cons (.ret (.tup (.cons (.var 3) (.cons (.atx (.var 0) 2) .nil)))) .nil) .nil) (.cons (.ife (.cmp .isin (.var 3) (.tup (.cons (.lit (.str "BadText")) (.cons (.lit (.str "BadLine")) .nil)))) (.cons (.ret (.tup (.cons (.var 3) (.cons (.atx (.var 0) 1) .nil)))) .nil) .nil) (.cons (.ife (.cmp .isin (.var 3) (.tup (.cons (.lit (.str "NotSure")) (.cons (.lit (.str "BadClaim")) (.cons (.lit (.str "NothingDone")) .nil))))) (.cons (.ret (.tup (.cons (.var 3) .nil))) .nil) .nil) (.cons (.ret (.tup (.cons (.var 3) (.cons (.atx (.var 0) 0) .nil)))) .nil))))))))))
/-- _law_spoiled: 0:row 1:value 2:at -/
def b24 : CSs := (.cons (.ife (.not (.isi (.var 1) [.tuple])) (.cons (.ret (.ite (.isi (.var 1) [.int]) (.call 16 (.cons (.var 0) (.cons (.lst false (.cons (.bin .add (.var 1) (.lit (.int 1))) (.cons (.bin .sub (.var 1) (.lit (.int 1))) (.cons (.lit (.int 0)) (.cons (.lit .non) (.cons (.lit (.bl true)) (.cons (.lst false (.cons (.var 1) .nil)) (.cons (.neg (.lit (.int 1))) .nil)))))))) .nil))) (.call 16 (.cons (.var 0) (.cons (.lst false (.cons (.lit .non) (.cons (.lit (.str "a")) (.cons (.lit (.str "zz")) (.cons (.lit (.int 1)) (.cons (.var 1) .nil)))))) .nil))))) .nil) .nil) (.cons (.ife (.or (.cmp .eq (.blt .len (.cons (.var 1) .nil)) (.lit (.int 0))) (.cmp .eq (.call 15 (.cons (.var 0) (.cons (.lit (.int 6)) .nil))) (.lit (.int 0)))) (.cons (.ret (.call 16 (.cons (.var 0) (.cons (.lst false (.cons (.bin .add (.var 1) (.tup (.cons (.lit (.int 0)) .nil))) (.cons (.slc (.var 1) (.yes (.lit (.int 1))) .no) (.cons (.slc (.var 1) .no (.yes (.neg (.lit (.int 1))))) (.cons (.blt .list (.cons (.var 1) .nil)) (.cons (.bin .add (.var 1) (.slc (.var 1) .no (.yes (.lit (.int 1))))) (.cons (.rev (.var 1)) (.cons (.tup .nil) .nil)))))))) .nil)))) .nil) .nil) (.cons (.asg (.name 2) (.call 15 (.cons (.var 0) (.cons (.blt .len (.cons (.var 1) .nil)) .nil)))) (.cons (.ret (.bin .add (.bin .add (.slc (.var 1) .no (.yes (.var 2))) (.tup (.cons (.call 24 (.cons (.var 0) (.cons (.ix (.var 1) (.var 2)) .nil))) .nil))) (.slc (.var 1) (.yes (.bin .add (.var 2) (.lit (.int 1)))) .no))) .nil))))
/-- is_name: 0:value 1:sign -/
def b2 : CSs := (.cons (.ife (.or (.not (.isi (.var 0) [.str])) (.not (.cmp2 .le .le (.lit (.int 1)) (.blt .len (.cons (.var 0) .nil)) (.glb 1)))) (.cons (.ret (.lit (.bl false))) .nil) .nil) (.cons (.ret (.blt .all (.cons (.comp false [1] (.name 1) (.seq (.var 0)) .no (.cmp .isin (.var 1) (.glb 0))) .nil))) .nil))
/-- names_in: 0:rows 1:row -/
def b13 : CSs := (.cons (.ret (.blt .tuple (.cons (.comp false [1] (.name 1) (.seq (.var 0)) .no (.ix (.var 1) (.lit (.int 0)))) .nil))) .nil)
/-- _law_names: 0:row 1:many 2:letters 3:head 4:tail 5:kind 6:k 7:begin 8:names 9:sign -/
def b19 : CSs := (.cons (.asg (.name 2) (.lit (.str "abcdefghijklmnopqrstuvwxyz"))) (.cons (.asg (.tup (.cons (.name 7) (.cons (.name 8) .nil))) (.tup (.cons (.call 15 (.cons (.var 0) (.cons (.lit (.int 26)) .nil))) (.cons (.lst true .nil) .nil)))) (.cons (.asg (.name 3) (.bin .mul (.ix (.var 2) (.call 15 (.cons (.var 0) (.cons (.lit (.int 26)) .nil)))) (.call 15 (.cons (.var 0) (.cons (.lit (.int 4)) .nil))))) (.cons (.asg (.name 4) (.bin .mul (.ix (.var 2) (.call 15 (.cons (.var 0) (.cons (.lit (.int 26)) .nil)))) (.call 15 (.cons (.var 0) (.cons (.lit (.int 4)) .nil))))) (.cons (.asg (.name 5) (.call 15 (.cons (.var 0) (.cons (.lit (.int 2)) .nil)))) (.cons (.loop (.name 6) (.rng1 (.var 1)) (.cons (.asg (.name 9) (.ix (.var 2) (.bin .mod (.blt .int (.cons (.bin .add (.var 7) (.bin .mul (.lit (.int 7)) (.var 6))) .nil)) (.lit (.int 26))))) (.cons (.exp (.bmt .append (.var 8) (.cons (.ite (.cmp .eq (.var 5) (.lit (.int 0))) (.bin .add (.bin .add (.var 3) (.var 9)) (.var 4)) (.bin .add (.var 9) (.bin .mul (.ix (.var 2) (.call 15 (.cons (.var 0) (.cons (.lit (.int 26)) .nil)))) (.call 15 (.cons (.var 0) (.cons (.lit (.int 8)) .nil)))))) .nil))) .nil))) (.cons (.ret (.var 8)) .nil)))))))
/-- _law_fresh: 0:names 1:sign -/
def b21 : CSs := (.cons (.ret (.ix (.comp false [1] (.name 1) (.seq (.lit (.str "zyxwvutsrqponmlkjihgfedcba"))) (.yes (.cmp .notin (.bin .mul (.var 1) (.lit (.int 8))) (.var 0))) (.bin .mul (.var 1) (.lit (.int 8)))) (.lit (.int 0)))) .nil)
end GW.Sh

set_option linter.all false
set_option autoImplicit false
set_option maxRecDepth 100000
/-! Running the core: rules for simp. -/
namespace GW
open PySem
section
variable {α β : Type}
@[simp] theorem bind_ok (a : α) (M : Mem) (f : α → Mem → Out β) : (Out.ok a M).bind f = f a M := rfl
@[simp] theorem bind_exc (c : Nat) (as : List D) (M : Mem) (f : α → Mem → Out β) : (Out.exc c as M : Out α).bind f = .exc c as M := rfl
@[simp] theorem bind_err (f : α → Mem → Out β) : (Out.err : Out α).bind f = .err := rfl
@[simp] theorem of_some (a : α) (M : Mem) : Out.of (some a) M = .ok a M := rfl
@[simp] theorem of_none (M : Mem) : Out.of (none : Option α) M = .err := rfl
@[simp] theorem calm_ok (a : α) (M : Mem) : (Out.ok a M).calm = .ok a M := rfl
theorem bind_assoc {γ : Type} (r : Out α) (f : α → Mem → Out β) (g : β → Mem → Out γ) : (r.bind f).bind g = r.bind fun a M => (f a M).bind g := by cases r <;> rfl
/-- it ends well, as Q asks -/
@[irreducible] def Out.Ok (r : Out α) (Q : α → Mem → Prop) : Prop := match r with | .ok a M => Q a M | _ => False
@[simp] theorem Ok_ok (a : α) (M : Mem) (Q : α → Mem → Prop) : (Out.ok a M).Ok Q = Q a M := by unfold Out.Ok; rfl
theorem Ok_bind {r : Out α} {f : α → Mem → Out β} {Q : β → Mem → Prop} : (r.bind f).Ok Q = r.Ok fun a M => (f a M).Ok Q := by unfold Out.Ok; cases r <;> rfl
@[simp] theorem Ok_calm {r : Out α} {Q : α → Mem → Prop} : r.calm.Ok Q = r.Ok Q := by unfold Out.Ok; cases r <;> rfl
theorem Out.Ok.imp {r : Out α} {Q Q' : α → Mem → Prop} (h : r.Ok Q) (i : ∀ a M, Q a M → Q' a M) : r.Ok Q' := by unfold Out.Ok at h ⊢; cases r <;> first | exact i _ _ h | exact h
theorem Out.Ok.eq {r : Out α} {Q : α → Mem → Prop} (h : r.Ok Q) : ∃ a M, r = .ok a M ∧ Q a M := by unfold Out.Ok at h; cases r <;> first | exact ⟨_, _, rfl, h⟩ | exact h.elim
theorem Out.Ok.bind {r : Out α} {f : α → Mem → Out β} {Q : α → Mem → Prop} {Q' : β → Mem → Prop} (h : r.Ok Q) (i : ∀ a M, Q a M → (f a M).Ok Q') : (r.bind f).Ok Q' := by rw [Ok_bind]; exact h.imp i
end
/-- what a call gives behind its body -/
noncomputable def finC (M : Mem) : Out Fl → Out D
  | .ok (.nx _) M1 => .ok .non (shrink M [] M1)
  | .ok (.rt d) M1 => .ok d (shrink M [d] M1)
  | .ok (.bk _) _ => .err
  | .exc c as M1 => .exc c as (shrink M as M1)
  | .err => .err
@[simp] theorem finC_nx (M M1 : Mem) (ρ : Env) : finC M (.ok (.nx ρ) M1) = .ok .non (shrink M [] M1) := rfl
@[simp] theorem finC_rt (M M1 : Mem) (d : D) : finC M (.ok (.rt d) M1) = .ok d (shrink M [d] M1) := rfl
@[simp] theorem finC_exc (M M1 : Mem) (c : Nat) (as : List D) : finC M (.exc c as M1) = .exc c as (shrink M as M1) := rfl
class Fn (Γ : Prog) (f : Nat) (F : FD) : Prop where
  eq : Γ.fn f = some F
theorem call_run {Γ : Prog} {n f : Nat} (F : FD) [h : Fn Γ f F] {ds : List D} {M : Mem} (hl : ds.length = F.ar := by rfl) (ha : F.ar ≤ F.nn := by decide) :
    callF Γ (n + 1) f ds M = finC M (exSs Γ (callF Γ n) F.body (startE F.nn ds) M) := by
  rw [callF]
  rw [h.eq]
  dsimp only
  rw [if_pos ⟨hl, ha⟩]
  cases exSs Γ (callF Γ n) F.body (startE F.nn ds) M with
  | ok a M1 => cases a <;> rfl
  | exc c as M1 => rfl
  | err => rfl
@[simp] theorem shrink_same (M : Mem) (ds : List D) : shrink M ds M = M := by
  unfold shrink
  split
  · exact List.take_length
  · rfl
theorem shrink_len {M M' : Mem} (ds : List D) (h : M'.length = M.length) : shrink M ds M' = M' := by
  unfold shrink
  split
  · rw [← h]; exact List.take_length
  · rfl
@[simp] theorem shrink_set (M : Mem) (i : Nat) (o : MO) (ds : List D) : shrink M ds (M.set i o) = M.set i o := shrink_len ds (List.length_set ..)
theorem shrink_app {M : Mem} (X : Mem) {ds : List D} (h : closedL M.length ds = true) : shrink M ds (M ++ X) = M := by
  unfold shrink
  rw [if_pos ⟨h, fun i o hi e => .inl (by rwa [List.getElem?_append_left hi] at e)⟩, List.take_left]
theorem shrink_set_app {M : Mem} (i : Nat) (o : MO) (X : Mem) {ds : List D} (h : closedL M.length ds = true) (ho : closedO M.length o = true) : shrink M ds (M.set i o ++ X) = M.set i o := by
  have hS : Shrinks M ds (M.set i o ++ X) := ⟨h, fun j o' hj e => by
    rw [List.getElem?_append_left (by rw [List.length_set]; exact hj), List.getElem?_set] at e
    by_cases hij : i = j
    · subst hij
      rw [if_pos rfl, if_pos hj] at e
      cases e
      exact .inr ho
    · rw [if_neg hij] at e
      exact .inl e⟩
  unfold shrink
  rw [if_pos hS]
  have : (M.set i o).length = M.length := List.length_set ..
  rw [← this]
  exact List.take_left
@[simp] theorem shrink_cons (o o' : MO) (rest : Mem) (ds : List D) : shrink (o :: rest) ds (o' :: rest) = o' :: rest := shrink_len ds rfl
/-- what is asked of the end of a body -/
def finQ (M : Mem) (Q : D → Mem → Prop) : Fl → Mem → Prop
  | .nx _, M1 => Q .non (shrink M [] M1)
  | .rt d, M1 => Q d (shrink M [d] M1)
  | .bk _, _ => False
@[simp] theorem finQ_nx (M : Mem) (Q : D → Mem → Prop) (ρ : Env) (M1 : Mem) : finQ M Q (.nx ρ) M1 = Q .non (shrink M [] M1) := rfl
@[simp] theorem finQ_rt (M : Mem) (Q : D → Mem → Prop) (d : D) (M1 : Mem) : finQ M Q (.rt d) M1 = Q d (shrink M [d] M1) := rfl
theorem Ok_fin {M : Mem} {r : Out Fl} {Q : D → Mem → Prop} : (finC M r).Ok Q = r.Ok (finQ M Q) := by
  unfold Out.Ok
  cases r with
  | ok a M1 => cases a <;> rfl
  | exc c as M1 => rfl
  | err => rfl
/-! ### what is read -/
@[simp] theorem rd_non (M : Mem) : rd M .non = .non := rfl
@[simp] theorem rd_bl (M : Mem) (b : Bool) : rd M (.bl b) = .bl b := rfl
@[simp] theorem rd_int (M : Mem) (i : Int) : rd M (.int i) = .int i := rfl
@[simp] theorem rd_str (M : Mem) (s : Str) : rd M (.str s) = .str s := rfl
@[simp] theorem rd_tup (M : Mem) (xs : List D) : rd M (.tup xs) = .tup xs := rfl
@[simp] theorem rd_lst (M : Mem) (xs : List D) : rd M (.lst xs) = .lst xs := rfl
@[simp] theorem rd_dct (M : Mem) (xs ys : List D) : rd M (.dct xs ys) = .dct xs ys := rfl
@[simp] theorem rd_ins (M : Mem) (c : Nat) (fs : List Nat) (vs : List D) : rd M (.ins c fs vs) = .ins c fs vs := rfl
@[simp] theorem rd_fn (M : Mem) (f : Nat) : rd M (.fn f) = .fn f := rfl
@[simp] theorem rd_tupk (M : Mem) (xs : List D) : rd M (.tupk xs) = .tup xs := rfl
@[simp] theorem truth_bl (b : Bool) : truthD (.bl b) = some b := rfl
@[simp] theorem itemsD_tup' (xs : List D) : itemsD (.tup xs) = some xs := rfl
@[simp] theorem itemsD_tupk' (xs : List D) : itemsD (.tupk xs) = some xs := rfl
@[simp] theorem itemsT_tup (xs : List D) : itemsT (.tup xs) = some xs := rfl
@[simp] theorem itemsT_tupk (xs : List D) : itemsT (.tupk xs) = some xs := rfl
@[simp] theorem itemsD_lst' (xs : List D) : itemsD (.lst xs) = some xs := rfl
@[simp] theorem len_tup (xs : List D) : bltD .len [.tup xs] = some (.int xs.length) := id rfl
@[simp] theorem len_lst (xs : List D) : bltD .len [.lst xs] = some (.int xs.length) := id rfl
@[simp] theorem tuple_lst (xs : List D) : bltD .tuple [.lst xs] = some (.tup xs) := id rfl
@[simp] theorem list_tup (xs : List D) : bltD .list [.tup xs] = some (.lst xs) := id rfl
@[simp] theorem eq_int (i j : Int) : cmpD .eq (.int i) (.int j) = some (i == j) := id rfl
@[simp] theorem ne_int (i j : Int) : cmpD .ne (.int i) (.int j) = some (!(i == j)) := id rfl
@[simp] theorem lt_int (i j : Int) : cmpD .lt (.int i) (.int j) = some (decide (i < j)) := id rfl
@[simp] theorem le_int (i j : Int) : cmpD .le (.int i) (.int j) = some (decide (i ≤ j)) := id rfl
@[simp] theorem gt_int (i j : Int) : cmpD .gt (.int i) (.int j) = some (decide (j < i)) := id rfl
@[simp] theorem ge_int (i j : Int) : cmpD .ge (.int i) (.int j) = some (decide (j ≤ i)) := id rfl
@[simp] theorem add_int (i j : Int) : binD .add (.int i) (.int j) = some (.int (i + j)) := id rfl
@[simp] theorem sub_int (i j : Int) : binD .sub (.int i) (.int j) = some (.int (i - j)) := id rfl
/-- not a name of something else -/
def flat : D → Bool
  | .ref _ => false | .tupk _ => false | .fn _ => false | .exn _ _ => false | .ins _ _ _ => false
  | _ => true
theorem rd_flat {d : D} (h : flat d = true) (M : Mem) : rd M d = d := by cases d <;> first | rfl | cases h
theorem flat_data {n : Nat} {d : D} (h : data n d = true) : flat d = true := by cases d <;> first | rfl | simp [data] at h
theorem data_mono : ∀ {n : Nat} {d : D} {m : Nat}, data n d = true → n ≤ m → data m d = true := by
  have key : ∀ n : Nat, (∀ (d : D) (m : Nat), data n d = true → n ≤ m → data m d = true) := by
    intro n
    induction n with
    | zero => intro d m h _; cases d <;> simp_all [data]
    | succ n ih =>
      have hL : ∀ (ds : List D) (m : Nat), dataL n ds = true → n ≤ m → dataL m ds = true := by
        intro ds
        induction ds with
        | nil => intro m _ _; rfl
        | cons d ds ih2 => intro m h hm; simp only [dataL, Bool.and_eq_true] at h ⊢; exact ⟨ih d m h.1 hm, ih2 m h.2 hm⟩
      intro d m h hm
      cases d with
      | tup xs => obtain ⟨k, rfl⟩ : ∃ k, m = k + 1 := ⟨m - 1, by omega⟩; simp only [data] at h ⊢; exact hL xs k h (by omega)
      | lst xs => obtain ⟨k, rfl⟩ : ∃ k, m = k + 1 := ⟨m - 1, by omega⟩; simp only [data] at h ⊢; exact hL xs k h (by omega)
      | _ => simp_all [data]
  intro n d m h hm
  exact key n d m h hm
theorem dataL_iff {n : Nat} : ∀ {ds : List D}, dataL n ds = true ↔ ∀ d ∈ ds, data n d = true
  | [] => by simp [dataL]
  | d :: ds => by simp only [dataL, Bool.and_eq_true, dataL_iff (ds := ds), List.mem_cons]; exact ⟨fun h x hx => hx.elim (fun e => e ▸ h.1) (h.2 x), fun h => ⟨h d (.inl rfl), fun x hx => h x (.inr hx)⟩⟩
theorem closed_data (m : Nat) : ∀ (n : Nat) (d : D), data n d = true → closed m d = true := by
  intro n
  induction n with
  | zero => intro d h; cases d <;> simp_all [data, closed]
  | succ n ih =>
    have hL : ∀ ds : List D, dataL n ds = true → closedL m ds = true := by
      intro ds
      induction ds with
      | nil => intro _; rfl
      | cons d ds ih2 => intro h; simp only [dataL, Bool.and_eq_true, closedL] at h ⊢; exact ⟨ih d h.1, ih2 h.2⟩
    intro d h
    cases d with
    | tup xs => simp only [data, closed] at h ⊢; exact hL xs h
    | lst xs => simp only [data, closed] at h ⊢; exact hL xs h
    | _ => simp_all [data, closed]
/-! ### lists that are made one by one -/
theorem compL_pure {f : D → Mem → Out (Option D)} {g : D → Option D} {M : Mem} : ∀ {ds : List D}, (∀ d ∈ ds, f d M = .ok (g d) M) → compL f ds M = .ok (ds.filterMap g) M
  | [], _ => rfl
  | d :: ds, h => by
    rw [compL, h d List.mem_cons_self, bind_ok, compL_pure (ds := ds) fun x hx => h x (List.mem_cons_of_mem _ hx), bind_ok, List.filterMap_cons]
    cases g d <;> rfl
theorem compL_map {f : D → Mem → Out (Option D)} {g : D → D} {M : Mem} {ds : List D} (h : ∀ d ∈ ds, f d M = .ok (some (g d)) M) : compL f ds M = .ok (ds.map g) M := by
  rw [compL_pure (g := fun d => some (g d)) h, List.filterMap_eq_map']
theorem compL_filter {f : D → Mem → Out (Option D)} {p : D → Bool} {M : Mem} {ds : List D} (h : ∀ d ∈ ds, f d M = .ok (if p d then some d else none) M) : compL f ds M = .ok (ds.filter p) M := by
  rw [compL_pure (g := fun d => if p d then some d else none) h]
  congr 1
  induction ds with
  | nil => rfl
  | cons d ds ih =>
    rw [List.filterMap_cons, List.filter_cons, ih fun x hx => h x (List.mem_cons_of_mem _ hx)]
    cases p d <;> rfl
/-- side by side -/
inductive All2 (P : D → D → Prop) : List D → List D → Prop where
  | nil : All2 P [] []
  | cons {x y : D} {xs ys : List D} : P x y → All2 P xs ys → All2 P (x :: xs) (y :: ys)
theorem compL_ok {f : D → Mem → Out (Option D)} (I : Mem → Prop) (P : D → D → Prop) : ∀ {ds : List D} {M : Mem}, I M → (∀ d ∈ ds, ∀ M, I M → (f d M).Ok fun o M' => I M' ∧ ∃ x, o = some x ∧ P d x) → (compL f ds M).Ok fun xs M' => I M' ∧ All2 P ds xs
  | [], M, hI, _ => by rw [compL, Ok_ok]; exact ⟨hI, .nil⟩
  | d :: ds, M, hI, h => by
    rw [compL]
    refine (h d List.mem_cons_self M hI).bind fun o M1 ⟨h1, x, e, hp⟩ => ?_
    subst e
    refine (compL_ok I P h1 fun y hy => h y (List.mem_cons_of_mem _ hy)).bind fun xs M2 ⟨h2, hf⟩ => ?_
    rw [Ok_ok]; exact ⟨h2, .cons hp hf⟩
/-- a loop that keeps I and never leaves -/
theorem forL_ok {f : D → Env → Mem → Out Fl} (I : Nat → Env → Mem → Prop) {Q : Fl → Mem → Prop} : ∀ (ds : List D) (n : Nat) (ρ : Env) (M : Mem), I n ρ M →
    (∀ (i : Nat) (d : D) (ρ : Env) (M : Mem), ds[i]? = some d → I (n + i) ρ M → (f d ρ M).Ok fun r M' => match r with | .nx ρ' => I (n + i + 1) ρ' M' | .rt d => Q (.rt d) M' | .bk ρ' => Q (.nx ρ') M') →
    (∀ ρ M, I (n + ds.length) ρ M → Q (.nx ρ) M) → (forL f ds ρ M).Ok Q
  | [], n, ρ, M, hI, _, hQ => by rw [forL, Ok_ok]; exact hQ ρ M hI
  | d :: ds, n, ρ, M, hI, h, hQ => by
    rw [forL]
    refine (h 0 d ρ M rfl hI).bind fun r M1 hr => ?_
    cases r with
    | rt d => rw [Ok_ok]; exact hr
    | bk ρ1 => rw [Ok_ok]; exact hr
    | nx ρ1 =>
      refine forL_ok I ds (n + 1) ρ1 M1 hr (fun i d ρ M e hi => ?_) fun ρ M hi => hQ ρ M (by rw [List.length_cons]; rwa [show n + (ds.length + 1) = n + 1 + ds.length by omega])
      have := h (i + 1) d ρ M e (by rwa [show n + (i + 1) = n + 1 + i by omega])
      rwa [show n + (i + 1) + 1 = n + 1 + i + 1 by omega] at this

section
variable (Γ : Prog) (cf : Calls)
/-- what comes behind a statement -/
noncomputable def seqF (ss : CSs) (r : Fl) (M : Mem) : Out Fl := match r with | .nx ρ1 => exSs Γ cf ss ρ1 M | .rt d => .ok (.rt d) M | .bk ρ1 => .ok (.bk ρ1) M
theorem ev_nil (ρ : Env) (M : Mem) : exSs Γ cf .nil ρ M = .ok (.nx ρ) M := by rw [exSs]
theorem ev_seq (s : CS) (ss : CSs) (ρ : Env) (M : Mem) : exSs Γ cf (.cons s ss) ρ M = (exS Γ cf s ρ M).bind (seqF Γ cf ss) := by
  rw [exSs]; congr
@[simp] theorem seqF_nx (ss : CSs) (ρ : Env) (M : Mem) : seqF Γ cf ss (.nx ρ) M = exSs Γ cf ss ρ M := rfl
@[simp] theorem seqF_rt (ss : CSs) (d : D) (M : Mem) : seqF Γ cf ss (.rt d) M = .ok (.rt d) M := rfl
@[simp] theorem seqF_bk (ss : CSs) (ρ : Env) (M : Mem) : seqF Γ cf ss (.bk ρ) M = .ok (.bk ρ) M := rfl
noncomputable def ifS (a b : CSs) (ρ : Env) (k : Bool) (M : Mem) : Out Fl := if k then exSs Γ cf a ρ M else exSs Γ cf b ρ M
theorem ev_ife (c : CE) (a b : CSs) (ρ : Env) (M : Mem) : exS Γ cf (.ife c a b) ρ M = (evC Γ cf c ρ M).bind (ifS Γ cf a b ρ) := by rw [exS]; rfl
@[simp] theorem ifS_true (a b : CSs) (ρ : Env) (M : Mem) : ifS Γ cf a b ρ true M = exSs Γ cf a ρ M := rfl
@[simp] theorem ifS_false (a b : CSs) (ρ : Env) (M : Mem) : ifS Γ cf a b ρ false M = exSs Γ cf b ρ M := rfl
noncomputable def bodyF (t : CT) (body : CSs) (d : D) (ρ : Env) (M : Mem) : Out Fl := (evT Γ cf t d ρ M).bind fun ρ1 M1 => exSs Γ cf body ρ1 M1
theorem ev_loop (t : CT) (it : CI) (body : CSs) (ρ : Env) (M : Mem) : exS Γ cf (.loop t it body) ρ M = (evI Γ cf it ρ M).bind fun ds M1 => forL (bodyF Γ cf t body) ds ρ M1 := by rw [exS]; rfl
noncomputable def andF (b : CE) (ρ : Env) (x : D) (M : Mem) : Out D := match truthD (rd M x) with | some true => evE Γ cf b ρ M | some false => .ok x M | none => .err
theorem ev_and (a b : CE) (ρ : Env) (M : Mem) : evE Γ cf (.and a b) ρ M = (evE Γ cf a ρ M).bind (andF Γ cf b ρ) := by rw [evE]; rfl
@[simp] theorem andF_true (b : CE) (ρ : Env) (M : Mem) : andF Γ cf b ρ (.bl true) M = evE Γ cf b ρ M := rfl
@[simp] theorem andF_false (b : CE) (ρ : Env) (M : Mem) : andF Γ cf b ρ (.bl false) M = .ok (.bl false) M := rfl
noncomputable def orF (b : CE) (ρ : Env) (x : D) (M : Mem) : Out D := match truthD (rd M x) with | some true => .ok x M | some false => evE Γ cf b ρ M | none => .err
theorem ev_or (a b : CE) (ρ : Env) (M : Mem) : evE Γ cf (.or a b) ρ M = (evE Γ cf a ρ M).bind (orF Γ cf b ρ) := by rw [evE]; rfl
@[simp] theorem orF_true (b : CE) (ρ : Env) (M : Mem) : orF Γ cf b ρ (.bl true) M = .ok (.bl true) M := rfl
@[simp] theorem orF_false (b : CE) (ρ : Env) (M : Mem) : orF Γ cf b ρ (.bl false) M = evE Γ cf b ρ M := rfl
noncomputable def iteF (a b : CE) (ρ : Env) (x : D) (M : Mem) : Out D := match truthD (rd M x) with | some true => evE Γ cf a ρ M | some false => evE Γ cf b ρ M | none => .err
theorem ev_ite (c a b : CE) (ρ : Env) (M : Mem) : evE Γ cf (.ite c a b) ρ M = (evE Γ cf c ρ M).bind (iteF Γ cf a b ρ) := by rw [evE]; rfl
@[simp] theorem iteF_true (a b : CE) (ρ : Env) (M : Mem) : iteF Γ cf a b ρ (.bl true) M = evE Γ cf a ρ M := rfl
@[simp] theorem iteF_false (a b : CE) (ρ : Env) (M : Mem) : iteF Γ cf a b ρ (.bl false) M = evE Γ cf b ρ M := rfl
/-- one item of a comprehension -/
noncomputable def itemF (own : List Nat) (tg : CT) (cond : CO) (elt : CE) (ρ : Env) (d : D) (M : Mem) : Out (Option D) :=
  ((evT Γ cf tg d (wipe ρ own) M).bind fun ρ1 M1 => (evO Γ cf cond ρ1 M1).bind fun c M2 => match c with
        | none => (evE Γ cf elt ρ1 M2).bind fun x M3 => .ok (some x) M3
        | some x => match truthD (rd M2 x) with
          | some true => (evE Γ cf elt ρ1 M2).bind fun x M3 => .ok (some x) M3
          | some false => .ok none M2
          | none => .err).calm
/-- what is made of the items -/
def mkL (live : Bool) (xs : List D) (M : Mem) : Out D := if live then .ok (.ref M.length) (M ++ [.lst xs]) else .ok (.lst xs) M
@[simp] theorem mkL_false (xs : List D) (M : Mem) : mkL false xs M = .ok (.lst xs) M := rfl
@[simp] theorem mkL_true (xs : List D) (M : Mem) : mkL true xs M = .ok (.ref M.length) (M ++ [.lst xs]) := rfl
/-- not too long -/
def lineF {α : Type} (ds : List D) (r : Out α) : Out α := if ds.length ≤ LINE then r else .err
theorem lineF_ok {α : Type} {ds : List D} (h : ds.length ≤ 1000000) (r : Out α) : lineF ds r = r := by
  unfold lineF
  rw [if_pos]
  unfold LINE
  omega
theorem ev_tup (es : CEs) (ρ : Env) (M : Mem) : evE Γ cf (.tup es) ρ M = (evEs Γ cf es ρ M).bind fun xs M1 => lineF xs (.ok (.tup xs) M1) := by rw [evE]; rfl
theorem ev_lst (live : Bool) (es : CEs) (ρ : Env) (M : Mem) : evE Γ cf (.lst live es) ρ M = (evEs Γ cf es ρ M).bind fun xs M1 => lineF xs (mkL live xs M1) := by rw [evE]; rfl
theorem ev_comp (live : Bool) (own : List Nat) (tg : CT) (it : CI) (cond : CO) (elt : CE) (ρ : Env) (M : Mem) : evE Γ cf (.comp live own tg it cond elt) ρ M =
    (evI Γ cf it ρ M).bind fun ds M1 => lineF ds ((compL (itemF Γ cf own tg cond elt ρ) ds M1).bind (mkL live)) := by
  rw [evE]; rfl
noncomputable def whiF (c : CE) (body : CSs) (n : Nat) (ρ : Env) (M : Mem) : Out Fl := whiL (evC Γ cf c) (fun ρ M => exSs Γ cf body ρ M) n ρ M
theorem ev_whil (c : CE) (body : CSs) (ρ : Env) (M : Mem) : exS Γ cf (.whil c body) ρ M = whiF Γ cf c body WMAX ρ M := by rw [exS]; rfl
/-- the numbers of a range -/
def rngF (x : D) (M : Mem) : Out (List D) := match x with | .int j => if smallR j then .ok (rngD 0 j.toNat) M else .err | _ => .err
theorem ev_rng1 (a : CE) (ρ : Env) (M : Mem) : evI Γ cf (.rng1 a) ρ M = (evE Γ cf a ρ M).bind rngF := by rw [evI]; rfl
def rngF2 (x y : D) (M : Mem) : Out (List D) := match x, y with
      | .int i, .int j => if smallR i && smallR j then .ok (rngD i (j - i).toNat) M else .err
      | _, _ => .err
theorem ev_rng2 (a b : CE) (ρ : Env) (M : Mem) : evI Γ cf (.rng2 a b) ρ M = (evE Γ cf a ρ M).bind fun x M1 => (evE Γ cf b ρ M1).bind (rngF2 x) := by rw [evI]; rfl
def zipF (x y : D) (M : Mem) : Out (List D) := match x, y with
      | .tup xs, .tup ys => .ok (zipD xs ys) M
      | .lst xs, .lst ys => .ok (zipD xs ys) M
      | _, _ => .err
theorem ev_zip (a b : CE) (ρ : Env) (M : Mem) : evI Γ cf (.zip a b) ρ M = (evE Γ cf a ρ M).bind fun x M1 => (evE Γ cf b ρ M1).bind (zipF x) := by rw [evI]; rfl
theorem smallR_of {i : Int} (h1 : -1000000 ≤ i) (h : i ≤ 1000000) : smallR i = true := by
  unfold smallR
  simp only [Bool.and_eq_true, decide_eq_true_eq]
  omega
theorem rngF_of {i : Int} (h1 : -1000000 ≤ i) (h : i ≤ 1000000) (M : Mem) : rngF (.int i) M = .ok (rngD 0 i.toNat) M := by
  unfold rngF
  dsimp only
  rw [smallR_of h1 h]
  rfl
theorem rngF_nat {n : Nat} (h : n ≤ 1000000) (M : Mem) : rngF (.int n) M = .ok (rngD 0 n) M := rngF_of (by omega) (by omega) M
theorem itemF_of {own : List Nat} {tg : CT} {cond : CO} {elt : CE} {ρ : Env} {d : D} {M : Mem} : itemF Γ cf own tg cond elt ρ d M = ((evT Γ cf tg d (wipe ρ own) M).bind fun ρ1 M1 => (evO Γ cf cond ρ1 M1).bind fun c M2 => match c with
        | none => (evE Γ cf elt ρ1 M2).bind fun x M3 => .ok (some x) M3
        | some x => match truthD (rd M2 x) with
          | some true => (evE Γ cf elt ρ1 M2).bind fun x M3 => .ok (some x) M3
          | some false => .ok none M2
          | none => .err).calm := rfl
end
@[simp] theorem calm_bl (b : Bool) (x : D) (M : Mem) : (match (some b : Option Bool) with | some true => Out.ok (some x) M | some false => .ok none M | none => .err).calm = .ok (if b then some x else none) M := by cases b <;> rfl
end GW

set_option linter.all false
set_option autoImplicit false
set_option maxRecDepth 100000
set_option maxHeartbeats 1000000
/-! What the defs that the laws share come to. -/
namespace GW
open PySem
variable {Γ : Prog} {k : Nat} {M : Mem}
def isWhole : D → Bool | .int _ => true | _ => false
theorem is_whole_call [Fn Γ 0 ⟨1, 1, Sh.b0⟩] {d : D} (hd : flat d = true) : callF Γ (k+1) 0 [d] M = .ok (.bl (isWhole d)) M := by
  rw [call_run ⟨1, 1, Sh.b0⟩]
  unfold Sh.b0
  cases d <;> first | (cases hd; done) | simp -implicitDefEqProofs [ev_nil, ev_seq, exS.eq_1, exS.eq_2, exS.eq_3, exS.eq_4, exS.eq_5, ev_ife, ev_loop, ev_whil, exS.eq_9, exS.eq_10, exS.eq_11, exS.eq_12, exS.eq_13, evE.eq_1, evE.eq_2, evE.eq_3, evE.eq_4, evE.eq_5, evE.eq_6, ev_and, ev_or, evE.eq_9, evE.eq_10, ev_ite, ev_tup, ev_lst, lineF_ok, ev_comp, evE.eq_15, evE.eq_16, evE.eq_17, evE.eq_18, evE.eq_19, evE.eq_20, evE.eq_21, evE.eq_22, evE.eq_23, evE.eq_24, evE.eq_25, evE.eq_26, evE.eq_27, evE.eq_28, evE.eq_29, evE.eq_30, evE.eq_31, evE.eq_32, evE.eq_33, evE.eq_34, Ok_bind, Ok_fin, evEs, evO, evT, evTs, evI.eq_1, ev_rng1, ev_rng2, evI.eq_4, ev_zip, evC, startE, wipe, lenTs,isAny, isTy, okTy, isWhole]
def within (d : D) (a b : Int) : Bool := match d with | .int i => decide (a ≤ i) && decide (i ≤ b) | _ => false
theorem is_within_call [Fn Γ 0 ⟨1, 1, Sh.b0⟩] [Fn Γ 1 ⟨3, 3, Sh.b1⟩] {d : D} (hd : flat d = true) {a b : Int} : callF Γ (k+2) 1 [d, .int a, .int b] M = .ok (.bl (within d a b)) M := by
  rw [call_run ⟨3, 3, Sh.b1⟩]
  unfold Sh.b1
  simp -implicitDefEqProofs [ev_nil, ev_seq, exS.eq_1, exS.eq_2, exS.eq_3, exS.eq_4, exS.eq_5, ev_ife, ev_loop, ev_whil, exS.eq_9, exS.eq_10, exS.eq_11, exS.eq_12, exS.eq_13, evE.eq_1, evE.eq_2, evE.eq_3, evE.eq_4, evE.eq_5, evE.eq_6, ev_and, ev_or, evE.eq_9, evE.eq_10, ev_ite, ev_tup, ev_lst, lineF_ok, ev_comp, evE.eq_15, evE.eq_16, evE.eq_17, evE.eq_18, evE.eq_19, evE.eq_20, evE.eq_21, evE.eq_22, evE.eq_23, evE.eq_24, evE.eq_25, evE.eq_26, evE.eq_27, evE.eq_28, evE.eq_29, evE.eq_30, evE.eq_31, evE.eq_32, evE.eq_33, evE.eq_34, Ok_bind, Ok_fin, evEs, evO, evT, evTs, evI.eq_1, ev_rng1, ev_rng2, evI.eq_4, ev_zip, evC, startE, wipe, lenTs,is_whole_call, hd]
  cases d <;> first | (cases hd; done) | simp -implicitDefEqProofs [ev_nil, ev_seq, exS.eq_1, exS.eq_2, exS.eq_3, exS.eq_4, exS.eq_5, ev_ife, ev_loop, ev_whil, exS.eq_9, exS.eq_10, exS.eq_11, exS.eq_12, exS.eq_13, evE.eq_1, evE.eq_2, evE.eq_3, evE.eq_4, evE.eq_5, evE.eq_6, ev_and, ev_or, evE.eq_9, evE.eq_10, ev_ite, ev_tup, ev_lst, lineF_ok, ev_comp, evE.eq_15, evE.eq_16, evE.eq_17, evE.eq_18, evE.eq_19, evE.eq_20, evE.eq_21, evE.eq_22, evE.eq_23, evE.eq_24, evE.eq_25, evE.eq_26, evE.eq_27, evE.eq_28, evE.eq_29, evE.eq_30, evE.eq_31, evE.eq_32, evE.eq_33, evE.eq_34, Ok_bind, Ok_fin, evEs, evO, evT, evTs, evI.eq_1, ev_rng1, ev_rng2, evI.eq_4, ev_zip, evC, startE, wipe, lenTs,isWhole, cmpD, within]
  rename_i i
  by_cases h : a ≤ i <;> simp -implicitDefEqProofs [ev_nil, ev_seq, exS.eq_1, exS.eq_2, exS.eq_3, exS.eq_4, exS.eq_5, ev_ife, ev_loop, ev_whil, exS.eq_9, exS.eq_10, exS.eq_11, exS.eq_12, exS.eq_13, evE.eq_1, evE.eq_2, evE.eq_3, evE.eq_4, evE.eq_5, evE.eq_6, ev_and, ev_or, evE.eq_9, evE.eq_10, ev_ite, ev_tup, ev_lst, lineF_ok, ev_comp, evE.eq_15, evE.eq_16, evE.eq_17, evE.eq_18, evE.eq_19, evE.eq_20, evE.eq_21, evE.eq_22, evE.eq_23, evE.eq_24, evE.eq_25, evE.eq_26, evE.eq_27, evE.eq_28, evE.eq_29, evE.eq_30, evE.eq_31, evE.eq_32, evE.eq_33, evE.eq_34, Ok_bind, Ok_fin, evEs, evO, evT, evTs, evI.eq_1, ev_rng1, ev_rng2, evI.eq_4, ev_zip, evC, startE, wipe, lenTs,h]
def isRow (d : D) (n : Int) : Bool := match d with | .tup xs => (xs.length : Int) == n | _ => false
theorem is_row_call [Fn Γ 3 ⟨2, 2, Sh.b3⟩] {d : D} (hd : flat d = true) {n : Int} : callF Γ (k+1) 3 [d, .int n] M = .ok (.bl (isRow d n)) M := by
  rw [call_run ⟨2, 2, Sh.b3⟩]
  unfold Sh.b3
  cases d <;> first | (cases hd; done) | simp -implicitDefEqProofs [ev_nil, ev_seq, exS.eq_1, exS.eq_2, exS.eq_3, exS.eq_4, exS.eq_5, ev_ife, ev_loop, ev_whil, exS.eq_9, exS.eq_10, exS.eq_11, exS.eq_12, exS.eq_13, evE.eq_1, evE.eq_2, evE.eq_3, evE.eq_4, evE.eq_5, evE.eq_6, ev_and, ev_or, evE.eq_9, evE.eq_10, ev_ite, ev_tup, ev_lst, lineF_ok, ev_comp, evE.eq_15, evE.eq_16, evE.eq_17, evE.eq_18, evE.eq_19, evE.eq_20, evE.eq_21, evE.eq_22, evE.eq_23, evE.eq_24, evE.eq_25, evE.eq_26, evE.eq_27, evE.eq_28, evE.eq_29, evE.eq_30, evE.eq_31, evE.eq_32, evE.eq_33, evE.eq_34, Ok_bind, Ok_fin, evEs, evO, evT, evTs, evI.eq_1, ev_rng1, ev_rng2, evI.eq_4, ev_zip, evC, startE, wipe, lenTs,isAny, isTy, okTy, isRow, cmpD, bltD, eqD, data, eqB]
def areNums (d : D) (n a b : Int) : Bool := match d with | .tup xs => ((xs.length : Int) == n) && xs.all (within · a b) | _ => false
def flat1 : D → Bool | .tup xs => xs.all flat | d => flat d
theorem flat1_flat {d : D} (h : flat1 d = true) : flat d = true := by cases d <;> first | rfl | exact h
theorem flat1_data {n : Nat} {d : D} (h : data n d = true) : flat1 d = true := by
  cases d with
  | tup xs =>
    cases n with
    | zero => simp [data] at h
    | succ n => simp only [data] at h; simp only [flat1, List.all_eq_true]; exact fun x hx => flat_data (dataL_iff.mp h x hx)
  | _ => exact flat_data h
theorem blsOf_map {α : Type} (p : α → Bool) : ∀ xs : List α, blsOf (xs.map fun x => .bl (p x)) = some (xs.map p)
  | [] => rfl
  | x :: xs => by rw [List.map_cons, blsOf, blsOf_map p xs]; rfl
theorem are_numbers_call [Fn Γ 0 ⟨1, 1, Sh.b0⟩] [Fn Γ 1 ⟨3, 3, Sh.b1⟩] [Fn Γ 3 ⟨2, 2, Sh.b3⟩] [Fn Γ 4 ⟨4, 5, Sh.b4⟩] {d : D} (hd : flat1 d = true) {n a b : Int} (hl : n ≤ 1000000) : callF Γ (k+3) 4 [d, .int n, .int a, .int b] M = .ok (.bl (areNums d n a b)) M := by
  rw [call_run ⟨4, 5, Sh.b4⟩]
  unfold Sh.b4
  simp -implicitDefEqProofs [ev_nil, ev_seq, exS.eq_1, exS.eq_2, exS.eq_3, exS.eq_4, exS.eq_5, ev_ife, ev_loop, ev_whil, exS.eq_9, exS.eq_10, exS.eq_11, exS.eq_12, exS.eq_13, evE.eq_1, evE.eq_2, evE.eq_3, evE.eq_4, evE.eq_5, evE.eq_6, ev_and, ev_or, evE.eq_9, evE.eq_10, ev_ite, ev_tup, ev_lst, lineF_ok, ev_comp, evE.eq_15, evE.eq_16, evE.eq_17, evE.eq_18, evE.eq_19, evE.eq_20, evE.eq_21, evE.eq_22, evE.eq_23, evE.eq_24, evE.eq_25, evE.eq_26, evE.eq_27, evE.eq_28, evE.eq_29, evE.eq_30, evE.eq_31, evE.eq_32, evE.eq_33, evE.eq_34, Ok_bind, Ok_fin, evEs, evO, evT, evTs, evI.eq_1, ev_rng1, ev_rng2, evI.eq_4, ev_zip, evC, startE, wipe, lenTs,is_row_call, flat1_flat hd]
  cases d <;> first | (cases hd; done) | (simp -implicitDefEqProofs [ev_nil, ev_seq, exS.eq_1, exS.eq_2, exS.eq_3, exS.eq_4, exS.eq_5, ev_ife, ev_loop, ev_whil, exS.eq_9, exS.eq_10, exS.eq_11, exS.eq_12, exS.eq_13, evE.eq_1, evE.eq_2, evE.eq_3, evE.eq_4, evE.eq_5, evE.eq_6, ev_and, ev_or, evE.eq_9, evE.eq_10, ev_ite, ev_tup, ev_lst, lineF_ok, ev_comp, evE.eq_15, evE.eq_16, evE.eq_17, evE.eq_18, evE.eq_19, evE.eq_20, evE.eq_21, evE.eq_22, evE.eq_23, evE.eq_24, evE.eq_25, evE.eq_26, evE.eq_27, evE.eq_28, evE.eq_29, evE.eq_30, evE.eq_31, evE.eq_32, evE.eq_33, evE.eq_34, Ok_bind, Ok_fin, evEs, evO, evT, evTs, evI.eq_1, ev_rng1, ev_rng2, evI.eq_4, ev_zip, evC, startE, wipe, lenTs,isRow, areNums]; done) | skip
  rename_i xs
  simp -implicitDefEqProofs [ev_nil, ev_seq, exS.eq_1, exS.eq_2, exS.eq_3, exS.eq_4, exS.eq_5, ev_ife, ev_loop, ev_whil, exS.eq_9, exS.eq_10, exS.eq_11, exS.eq_12, exS.eq_13, evE.eq_1, evE.eq_2, evE.eq_3, evE.eq_4, evE.eq_5, evE.eq_6, ev_and, ev_or, evE.eq_9, evE.eq_10, ev_ite, ev_tup, ev_lst, lineF_ok, ev_comp, evE.eq_15, evE.eq_16, evE.eq_17, evE.eq_18, evE.eq_19, evE.eq_20, evE.eq_21, evE.eq_22, evE.eq_23, evE.eq_24, evE.eq_25, evE.eq_26, evE.eq_27, evE.eq_28, evE.eq_29, evE.eq_30, evE.eq_31, evE.eq_32, evE.eq_33, evE.eq_34, Ok_bind, Ok_fin, evEs, evO, evT, evTs, evI.eq_1, ev_rng1, ev_rng2, evI.eq_4, ev_zip, evC, startE, wipe, lenTs,isRow, areNums, itemsD]
  by_cases h : (xs.length : Int) = n
  · have h2 : xs.length ≤ 1000000 := by omega
    simp -implicitDefEqProofs [ev_nil, ev_seq, exS.eq_1, exS.eq_2, exS.eq_3, exS.eq_4, exS.eq_5, ev_ife, ev_loop, ev_whil, exS.eq_9, exS.eq_10, exS.eq_11, exS.eq_12, exS.eq_13, evE.eq_1, evE.eq_2, evE.eq_3, evE.eq_4, evE.eq_5, evE.eq_6, ev_and, ev_or, evE.eq_9, evE.eq_10, ev_ite, ev_tup, ev_lst, lineF_ok, ev_comp, evE.eq_15, evE.eq_16, evE.eq_17, evE.eq_18, evE.eq_19, evE.eq_20, evE.eq_21, evE.eq_22, evE.eq_23, evE.eq_24, evE.eq_25, evE.eq_26, evE.eq_27, evE.eq_28, evE.eq_29, evE.eq_30, evE.eq_31, evE.eq_32, evE.eq_33, evE.eq_34, Ok_bind, Ok_fin, evEs, evO, evT, evTs, evI.eq_1, ev_rng1, ev_rng2, evI.eq_4, ev_zip, evC, startE, wipe, lenTs,h, h2]
    rw [compL_map (g := fun x => .bl (within x a b))]
    · simp -implicitDefEqProofs [ev_nil, ev_seq, exS.eq_1, exS.eq_2, exS.eq_3, exS.eq_4, exS.eq_5, ev_ife, ev_loop, ev_whil, exS.eq_9, exS.eq_10, exS.eq_11, exS.eq_12, exS.eq_13, evE.eq_1, evE.eq_2, evE.eq_3, evE.eq_4, evE.eq_5, evE.eq_6, ev_and, ev_or, evE.eq_9, evE.eq_10, ev_ite, ev_tup, ev_lst, lineF_ok, ev_comp, evE.eq_15, evE.eq_16, evE.eq_17, evE.eq_18, evE.eq_19, evE.eq_20, evE.eq_21, evE.eq_22, evE.eq_23, evE.eq_24, evE.eq_25, evE.eq_26, evE.eq_27, evE.eq_28, evE.eq_29, evE.eq_30, evE.eq_31, evE.eq_32, evE.eq_33, evE.eq_34, Ok_bind, Ok_fin, evEs, evO, evT, evTs, evI.eq_1, ev_rng1, ev_rng2, evI.eq_4, ev_zip, evC, startE, wipe, lenTs,bltD, blsOf_map]
    · intro x hx
      have hf : flat x = true := by simp only [flat1, List.all_eq_true] at hd; exact hd x hx
      simp -implicitDefEqProofs [ev_nil, ev_seq, exS.eq_1, exS.eq_2, exS.eq_3, exS.eq_4, exS.eq_5, ev_ife, ev_loop, ev_whil, exS.eq_9, exS.eq_10, exS.eq_11, exS.eq_12, exS.eq_13, evE.eq_1, evE.eq_2, evE.eq_3, evE.eq_4, evE.eq_5, evE.eq_6, ev_and, ev_or, evE.eq_9, evE.eq_10, ev_ite, ev_tup, ev_lst, lineF_ok, ev_comp, evE.eq_15, evE.eq_16, evE.eq_17, evE.eq_18, evE.eq_19, evE.eq_20, evE.eq_21, evE.eq_22, evE.eq_23, evE.eq_24, evE.eq_25, evE.eq_26, evE.eq_27, evE.eq_28, evE.eq_29, evE.eq_30, evE.eq_31, evE.eq_32, evE.eq_33, evE.eq_34, Ok_bind, Ok_fin, evEs, evO, evT, evTs, evI.eq_1, ev_rng1, ev_rng2, evI.eq_4, ev_zip, evC, startE, wipe, lenTs,itemF_of, is_within_call, hf]
  · have h3 : ((xs.length : Int) == n) = false := by simpa using h
    simp -implicitDefEqProofs [ev_nil, ev_seq, exS.eq_1, exS.eq_2, exS.eq_3, exS.eq_4, exS.eq_5, ev_ife, ev_loop, ev_whil, exS.eq_9, exS.eq_10, exS.eq_11, exS.eq_12, exS.eq_13, evE.eq_1, evE.eq_2, evE.eq_3, evE.eq_4, evE.eq_5, evE.eq_6, ev_and, ev_or, evE.eq_9, evE.eq_10, ev_ite, ev_tup, ev_lst, lineF_ok, ev_comp, evE.eq_15, evE.eq_16, evE.eq_17, evE.eq_18, evE.eq_19, evE.eq_20, evE.eq_21, evE.eq_22, evE.eq_23, evE.eq_24, evE.eq_25, evE.eq_26, evE.eq_27, evE.eq_28, evE.eq_29, evE.eq_30, evE.eq_31, evE.eq_32, evE.eq_33, evE.eq_34, Ok_bind, Ok_fin, evEs, evO, evT, evTs, evI.eq_1, ev_rng1, ev_rng2, evI.eq_4, ev_zip, evC, startE, wipe, lenTs,h3]
def wrongN (d : D) (a b : Int) : D := if within d a b then .non else .int (-1)
theorem wrong_number_call [Fn Γ 0 ⟨1, 1, Sh.b0⟩] [Fn Γ 1 ⟨3, 3, Sh.b1⟩] [Fn Γ 8 ⟨3, 3, Sh.b8⟩] {d : D} (hd : flat d = true) {a b : Int} : callF Γ (k+3) 8 [d, .int a, .int b] M = .ok (wrongN d a b) M := by
  rw [call_run ⟨3, 3, Sh.b8⟩]
  unfold Sh.b8
  simp -implicitDefEqProofs [ev_nil, ev_seq, exS.eq_1, exS.eq_2, exS.eq_3, exS.eq_4, exS.eq_5, ev_ife, ev_loop, ev_whil, exS.eq_9, exS.eq_10, exS.eq_11, exS.eq_12, exS.eq_13, evE.eq_1, evE.eq_2, evE.eq_3, evE.eq_4, evE.eq_5, evE.eq_6, ev_and, ev_or, evE.eq_9, evE.eq_10, ev_ite, ev_tup, ev_lst, lineF_ok, ev_comp, evE.eq_15, evE.eq_16, evE.eq_17, evE.eq_18, evE.eq_19, evE.eq_20, evE.eq_21, evE.eq_22, evE.eq_23, evE.eq_24, evE.eq_25, evE.eq_26, evE.eq_27, evE.eq_28, evE.eq_29, evE.eq_30, evE.eq_31, evE.eq_32, evE.eq_33, evE.eq_34, Ok_bind, Ok_fin, evEs, evO, evT, evTs, evI.eq_1, ev_rng1, ev_rng2, evI.eq_4, ev_zip, evC, startE, wipe, lenTs,is_within_call, hd]
  cases h : within d a b <;> simp -implicitDefEqProofs [ev_nil, ev_seq, exS.eq_1, exS.eq_2, exS.eq_3, exS.eq_4, exS.eq_5, ev_ife, ev_loop, ev_whil, exS.eq_9, exS.eq_10, exS.eq_11, exS.eq_12, exS.eq_13, evE.eq_1, evE.eq_2, evE.eq_3, evE.eq_4, evE.eq_5, evE.eq_6, ev_and, ev_or, evE.eq_9, evE.eq_10, ev_ite, ev_tup, ev_lst, lineF_ok, ev_comp, evE.eq_15, evE.eq_16, evE.eq_17, evE.eq_18, evE.eq_19, evE.eq_20, evE.eq_21, evE.eq_22, evE.eq_23, evE.eq_24, evE.eq_25, evE.eq_26, evE.eq_27, evE.eq_28, evE.eq_29, evE.eq_30, evE.eq_31, evE.eq_32, evE.eq_33, evE.eq_34, Ok_bind, Ok_fin, evEs, evO, evT, evTs, evI.eq_1, ev_rng1, ev_rng2, evI.eq_4, ev_zip, evC, startE, wipe, lenTs,wrongN, h]
/-- where it is wrong, as an exception says -/
def plD : D → D | .int i => if i = -1 then .non else .int i | d => d
theorem require_part_non [Fn Γ 7 ⟨2, 2, Sh.b7⟩] {p : D} : callF Γ (k+1) 7 [p, .non] M = .ok .non M := by
  rw [call_run ⟨2, 2, Sh.b7⟩]
  unfold Sh.b7
  simp -implicitDefEqProofs [ev_nil, ev_seq, exS.eq_1, exS.eq_2, exS.eq_3, exS.eq_4, exS.eq_5, ev_ife, ev_loop, ev_whil, exS.eq_9, exS.eq_10, exS.eq_11, exS.eq_12, exS.eq_13, evE.eq_1, evE.eq_2, evE.eq_3, evE.eq_4, evE.eq_5, evE.eq_6, ev_and, ev_or, evE.eq_9, evE.eq_10, ev_ite, ev_tup, ev_lst, lineF_ok, ev_comp, evE.eq_15, evE.eq_16, evE.eq_17, evE.eq_18, evE.eq_19, evE.eq_20, evE.eq_21, evE.eq_22, evE.eq_23, evE.eq_24, evE.eq_25, evE.eq_26, evE.eq_27, evE.eq_28, evE.eq_29, evE.eq_30, evE.eq_31, evE.eq_32, evE.eq_33, evE.eq_34, Ok_bind, Ok_fin, evEs, evO, evT, evTs, evI.eq_1, ev_rng1, ev_rng2, evI.eq_4, ev_zip, evC, startE, wipe, lenTs,cmpD]
theorem require_part_int [Fn Γ 7 ⟨2, 2, Sh.b7⟩] {p : D} {i : Int} : callF Γ (k+1) 7 [p, .int i] M = .exc 1 [p, plD (.int i)] M := by
  rw [call_run ⟨2, 2, Sh.b7⟩]
  unfold Sh.b7
  simp -implicitDefEqProofs [ev_nil, ev_seq, exS.eq_1, exS.eq_2, exS.eq_3, exS.eq_4, exS.eq_5, ev_ife, ev_loop, ev_whil, exS.eq_9, exS.eq_10, exS.eq_11, exS.eq_12, exS.eq_13, evE.eq_1, evE.eq_2, evE.eq_3, evE.eq_4, evE.eq_5, evE.eq_6, ev_and, ev_or, evE.eq_9, evE.eq_10, ev_ite, ev_tup, ev_lst, lineF_ok, ev_comp, evE.eq_15, evE.eq_16, evE.eq_17, evE.eq_18, evE.eq_19, evE.eq_20, evE.eq_21, evE.eq_22, evE.eq_23, evE.eq_24, evE.eq_25, evE.eq_26, evE.eq_27, evE.eq_28, evE.eq_29, evE.eq_30, evE.eq_31, evE.eq_32, evE.eq_33, evE.eq_34, Ok_bind, Ok_fin, evEs, evO, evT, evTs, evI.eq_1, ev_rng1, ev_rng2, evI.eq_4, ev_zip, evC, startE, wipe, lenTs,cmpD, eqD, data, eqB, plD]
  by_cases h : i = -1
  · simp -implicitDefEqProofs [ev_nil, ev_seq, exS.eq_1, exS.eq_2, exS.eq_3, exS.eq_4, exS.eq_5, ev_ife, ev_loop, ev_whil, exS.eq_9, exS.eq_10, exS.eq_11, exS.eq_12, exS.eq_13, evE.eq_1, evE.eq_2, evE.eq_3, evE.eq_4, evE.eq_5, evE.eq_6, ev_and, ev_or, evE.eq_9, evE.eq_10, ev_ite, ev_tup, ev_lst, lineF_ok, ev_comp, evE.eq_15, evE.eq_16, evE.eq_17, evE.eq_18, evE.eq_19, evE.eq_20, evE.eq_21, evE.eq_22, evE.eq_23, evE.eq_24, evE.eq_25, evE.eq_26, evE.eq_27, evE.eq_28, evE.eq_29, evE.eq_30, evE.eq_31, evE.eq_32, evE.eq_33, evE.eq_34, Ok_bind, Ok_fin, evEs, evO, evT, evTs, evI.eq_1, ev_rng1, ev_rng2, evI.eq_4, ev_zip, evC, startE, wipe, lenTs,h]
  · have h3 : (i == -1) = false := by simpa using h
    simp -implicitDefEqProofs [ev_nil, ev_seq, exS.eq_1, exS.eq_2, exS.eq_3, exS.eq_4, exS.eq_5, ev_ife, ev_loop, ev_whil, exS.eq_9, exS.eq_10, exS.eq_11, exS.eq_12, exS.eq_13, evE.eq_1, evE.eq_2, evE.eq_3, evE.eq_4, evE.eq_5, evE.eq_6, ev_and, ev_or, evE.eq_9, evE.eq_10, ev_ite, ev_tup, ev_lst, lineF_ok, ev_comp, evE.eq_15, evE.eq_16, evE.eq_17, evE.eq_18, evE.eq_19, evE.eq_20, evE.eq_21, evE.eq_22, evE.eq_23, evE.eq_24, evE.eq_25, evE.eq_26, evE.eq_27, evE.eq_28, evE.eq_29, evE.eq_30, evE.eq_31, evE.eq_32, evE.eq_33, evE.eq_34, Ok_bind, Ok_fin, evEs, evO, evT, evTs, evI.eq_1, ev_rng1, ev_rng2, evI.eq_4, ev_zip, evC, startE, wipe, lenTs,h3, h]

/-! ### the first that is wrong -/
def firstBad (J : D → List D → Bool) (xs : List D) : List D → Nat → D
  | [], _ => .non
  | x :: r, i => if J x (xs.take i) then firstBad J xs r (i + 1) else .int i
def firstWrong (d : D) (a b : Int) (J : D → List D → Bool) : D := match d with
  | .tup xs => if a ≤ xs.length ∧ (xs.length : Int) ≤ b then firstBad J xs xs 0 else .int (-1)
  | _ => .int (-1)
theorem cutL_take {α : Type} (xs : List α) (i : Nat) : cutL xs none (some (i : Int)) = xs.take i := by
  simp [cutL, sIx]
  rw [if_neg (by omega)]
  omega
theorem cutL_drop {α : Type} (xs : List α) (i : Nat) : cutL xs (some (i : Int)) none = xs.drop i := by
  simp only [cutL, sIx]
  rw [if_neg (by omega)]
  rw [List.take_of_length_le (by rw [List.length_drop]; omega)]
  by_cases h : i ≤ xs.length
  · congr 1
    omega
  · rw [List.drop_of_length_le (by omega), List.drop_of_length_le (by omega)]
theorem slcD_take (xs : List D) (i : Nat) : slcD (.tup xs) none (some (i : Int)) = some (.tup (xs.take i)) := by rw [slcD, cutL_take]
theorem slcD_drop (xs : List D) (i : Nat) : slcD (.tup xs) (some (i : Int)) none = some (.tup (xs.drop i)) := by rw [slcD, cutL_drop]
theorem first_wrong_call [Fn Γ 6 ⟨4, 6, Sh.b6⟩] {d : D} (hd : flat d = true) {a b : Int} {g : Nat} {J : D → List D → Bool} (hb : b ≤ 16777216) (hg : (Γ.fn g).isSome = true)
    (hJ : ∀ xs i x, d = .tup xs → xs[i]? = some x → callF Γ k g [x, .tup (xs.take i)] M = .ok (.bl (J x (xs.take i))) M) : callF Γ (k+1) 6 [d, .int a, .int b, .fn g] M = .ok (firstWrong d a b J) M := by
  rw [call_run ⟨4, 6, Sh.b6⟩]
  unfold Sh.b6
  cases d <;> first | (cases hd; done) | (simp -implicitDefEqProofs [ev_nil, ev_seq, exS.eq_1, exS.eq_2, exS.eq_3, exS.eq_4, exS.eq_5, ev_ife, ev_loop, ev_whil, exS.eq_9, exS.eq_10, exS.eq_11, exS.eq_12, exS.eq_13, evE.eq_1, evE.eq_2, evE.eq_3, evE.eq_4, evE.eq_5, evE.eq_6, ev_and, ev_or, evE.eq_9, evE.eq_10, ev_ite, ev_tup, ev_lst, lineF_ok, ev_comp, evE.eq_15, evE.eq_16, evE.eq_17, evE.eq_18, evE.eq_19, evE.eq_20, evE.eq_21, evE.eq_22, evE.eq_23, evE.eq_24, evE.eq_25, evE.eq_26, evE.eq_27, evE.eq_28, evE.eq_29, evE.eq_30, evE.eq_31, evE.eq_32, evE.eq_33, evE.eq_34, Ok_bind, Ok_fin, evEs, evO, evT, evTs, evI.eq_1, ev_rng1, ev_rng2, evI.eq_4, ev_zip, evC, startE, wipe, lenTs,isAny, isTy, okTy, firstWrong]; done) | skip
  rename_i xs
  simp -implicitDefEqProofs [ev_nil, ev_seq, exS.eq_1, exS.eq_2, exS.eq_3, exS.eq_4, exS.eq_5, ev_ife, ev_loop, ev_whil, exS.eq_9, exS.eq_10, exS.eq_11, exS.eq_12, exS.eq_13, evE.eq_1, evE.eq_2, evE.eq_3, evE.eq_4, evE.eq_5, evE.eq_6, ev_and, ev_or, evE.eq_9, evE.eq_10, ev_ite, ev_tup, ev_lst, lineF_ok, ev_comp, evE.eq_15, evE.eq_16, evE.eq_17, evE.eq_18, evE.eq_19, evE.eq_20, evE.eq_21, evE.eq_22, evE.eq_23, evE.eq_24, evE.eq_25, evE.eq_26, evE.eq_27, evE.eq_28, evE.eq_29, evE.eq_30, evE.eq_31, evE.eq_32, evE.eq_33, evE.eq_34, Ok_bind, Ok_fin, evEs, evO, evT, evTs, evI.eq_1, ev_rng1, ev_rng2, evI.eq_4, ev_zip, evC, startE, wipe, lenTs,isAny, isTy, okTy, firstWrong, cmpD, bltD, itemsD]
  have key : ∀ (r : List D) (pre : List D) (p q : Option D), xs = pre ++ r → ∃ p' q' : Option D, forL (bodyF Γ (callF Γ k) (CT.tup (CTs.cons (CT.name 4) (CTs.cons (CT.name 5) CTs.nil))) (CSs.cons (CS.ife (CE.calv 3 (CEs.cons (CE.var 5) (CEs.cons (CE.slc (CE.var 0) CO.no (CO.yes (CE.var 4))) CEs.nil))).not (CSs.cons (CS.ret (CE.var 4)) CSs.nil) CSs.nil) CSs.nil)) (enuD pre.length r) [some (.tup xs), some (.int a), some (.int b), some (.fn g), p, q] M =
      .ok (match firstBad J xs r pre.length with | .non => .nx [some (.tup xs), some (.int a), some (.int b), some (.fn g), p', q'] | d => .rt d) M := by
    intro r
    induction r with
    | nil => intro pre p q _; exact ⟨p, q, rfl⟩
    | cons x r ih =>
      intro pre p q e
      have hx : xs[pre.length]? = some x := by rw [e]; simp
      have hc := hJ xs pre.length x rfl hx
      rw [enuD, forL, firstBad]
      have step : bodyF Γ (callF Γ k) (CT.tup (CTs.cons (CT.name 4) (CTs.cons (CT.name 5) CTs.nil))) (CSs.cons (CS.ife (CE.calv 3 (CEs.cons (CE.var 5) (CEs.cons (CE.slc (CE.var 0) CO.no (CO.yes (CE.var 4))) CEs.nil))).not (CSs.cons (CS.ret (CE.var 4)) CSs.nil) CSs.nil) CSs.nil) (pairD (.int pre.length) x) [some (.tup xs), some (.int a), some (.int b), some (.fn g), p, q] M =
          .ok (if J x (xs.take pre.length) then .nx [some (.tup xs), some (.int a), some (.int b), some (.fn g), some (.int pre.length), some x] else .rt (.int pre.length)) M := by
        unfold bodyF pairD
        simp -implicitDefEqProofs [ev_nil, ev_seq, exS.eq_1, exS.eq_2, exS.eq_3, exS.eq_4, exS.eq_5, ev_ife, ev_loop, ev_whil, exS.eq_9, exS.eq_10, exS.eq_11, exS.eq_12, exS.eq_13, evE.eq_1, evE.eq_2, evE.eq_3, evE.eq_4, evE.eq_5, evE.eq_6, ev_and, ev_or, evE.eq_9, evE.eq_10, ev_ite, ev_tup, ev_lst, lineF_ok, ev_comp, evE.eq_15, evE.eq_16, evE.eq_17, evE.eq_18, evE.eq_19, evE.eq_20, evE.eq_21, evE.eq_22, evE.eq_23, evE.eq_24, evE.eq_25, evE.eq_26, evE.eq_27, evE.eq_28, evE.eq_29, evE.eq_30, evE.eq_31, evE.eq_32, evE.eq_33, evE.eq_34, Ok_bind, Ok_fin, evEs, evO, evT, evTs, evI.eq_1, ev_rng1, ev_rng2, evI.eq_4, ev_zip, evC, startE, wipe, lenTs,hg, partI, slcD_take, hc]
        cases J x (xs.take pre.length) <;> simp -implicitDefEqProofs [ev_nil, ev_seq, exS.eq_1, exS.eq_2, exS.eq_3, exS.eq_4, exS.eq_5, ev_ife, ev_loop, ev_whil, exS.eq_9, exS.eq_10, exS.eq_11, exS.eq_12, exS.eq_13, evE.eq_1, evE.eq_2, evE.eq_3, evE.eq_4, evE.eq_5, evE.eq_6, ev_and, ev_or, evE.eq_9, evE.eq_10, ev_ite, ev_tup, ev_lst, lineF_ok, ev_comp, evE.eq_15, evE.eq_16, evE.eq_17, evE.eq_18, evE.eq_19, evE.eq_20, evE.eq_21, evE.eq_22, evE.eq_23, evE.eq_24, evE.eq_25, evE.eq_26, evE.eq_27, evE.eq_28, evE.eq_29, evE.eq_30, evE.eq_31, evE.eq_32, evE.eq_33, evE.eq_34, Ok_bind, Ok_fin, evEs, evO, evT, evTs, evI.eq_1, ev_rng1, ev_rng2, evI.eq_4, ev_zip, evC, startE, wipe, lenTs]
      rw [step, bind_ok]
      cases hJx : J x (xs.take pre.length) with
      | true =>
        obtain ⟨p', q', e2⟩ := ih (pre ++ [x]) (some (.int pre.length)) (some x) (by rw [e]; simp)
        refine ⟨p', q', ?_⟩
        rw [List.length_append] at e2
        simpa using e2
      | false => exact ⟨p, q, rfl⟩
  by_cases h1 : a ≤ (xs.length : Int)
  · by_cases h2 : (xs.length : Int) ≤ b
    · have h3 : xs.length ≤ LINE := by unfold LINE; omega
      obtain ⟨p', q', e⟩ := key xs [] none none rfl
      simp only [List.length_nil] at e
      simp -implicitDefEqProofs [ev_nil, ev_seq, exS.eq_1, exS.eq_2, exS.eq_3, exS.eq_4, exS.eq_5, ev_ife, ev_loop, ev_whil, exS.eq_9, exS.eq_10, exS.eq_11, exS.eq_12, exS.eq_13, evE.eq_1, evE.eq_2, evE.eq_3, evE.eq_4, evE.eq_5, evE.eq_6, ev_and, ev_or, evE.eq_9, evE.eq_10, ev_ite, ev_tup, ev_lst, lineF_ok, ev_comp, evE.eq_15, evE.eq_16, evE.eq_17, evE.eq_18, evE.eq_19, evE.eq_20, evE.eq_21, evE.eq_22, evE.eq_23, evE.eq_24, evE.eq_25, evE.eq_26, evE.eq_27, evE.eq_28, evE.eq_29, evE.eq_30, evE.eq_31, evE.eq_32, evE.eq_33, evE.eq_34, Ok_bind, Ok_fin, evEs, evO, evT, evTs, evI.eq_1, ev_rng1, ev_rng2, evI.eq_4, ev_zip, evC, startE, wipe, lenTs,h1, h2, e]
      clear e key
      generalize firstBad J xs xs 0 = z
      cases z <;> simp [ev_seq, exS.eq_5, evE.eq_1, ev_nil]
    · simp -implicitDefEqProofs [ev_nil, ev_seq, exS.eq_1, exS.eq_2, exS.eq_3, exS.eq_4, exS.eq_5, ev_ife, ev_loop, ev_whil, exS.eq_9, exS.eq_10, exS.eq_11, exS.eq_12, exS.eq_13, evE.eq_1, evE.eq_2, evE.eq_3, evE.eq_4, evE.eq_5, evE.eq_6, ev_and, ev_or, evE.eq_9, evE.eq_10, ev_ite, ev_tup, ev_lst, lineF_ok, ev_comp, evE.eq_15, evE.eq_16, evE.eq_17, evE.eq_18, evE.eq_19, evE.eq_20, evE.eq_21, evE.eq_22, evE.eq_23, evE.eq_24, evE.eq_25, evE.eq_26, evE.eq_27, evE.eq_28, evE.eq_29, evE.eq_30, evE.eq_31, evE.eq_32, evE.eq_33, evE.eq_34, Ok_bind, Ok_fin, evEs, evO, evT, evTs, evI.eq_1, ev_rng1, ev_rng2, evI.eq_4, ev_zip, evC, startE, wipe, lenTs,h1, h2]
  · simp -implicitDefEqProofs [ev_nil, ev_seq, exS.eq_1, exS.eq_2, exS.eq_3, exS.eq_4, exS.eq_5, ev_ife, ev_loop, ev_whil, exS.eq_9, exS.eq_10, exS.eq_11, exS.eq_12, exS.eq_13, evE.eq_1, evE.eq_2, evE.eq_3, evE.eq_4, evE.eq_5, evE.eq_6, ev_and, ev_or, evE.eq_9, evE.eq_10, ev_ite, ev_tup, ev_lst, lineF_ok, ev_comp, evE.eq_15, evE.eq_16, evE.eq_17, evE.eq_18, evE.eq_19, evE.eq_20, evE.eq_21, evE.eq_22, evE.eq_23, evE.eq_24, evE.eq_25, evE.eq_26, evE.eq_27, evE.eq_28, evE.eq_29, evE.eq_30, evE.eq_31, evE.eq_32, evE.eq_33, evE.eq_34, Ok_bind, Ok_fin, evEs, evO, evT, evTs, evI.eq_1, ev_rng1, ev_rng2, evI.eq_4, ev_zip, evC, startE, wipe, lenTs,h1]
/-! ### parts -/
theorem replaced_call [Fn Γ 10 ⟨3, 3, Sh.b10⟩] {xs : List D} {i : Nat} {v : D} (hl : xs.length ≤ 1000000) : callF Γ (k+1) 10 [.tup xs, .int i, v] M = .ok (.tup (xs.take i ++ v :: xs.drop (i + 1))) M := by
  rw [call_run ⟨3, 3, Sh.b10⟩]
  unfold Sh.b10
  have e : ((i : Int) + 1) = ((i + 1 : Nat) : Int) := by omega
  have h1 : (xs.take i).length ≤ xs.length := List.length_take_le' ..
  have h2 : (xs.drop (i + 1)).length ≤ xs.length := by rw [List.length_drop]; omega
  have h3 : (1 : Nat) ≤ LINE := by decide
  simp -implicitDefEqProofs [ev_nil, ev_seq, exS.eq_1, exS.eq_2, exS.eq_3, exS.eq_4, exS.eq_5, ev_ife, ev_loop, ev_whil, exS.eq_9, exS.eq_10, exS.eq_11, exS.eq_12, exS.eq_13, evE.eq_1, evE.eq_2, evE.eq_3, evE.eq_4, evE.eq_5, evE.eq_6, ev_and, ev_or, evE.eq_9, evE.eq_10, ev_ite, ev_tup, ev_lst, lineF_ok, ev_comp, evE.eq_15, evE.eq_16, evE.eq_17, evE.eq_18, evE.eq_19, evE.eq_20, evE.eq_21, evE.eq_22, evE.eq_23, evE.eq_24, evE.eq_25, evE.eq_26, evE.eq_27, evE.eq_28, evE.eq_29, evE.eq_30, evE.eq_31, evE.eq_32, evE.eq_33, evE.eq_34, Ok_bind, Ok_fin, evEs, evO, evT, evTs, evI.eq_1, ev_rng1, ev_rng2, evI.eq_4, ev_zip, evC, startE, wipe, lenTs,partI, slcD_take, binD, h3]
  rw [if_pos (by unfold LINE; simp at h1; omega)]
  simp -implicitDefEqProofs [ev_nil, ev_seq, exS.eq_1, exS.eq_2, exS.eq_3, exS.eq_4, exS.eq_5, ev_ife, ev_loop, ev_whil, exS.eq_9, exS.eq_10, exS.eq_11, exS.eq_12, exS.eq_13, evE.eq_1, evE.eq_2, evE.eq_3, evE.eq_4, evE.eq_5, evE.eq_6, ev_and, ev_or, evE.eq_9, evE.eq_10, ev_ite, ev_tup, ev_lst, lineF_ok, ev_comp, evE.eq_15, evE.eq_16, evE.eq_17, evE.eq_18, evE.eq_19, evE.eq_20, evE.eq_21, evE.eq_22, evE.eq_23, evE.eq_24, evE.eq_25, evE.eq_26, evE.eq_27, evE.eq_28, evE.eq_29, evE.eq_30, evE.eq_31, evE.eq_32, evE.eq_33, evE.eq_34, Ok_bind, Ok_fin, evEs, evO, evT, evTs, evI.eq_1, ev_rng1, ev_rng2, evI.eq_4, ev_zip, evC, startE, wipe, lenTs]
  rw [e, slcD_drop]
  simp -implicitDefEqProofs [ev_nil, ev_seq, exS.eq_1, exS.eq_2, exS.eq_3, exS.eq_4, exS.eq_5, ev_ife, ev_loop, ev_whil, exS.eq_9, exS.eq_10, exS.eq_11, exS.eq_12, exS.eq_13, evE.eq_1, evE.eq_2, evE.eq_3, evE.eq_4, evE.eq_5, evE.eq_6, ev_and, ev_or, evE.eq_9, evE.eq_10, ev_ite, ev_tup, ev_lst, lineF_ok, ev_comp, evE.eq_15, evE.eq_16, evE.eq_17, evE.eq_18, evE.eq_19, evE.eq_20, evE.eq_21, evE.eq_22, evE.eq_23, evE.eq_24, evE.eq_25, evE.eq_26, evE.eq_27, evE.eq_28, evE.eq_29, evE.eq_30, evE.eq_31, evE.eq_32, evE.eq_33, evE.eq_34, Ok_bind, Ok_fin, evEs, evO, evT, evTs, evI.eq_1, ev_rng1, ev_rng2, evI.eq_4, ev_zip, evC, startE, wipe, lenTs,binD]
  rw [if_pos (by unfold LINE; simp at h1 h2; omega)]
  simp -implicitDefEqProofs [ev_nil, ev_seq, exS.eq_1, exS.eq_2, exS.eq_3, exS.eq_4, exS.eq_5, ev_ife, ev_loop, ev_whil, exS.eq_9, exS.eq_10, exS.eq_11, exS.eq_12, exS.eq_13, evE.eq_1, evE.eq_2, evE.eq_3, evE.eq_4, evE.eq_5, evE.eq_6, ev_and, ev_or, evE.eq_9, evE.eq_10, ev_ite, ev_tup, ev_lst, lineF_ok, ev_comp, evE.eq_15, evE.eq_16, evE.eq_17, evE.eq_18, evE.eq_19, evE.eq_20, evE.eq_21, evE.eq_22, evE.eq_23, evE.eq_24, evE.eq_25, evE.eq_26, evE.eq_27, evE.eq_28, evE.eq_29, evE.eq_30, evE.eq_31, evE.eq_32, evE.eq_33, evE.eq_34, Ok_bind, Ok_fin, evEs, evO, evT, evTs, evI.eq_1, ev_rng1, ev_rng2, evI.eq_4, ev_zip, evC, startE, wipe, lenTs]
theorem place_of_call [Fn Γ 11 ⟨3, 3, Sh.b11⟩] {ws : List D} {z : Str} {j : Nat} {thing : D} (hz : z.cps.all (· < 0x110000) = true) (hw : dataL 50 ws = true) (hi : indexS z ws = some j) (hin : (ws.any fun y => eqB y (.str z)) = true) : callF Γ (k+1) 11 [.tupk ws, .str z, thing] M = .ok (.int j) M := by
  rw [call_run ⟨3, 3, Sh.b11⟩]
  unfold Sh.b11
  simp -implicitDefEqProofs [ev_nil, ev_seq, exS.eq_1, exS.eq_2, exS.eq_3, exS.eq_4, exS.eq_5, ev_ife, ev_loop, ev_whil, exS.eq_9, exS.eq_10, exS.eq_11, exS.eq_12, exS.eq_13, evE.eq_1, evE.eq_2, evE.eq_3, evE.eq_4, evE.eq_5, evE.eq_6, ev_and, ev_or, evE.eq_9, evE.eq_10, ev_ite, ev_tup, ev_lst, lineF_ok, ev_comp, evE.eq_15, evE.eq_16, evE.eq_17, evE.eq_18, evE.eq_19, evE.eq_20, evE.eq_21, evE.eq_22, evE.eq_23, evE.eq_24, evE.eq_25, evE.eq_26, evE.eq_27, evE.eq_28, evE.eq_29, evE.eq_30, evE.eq_31, evE.eq_32, evE.eq_33, evE.eq_34, Ok_bind, Ok_fin, evEs, evO, evT, evTs, evI.eq_1, ev_rng1, ev_rng2, evI.eq_4, ev_zip, evC, startE, wipe, lenTs,isAny, isTy, okTy, cmpD, inL, data, hz, hw, hin, recvOk, bmtD, hi]
theorem place_of_bad [Fn Γ 7 ⟨2, 2, Sh.b7⟩] [Fn Γ 11 ⟨3, 3, Sh.b11⟩] {ws : List D} {z : Str} {thing : D} (hz : z.cps.all (· < 0x110000) = true) (hw : dataL 50 ws = true) (hin : (ws.any fun y => eqB y (.str z)) = false) : callF Γ (k+2) 11 [.tupk ws, .str z, thing] M = .exc 1 [thing, .non] M := by
  rw [call_run ⟨3, 3, Sh.b11⟩]
  unfold Sh.b11
  simp -implicitDefEqProofs [ev_nil, ev_seq, exS.eq_1, exS.eq_2, exS.eq_3, exS.eq_4, exS.eq_5, ev_ife, ev_loop, ev_whil, exS.eq_9, exS.eq_10, exS.eq_11, exS.eq_12, exS.eq_13, evE.eq_1, evE.eq_2, evE.eq_3, evE.eq_4, evE.eq_5, evE.eq_6, ev_and, ev_or, evE.eq_9, evE.eq_10, ev_ite, ev_tup, ev_lst, lineF_ok, ev_comp, evE.eq_15, evE.eq_16, evE.eq_17, evE.eq_18, evE.eq_19, evE.eq_20, evE.eq_21, evE.eq_22, evE.eq_23, evE.eq_24, evE.eq_25, evE.eq_26, evE.eq_27, evE.eq_28, evE.eq_29, evE.eq_30, evE.eq_31, evE.eq_32, evE.eq_33, evE.eq_34, Ok_bind, Ok_fin, evEs, evO, evT, evTs, evI.eq_1, ev_rng1, ev_rng2, evI.eq_4, ev_zip, evC, startE, wipe, lenTs,isAny, isTy, okTy, cmpD, inL, data, hz, hw, hin, require_part_int, plD]
end GW

set_option linter.all false
set_option autoImplicit false
set_option maxRecDepth 100000
set_option maxHeartbeats 1000000
/-! What the defs that the laws share come to: parts that are wrong, draws, likeness. -/
namespace GW
open PySem
variable {Γ : Prog} {k : Nat} {M : Mem}
/-- the first part that is wrong: its word, and where -/
def reqW (W : Nat → D) : List D → Nat → Option (D × D)
  | [], _ => none
  | w :: ws, i => match W i with | .int j => some (w, plD (.int j)) | _ => reqW W ws (i + 1)
def isPl : D → Bool | .non => true | .int _ => true | _ => false
def reqO (o : Option (D × D)) (M : Mem) : Out D := match o with | none => .ok .non M | some (w, p) => .exc 1 [w, p] M
theorem require_parts_call [Fn Γ 3 ⟨2, 2, Sh.b3⟩] [Fn Γ 7 ⟨2, 2, Sh.b7⟩] [Fn Γ 9 ⟨4, 6, Sh.b9⟩] {thing : D} {ws ps : List D} {g : Nat} {W : Nat → D} (hw : ws.length ≤ 1000) (hl : ps.length = ws.length) (hg : (Γ.fn g).isSome = true)
    (hW : ∀ i, i < ws.length → callF Γ (k+1) g [.tup ps, .int i] M = .ok (W i) M ∧ isPl (W i) = true) : callF Γ (k+2) 9 [thing, .tupk ws, .tup ps, .fn g] M = reqO (reqW W ws 0) M := by
  rw [call_run ⟨4, 6, Sh.b9⟩]
  unfold Sh.b9
  have hf : flat (.tup ps) = true := rfl
  simp -implicitDefEqProofs [ev_nil, ev_seq, exS.eq_1, exS.eq_2, exS.eq_3, exS.eq_4, exS.eq_5, ev_ife, ev_loop, ev_whil, exS.eq_9, exS.eq_10, exS.eq_11, exS.eq_12, exS.eq_13, evE.eq_1, evE.eq_2, evE.eq_3, evE.eq_4, evE.eq_5, evE.eq_6, ev_and, ev_or, evE.eq_9, evE.eq_10, ev_ite, ev_tup, ev_lst, lineF_ok, ev_comp, evE.eq_15, evE.eq_16, evE.eq_17, evE.eq_18, evE.eq_19, evE.eq_20, evE.eq_21, evE.eq_22, evE.eq_23, evE.eq_24, evE.eq_25, evE.eq_26, evE.eq_27, evE.eq_28, evE.eq_29, evE.eq_30, evE.eq_31, evE.eq_32, evE.eq_33, evE.eq_34, Ok_bind, Ok_fin, evEs, evO, evT, evTs, evI.eq_1, ev_rng1, ev_rng2, evI.eq_4, ev_zip, evC, startE, wipe, lenTs,is_row_call, hf, isRow, hl]
  have key : ∀ (r pre : List D) (p q : Option D), ws = pre ++ r → ∃ p' q' : Option D, forL (bodyF Γ (callF Γ (k+1)) (CT.tup (CTs.cons (CT.name 4) (CTs.cons (CT.name 5) CTs.nil))) (CSs.cons (CS.exp (CE.call 7 (CEs.cons (CE.var 5) (CEs.cons (CE.calv 3 (CEs.cons (CE.var 2) (CEs.cons (CE.var 4) CEs.nil))) CEs.nil)))) CSs.nil)) (enuD pre.length r) [some thing, some (.tupk ws), some (.tup ps), some (.fn g), p, q] M =
      (match reqW W r pre.length with | none => .ok (.nx [some thing, some (.tupk ws), some (.tup ps), some (.fn g), p', q']) M | some (w, pl) => .exc 1 [w, pl] M) := by
    intro r
    induction r with
    | nil => intro pre p q _; exact ⟨p, q, rfl⟩
    | cons x r ih =>
      intro pre p q e
      obtain ⟨hc, hp⟩ := hW pre.length (by rw [e]; simp)
      rw [enuD, forL, reqW]
      cases hWi : W pre.length with
      | int j =>
        refine ⟨p, q, ?_⟩
        rw [hWi] at hc
        unfold bodyF pairD
        simp -implicitDefEqProofs [ev_nil, ev_seq, exS.eq_1, exS.eq_2, exS.eq_3, exS.eq_4, exS.eq_5, ev_ife, ev_loop, ev_whil, exS.eq_9, exS.eq_10, exS.eq_11, exS.eq_12, exS.eq_13, evE.eq_1, evE.eq_2, evE.eq_3, evE.eq_4, evE.eq_5, evE.eq_6, ev_and, ev_or, evE.eq_9, evE.eq_10, ev_ite, ev_tup, ev_lst, lineF_ok, ev_comp, evE.eq_15, evE.eq_16, evE.eq_17, evE.eq_18, evE.eq_19, evE.eq_20, evE.eq_21, evE.eq_22, evE.eq_23, evE.eq_24, evE.eq_25, evE.eq_26, evE.eq_27, evE.eq_28, evE.eq_29, evE.eq_30, evE.eq_31, evE.eq_32, evE.eq_33, evE.eq_34, Ok_bind, Ok_fin, evEs, evO, evT, evTs, evI.eq_1, ev_rng1, ev_rng2, evI.eq_4, ev_zip, evC, startE, wipe, lenTs,hg, hc, require_part_int]
      | non =>
        rw [hWi] at hc
        obtain ⟨p', q', e2⟩ := ih (pre ++ [x]) (some (.int pre.length)) (some x) (by rw [e]; simp)
        refine ⟨p', q', ?_⟩
        rw [List.length_append] at e2
        have step : bodyF Γ (callF Γ (k+1)) (CT.tup (CTs.cons (CT.name 4) (CTs.cons (CT.name 5) CTs.nil))) (CSs.cons (CS.exp (CE.call 7 (CEs.cons (CE.var 5) (CEs.cons (CE.calv 3 (CEs.cons (CE.var 2) (CEs.cons (CE.var 4) CEs.nil))) CEs.nil)))) CSs.nil) (pairD (.int pre.length) x) [some thing, some (.tupk ws), some (.tup ps), some (.fn g), p, q] M =
          .ok (.nx [some thing, some (.tupk ws), some (.tup ps), some (.fn g), some (.int pre.length), some x]) M := by
          unfold bodyF pairD
          simp -implicitDefEqProofs [ev_nil, ev_seq, exS.eq_1, exS.eq_2, exS.eq_3, exS.eq_4, exS.eq_5, ev_ife, ev_loop, ev_whil, exS.eq_9, exS.eq_10, exS.eq_11, exS.eq_12, exS.eq_13, evE.eq_1, evE.eq_2, evE.eq_3, evE.eq_4, evE.eq_5, evE.eq_6, ev_and, ev_or, evE.eq_9, evE.eq_10, ev_ite, ev_tup, ev_lst, lineF_ok, ev_comp, evE.eq_15, evE.eq_16, evE.eq_17, evE.eq_18, evE.eq_19, evE.eq_20, evE.eq_21, evE.eq_22, evE.eq_23, evE.eq_24, evE.eq_25, evE.eq_26, evE.eq_27, evE.eq_28, evE.eq_29, evE.eq_30, evE.eq_31, evE.eq_32, evE.eq_33, evE.eq_34, Ok_bind, Ok_fin, evEs, evO, evT, evTs, evI.eq_1, ev_rng1, ev_rng2, evI.eq_4, ev_zip, evC, startE, wipe, lenTs,hg, hc, require_part_non]
        rw [step, bind_ok]
        simpa using e2
      | _ => rw [hWi] at hp; cases hp
  obtain ⟨p', q', e⟩ := key ws [] none none rfl
  simp only [List.length_nil] at e
  simp -implicitDefEqProofs [ev_nil, ev_seq, exS.eq_1, exS.eq_2, exS.eq_3, exS.eq_4, exS.eq_5, ev_ife, ev_loop, ev_whil, exS.eq_9, exS.eq_10, exS.eq_11, exS.eq_12, exS.eq_13, evE.eq_1, evE.eq_2, evE.eq_3, evE.eq_4, evE.eq_5, evE.eq_6, ev_and, ev_or, evE.eq_9, evE.eq_10, ev_ite, ev_tup, ev_lst, lineF_ok, ev_comp, evE.eq_15, evE.eq_16, evE.eq_17, evE.eq_18, evE.eq_19, evE.eq_20, evE.eq_21, evE.eq_22, evE.eq_23, evE.eq_24, evE.eq_25, evE.eq_26, evE.eq_27, evE.eq_28, evE.eq_29, evE.eq_30, evE.eq_31, evE.eq_32, evE.eq_33, evE.eq_34, Ok_bind, Ok_fin, evEs, evO, evT, evTs, evI.eq_1, ev_rng1, ev_rng2, evI.eq_4, ev_zip, evC, startE, wipe, lenTs,e]
  clear e key
  cases reqW W ws 0 with
  | none => simp -implicitDefEqProofs [ev_nil, ev_seq, exS.eq_1, exS.eq_2, exS.eq_3, exS.eq_4, exS.eq_5, ev_ife, ev_loop, ev_whil, exS.eq_9, exS.eq_10, exS.eq_11, exS.eq_12, exS.eq_13, evE.eq_1, evE.eq_2, evE.eq_3, evE.eq_4, evE.eq_5, evE.eq_6, ev_and, ev_or, evE.eq_9, evE.eq_10, ev_ite, ev_tup, ev_lst, lineF_ok, ev_comp, evE.eq_15, evE.eq_16, evE.eq_17, evE.eq_18, evE.eq_19, evE.eq_20, evE.eq_21, evE.eq_22, evE.eq_23, evE.eq_24, evE.eq_25, evE.eq_26, evE.eq_27, evE.eq_28, evE.eq_29, evE.eq_30, evE.eq_31, evE.eq_32, evE.eq_33, evE.eq_34, Ok_bind, Ok_fin, evEs, evO, evT, evTs, evI.eq_1, ev_rng1, ev_rng2, evI.eq_4, ev_zip, evC, startE, wipe, lenTs,reqO]
  | some z => obtain ⟨w, p⟩ := z; simp -implicitDefEqProofs [ev_nil, ev_seq, exS.eq_1, exS.eq_2, exS.eq_3, exS.eq_4, exS.eq_5, ev_ife, ev_loop, ev_whil, exS.eq_9, exS.eq_10, exS.eq_11, exS.eq_12, exS.eq_13, evE.eq_1, evE.eq_2, evE.eq_3, evE.eq_4, evE.eq_5, evE.eq_6, ev_and, ev_or, evE.eq_9, evE.eq_10, ev_ite, ev_tup, ev_lst, lineF_ok, ev_comp, evE.eq_15, evE.eq_16, evE.eq_17, evE.eq_18, evE.eq_19, evE.eq_20, evE.eq_21, evE.eq_22, evE.eq_23, evE.eq_24, evE.eq_25, evE.eq_26, evE.eq_27, evE.eq_28, evE.eq_29, evE.eq_30, evE.eq_31, evE.eq_32, evE.eq_33, evE.eq_34, Ok_bind, Ok_fin, evEs, evO, evT, evTs, evI.eq_1, ev_rng1, ev_rng2, evI.eq_4, ev_zip, evC, startE, wipe, lenTs,reqO]
theorem require_parts_bad [Fn Γ 3 ⟨2, 2, Sh.b3⟩] [Fn Γ 7 ⟨2, 2, Sh.b7⟩] [Fn Γ 9 ⟨4, 6, Sh.b9⟩] {thing d : D} {ws : List D} {g : Nat} (hd : flat d = true) (hb : isRow d ws.length = false) : callF Γ (k+2) 9 [thing, .tupk ws, d, .fn g] M = .exc 1 [thing, .non] M := by
  rw [call_run ⟨4, 6, Sh.b9⟩]
  unfold Sh.b9
  simp -implicitDefEqProofs [ev_nil, ev_seq, exS.eq_1, exS.eq_2, exS.eq_3, exS.eq_4, exS.eq_5, ev_ife, ev_loop, ev_whil, exS.eq_9, exS.eq_10, exS.eq_11, exS.eq_12, exS.eq_13, evE.eq_1, evE.eq_2, evE.eq_3, evE.eq_4, evE.eq_5, evE.eq_6, ev_and, ev_or, evE.eq_9, evE.eq_10, ev_ite, ev_tup, ev_lst, lineF_ok, ev_comp, evE.eq_15, evE.eq_16, evE.eq_17, evE.eq_18, evE.eq_19, evE.eq_20, evE.eq_21, evE.eq_22, evE.eq_23, evE.eq_24, evE.eq_25, evE.eq_26, evE.eq_27, evE.eq_28, evE.eq_29, evE.eq_30, evE.eq_31, evE.eq_32, evE.eq_33, evE.eq_34, Ok_bind, Ok_fin, evEs, evO, evT, evTs, evI.eq_1, ev_rng1, ev_rng2, evI.eq_4, ev_zip, evC, startE, wipe, lenTs,is_row_call, hd, hb, require_part_int, plD]
/-! ### draws -/
/-- the row of draws -/
def RowO (o : MO) : Prop := ∃ (ss : List Int) (a b c : Int), o = .lst [.lst (ss.map .int), .int a, .int b, .int c] ∧ 0 ≤ a
theorem atI_ok {α : Type} {xs : List α} {i : Int} (h0 : 0 ≤ i) (h1 : i < xs.length) : ∃ x, xs[i.toNat]? = some x ∧ atI xs i = some x := by
  have h : i.toNat < xs.length := by omega
  refine ⟨xs[i.toNat], List.getElem?_eq_getElem h, ?_⟩
  simp only [atI, ixN]
  rw [if_pos h0, if_pos h1]
  exact List.getElem?_eq_getElem h
theorem taken_ok [Fn Γ 15 ⟨2, 4, Sh.b15⟩] {o : MO} {rest : Mem} {many : Int} {Q : D → Mem → Prop} (ho : RowO o) (h1 : 0 < many) (h2 : many < 1073741824)
    (hQ : ∀ (i : Int) (o' : MO), 0 ≤ i → i < many → RowO o' → Q (.int i) (o' :: rest)) : (callF Γ (k+1) 15 [.ref 0, .int many] (o :: rest)).Ok Q := by
  obtain ⟨ss, a, b, c, rfl, ha⟩ := ho
  rw [call_run ⟨2, 4, Sh.b15⟩]
  unfold Sh.b15
  have hQ' : ∀ (x a' b' c' : Int), 0 ≤ a' → Q (.int (x % many)) (.lst [.lst (ss.map .int), .int a', .int b', .int c'] :: rest) := fun x a' b' c' h => hQ _ _ (Int.emod_nonneg _ (by omega)) (Int.emod_lt_of_pos _ h1) ⟨ss, a', b', c', rfl, h⟩
  have ha1 : (0 : Int) ≤ a + 1 := by omega
  have ha2 : ¬ (a + 1 < 0) := by omega
  simp -implicitDefEqProofs [ev_nil, ev_seq, exS.eq_1, exS.eq_2, exS.eq_3, exS.eq_4, exS.eq_5, ev_ife, ev_loop, ev_whil, exS.eq_9, exS.eq_10, exS.eq_11, exS.eq_12, exS.eq_13, evE.eq_1, evE.eq_2, evE.eq_3, evE.eq_4, evE.eq_5, evE.eq_6, ev_and, ev_or, evE.eq_9, evE.eq_10, ev_ite, ev_tup, ev_lst, lineF_ok, ev_comp, evE.eq_15, evE.eq_16, evE.eq_17, evE.eq_18, evE.eq_19, evE.eq_20, evE.eq_21, evE.eq_22, evE.eq_23, evE.eq_24, evE.eq_25, evE.eq_26, evE.eq_27, evE.eq_28, evE.eq_29, evE.eq_30, evE.eq_31, evE.eq_32, evE.eq_33, evE.eq_34, Ok_bind, Ok_fin, evEs, evO, evT, evTs, evI.eq_1, ev_rng1, ev_rng2, evI.eq_4, ev_zip, evC, startE, wipe, lenTs,rd, ixD, atI, ixN]
  by_cases hc : 0 < c
  · simp -implicitDefEqProofs [ev_nil, ev_seq, exS.eq_1, exS.eq_2, exS.eq_3, exS.eq_4, exS.eq_5, ev_ife, ev_loop, ev_whil, exS.eq_9, exS.eq_10, exS.eq_11, exS.eq_12, exS.eq_13, evE.eq_1, evE.eq_2, evE.eq_3, evE.eq_4, evE.eq_5, evE.eq_6, ev_and, ev_or, evE.eq_9, evE.eq_10, ev_ite, ev_tup, ev_lst, lineF_ok, ev_comp, evE.eq_15, evE.eq_16, evE.eq_17, evE.eq_18, evE.eq_19, evE.eq_20, evE.eq_21, evE.eq_22, evE.eq_23, evE.eq_24, evE.eq_25, evE.eq_26, evE.eq_27, evE.eq_28, evE.eq_29, evE.eq_30, evE.eq_31, evE.eq_32, evE.eq_33, evE.eq_34, Ok_bind, Ok_fin, evEs, evO, evT, evTs, evI.eq_1, ev_rng1, ev_rng2, evI.eq_4, ev_zip, evC, startE, wipe, lenTs,hc, bltD, binD, h1, h2, setIx, ixN, rd, ixD, atI]
    exact hQ' _ _ _ _ ha
  · simp -implicitDefEqProofs [ev_nil, ev_seq, exS.eq_1, exS.eq_2, exS.eq_3, exS.eq_4, exS.eq_5, ev_ife, ev_loop, ev_whil, exS.eq_9, exS.eq_10, exS.eq_11, exS.eq_12, exS.eq_13, evE.eq_1, evE.eq_2, evE.eq_3, evE.eq_4, evE.eq_5, evE.eq_6, ev_and, ev_or, evE.eq_9, evE.eq_10, ev_ite, ev_tup, ev_lst, lineF_ok, ev_comp, evE.eq_15, evE.eq_16, evE.eq_17, evE.eq_18, evE.eq_19, evE.eq_20, evE.eq_21, evE.eq_22, evE.eq_23, evE.eq_24, evE.eq_25, evE.eq_26, evE.eq_27, evE.eq_28, evE.eq_29, evE.eq_30, evE.eq_31, evE.eq_32, evE.eq_33, evE.eq_34, Ok_bind, Ok_fin, evEs, evO, evT, evTs, evI.eq_1, ev_rng1, ev_rng2, evI.eq_4, ev_zip, evC, startE, wipe, lenTs,hc, setIx, ixN, rd, ixD, atI]
    by_cases hs : (ss.length : Int) < a + 1
    · simp -implicitDefEqProofs [ev_nil, ev_seq, exS.eq_1, exS.eq_2, exS.eq_3, exS.eq_4, exS.eq_5, ev_ife, ev_loop, ev_whil, exS.eq_9, exS.eq_10, exS.eq_11, exS.eq_12, exS.eq_13, evE.eq_1, evE.eq_2, evE.eq_3, evE.eq_4, evE.eq_5, evE.eq_6, ev_and, ev_or, evE.eq_9, evE.eq_10, ev_ite, ev_tup, ev_lst, lineF_ok, ev_comp, evE.eq_15, evE.eq_16, evE.eq_17, evE.eq_18, evE.eq_19, evE.eq_20, evE.eq_21, evE.eq_22, evE.eq_23, evE.eq_24, evE.eq_25, evE.eq_26, evE.eq_27, evE.eq_28, evE.eq_29, evE.eq_30, evE.eq_31, evE.eq_32, evE.eq_33, evE.eq_34, Ok_bind, Ok_fin, evEs, evO, evT, evTs, evI.eq_1, ev_rng1, ev_rng2, evI.eq_4, ev_zip, evC, startE, wipe, lenTs,hs, bltD, binD, small, setIx, ixN, rd, ixD, atI, h1]
      exact hQ' _ _ _ _ ha1
    · have hx : a.toNat < ss.length := by omega
      have e1 : ss[a.toNat]? = some ss[a.toNat] := List.getElem?_eq_getElem hx
      have e2 : a + 1 - 1 = a := by omega
      have h3 : a < (ss.length : Int) := by omega
      simp -implicitDefEqProofs [ev_nil, ev_seq, exS.eq_1, exS.eq_2, exS.eq_3, exS.eq_4, exS.eq_5, ev_ife, ev_loop, ev_whil, exS.eq_9, exS.eq_10, exS.eq_11, exS.eq_12, exS.eq_13, evE.eq_1, evE.eq_2, evE.eq_3, evE.eq_4, evE.eq_5, evE.eq_6, ev_and, ev_or, evE.eq_9, evE.eq_10, ev_ite, ev_tup, ev_lst, lineF_ok, ev_comp, evE.eq_15, evE.eq_16, evE.eq_17, evE.eq_18, evE.eq_19, evE.eq_20, evE.eq_21, evE.eq_22, evE.eq_23, evE.eq_24, evE.eq_25, evE.eq_26, evE.eq_27, evE.eq_28, evE.eq_29, evE.eq_30, evE.eq_31, evE.eq_32, evE.eq_33, evE.eq_34, Ok_bind, Ok_fin, evEs, evO, evT, evTs, evI.eq_1, ev_rng1, ev_rng2, evI.eq_4, ev_zip, evC, startE, wipe, lenTs,hs, bltD, binD, small, setIx, ixN, rd, ixD, atI, h1, ha, h3, e1, e2]
      by_cases hg : (1000000000000000000 : Int) ≤ ss[a.toNat]
      · simp -implicitDefEqProofs [ev_nil, ev_seq, exS.eq_1, exS.eq_2, exS.eq_3, exS.eq_4, exS.eq_5, ev_ife, ev_loop, ev_whil, exS.eq_9, exS.eq_10, exS.eq_11, exS.eq_12, exS.eq_13, evE.eq_1, evE.eq_2, evE.eq_3, evE.eq_4, evE.eq_5, evE.eq_6, ev_and, ev_or, evE.eq_9, evE.eq_10, ev_ite, ev_tup, ev_lst, lineF_ok, ev_comp, evE.eq_15, evE.eq_16, evE.eq_17, evE.eq_18, evE.eq_19, evE.eq_20, evE.eq_21, evE.eq_22, evE.eq_23, evE.eq_24, evE.eq_25, evE.eq_26, evE.eq_27, evE.eq_28, evE.eq_29, evE.eq_30, evE.eq_31, evE.eq_32, evE.eq_33, evE.eq_34, Ok_bind, Ok_fin, evEs, evO, evT, evTs, evI.eq_1, ev_rng1, ev_rng2, evI.eq_4, ev_zip, evC, startE, wipe, lenTs,hg, h1, h2, bltD, binD, small, setIx, ixN, rd, ixD, atI]
        exact hQ' _ _ _ _ ha1
      · simp -implicitDefEqProofs [ev_nil, ev_seq, exS.eq_1, exS.eq_2, exS.eq_3, exS.eq_4, exS.eq_5, ev_ife, ev_loop, ev_whil, exS.eq_9, exS.eq_10, exS.eq_11, exS.eq_12, exS.eq_13, evE.eq_1, evE.eq_2, evE.eq_3, evE.eq_4, evE.eq_5, evE.eq_6, ev_and, ev_or, evE.eq_9, evE.eq_10, ev_ite, ev_tup, ev_lst, lineF_ok, ev_comp, evE.eq_15, evE.eq_16, evE.eq_17, evE.eq_18, evE.eq_19, evE.eq_20, evE.eq_21, evE.eq_22, evE.eq_23, evE.eq_24, evE.eq_25, evE.eq_26, evE.eq_27, evE.eq_28, evE.eq_29, evE.eq_30, evE.eq_31, evE.eq_32, evE.eq_33, evE.eq_34, Ok_bind, Ok_fin, evEs, evO, evT, evTs, evI.eq_1, ev_rng1, ev_rng2, evI.eq_4, ev_zip, evC, startE, wipe, lenTs,hg, h1, h2, bltD, binD, small, setIx, ixN, rd, ixD, atI]
        exact hQ' _ _ _ _ ha1
theorem pick_ok [Fn Γ 15 ⟨2, 4, Sh.b15⟩] [Fn Γ 16 ⟨2, 2, Sh.b16⟩] {o : MO} {rest : Mem} {xs : List D} {Q : D → Mem → Prop} (ho : RowO o) (h1 : xs ≠ []) (h2 : xs.length < 1073741824)
    (hQ : ∀ (v : D) (o' : MO), v ∈ xs → RowO o' → Q v (o' :: rest)) : (callF Γ (k+2) 16 [.ref 0, .lst xs] (o :: rest)).Ok Q := by
  rw [call_run ⟨2, 2, Sh.b16⟩]
  unfold Sh.b16
  have hl : 0 < xs.length := List.length_pos_iff.mpr h1
  simp -implicitDefEqProofs [ev_nil, ev_seq, exS.eq_1, exS.eq_2, exS.eq_3, exS.eq_4, exS.eq_5, ev_ife, ev_loop, ev_whil, exS.eq_9, exS.eq_10, exS.eq_11, exS.eq_12, exS.eq_13, evE.eq_1, evE.eq_2, evE.eq_3, evE.eq_4, evE.eq_5, evE.eq_6, ev_and, ev_or, evE.eq_9, evE.eq_10, ev_ite, ev_tup, ev_lst, lineF_ok, ev_comp, evE.eq_15, evE.eq_16, evE.eq_17, evE.eq_18, evE.eq_19, evE.eq_20, evE.eq_21, evE.eq_22, evE.eq_23, evE.eq_24, evE.eq_25, evE.eq_26, evE.eq_27, evE.eq_28, evE.eq_29, evE.eq_30, evE.eq_31, evE.eq_32, evE.eq_33, evE.eq_34, Ok_bind, Ok_fin, evEs, evO, evT, evTs, evI.eq_1, ev_rng1, ev_rng2, evI.eq_4, ev_zip, evC, startE, wipe, lenTs]
  refine taken_ok ho (by omega) (by omega) fun i o' a b c => ?_
  obtain ⟨x, e1, e2⟩ := atI_ok a b
  simp -implicitDefEqProofs [ev_nil, ev_seq, exS.eq_1, exS.eq_2, exS.eq_3, exS.eq_4, exS.eq_5, ev_ife, ev_loop, ev_whil, exS.eq_9, exS.eq_10, exS.eq_11, exS.eq_12, exS.eq_13, evE.eq_1, evE.eq_2, evE.eq_3, evE.eq_4, evE.eq_5, evE.eq_6, ev_and, ev_or, evE.eq_9, evE.eq_10, ev_ite, ev_tup, ev_lst, lineF_ok, ev_comp, evE.eq_15, evE.eq_16, evE.eq_17, evE.eq_18, evE.eq_19, evE.eq_20, evE.eq_21, evE.eq_22, evE.eq_23, evE.eq_24, evE.eq_25, evE.eq_26, evE.eq_27, evE.eq_28, evE.eq_29, evE.eq_30, evE.eq_31, evE.eq_32, evE.eq_33, evE.eq_34, Ok_bind, Ok_fin, evEs, evO, evT, evTs, evI.eq_1, ev_rng1, ev_rng2, evI.eq_4, ev_zip, evC, startE, wipe, lenTs,ixD, e2]
  exact hQ _ _ (List.mem_of_getElem? e1) c
/-! ### likeness -/
mutual
theorem eqB_refl : ∀ (n : Nat) (d : D), data n d = true → eqB d d = true
  | n, .non, _ => rfl
  | n, .bl b, _ => by simp [eqB]
  | n, .int i, _ => by simp [eqB]
  | n, .str s, _ => by simp [eqB]
  | 0, .tup xs, h => by simp [data] at h
  | n + 1, .tup xs, h => by simp only [data] at h; simp only [eqB]; exact eqL_refl n xs h
  | 0, .lst xs, h => by simp [data] at h
  | n + 1, .lst xs, h => by simp only [data] at h; simp only [eqB]; exact eqL_refl n xs h
  | _, .dct _ _, h => by simp [data] at h
  | _, .ins _ _ _, h => by simp [data] at h
  | _, .fn _, h => by simp [data] at h
  | _, .ref _, h => by simp [data] at h
  | _, .tupk _, h => by simp [data] at h
  | _, .exn _ _, h => by simp [data] at h
theorem eqL_refl : ∀ (n : Nat) (ds : List D), dataL n ds = true → eqL ds ds = true
  | n, [], _ => rfl
  | n, d :: ds, h => by simp only [dataL, Bool.and_eq_true] at h; simp only [eqL, eqB_refl n d h.1, eqL_refl n ds h.2, Bool.and_self]
end
theorem same_call [Fn Γ 18 ⟨2, 2, Sh.b18⟩] {d : D} (hd : data 50 d = true) (hw : wtD d ≤ 1000000) : callF Γ (k+1) 18 [d, d] M = .ok (.bl true) M := by
  rw [call_run ⟨2, 2, Sh.b18⟩]
  unfold Sh.b18
  have h := rd_flat (flat_data hd) M
  have h2 : sameO d d = some (.bl true) := by unfold sameO; rw [if_pos ⟨hd, hw, rfl⟩]
  simp -implicitDefEqProofs [ev_nil, ev_seq, exS.eq_1, exS.eq_2, exS.eq_3, exS.eq_4, exS.eq_5, ev_ife, ev_loop, ev_whil, exS.eq_9, exS.eq_10, exS.eq_11, exS.eq_12, exS.eq_13, evE.eq_1, evE.eq_2, evE.eq_3, evE.eq_4, evE.eq_5, evE.eq_6, ev_and, ev_or, evE.eq_9, evE.eq_10, ev_ite, ev_tup, ev_lst, lineF_ok, ev_comp, evE.eq_15, evE.eq_16, evE.eq_17, evE.eq_18, evE.eq_19, evE.eq_20, evE.eq_21, evE.eq_22, evE.eq_23, evE.eq_24, evE.eq_25, evE.eq_26, evE.eq_27, evE.eq_28, evE.eq_29, evE.eq_30, evE.eq_31, evE.eq_32, evE.eq_33, evE.eq_34, Ok_bind, Ok_fin, evEs, evO, evT, evTs, evI.eq_1, ev_rng1, ev_rng2, evI.eq_4, ev_zip, evC, startE, wipe, lenTs,h, hd, hw, h2]
theorem rngD_mem : ∀ (n : Nat) (a : Int) (d : D), d ∈ rngD a n → ∃ i : Nat, d = .int (a + i) ∧ i < n
  | 0, _, _, h => by simp [rngD] at h
  | n + 1, a, d, h => by
    simp only [rngD, List.mem_cons] at h
    rcases h with rfl | h
    · exact ⟨0, by simp, by omega⟩
    · obtain ⟨i, rfl, hi⟩ := rngD_mem n (a + 1) d h
      exact ⟨i + 1, by congr 1; omega, by omega⟩
theorem rngD_length : ∀ (n : Nat) (a : Int), (rngD a n).length = n
  | 0, _ => rfl
  | n + 1, a => by simp [rngD, rngD_length n]
/-- data at most n deep, no row longer than m -/
def Dat (m : Nat) : Nat → D → Prop
  | _, .non => True | _, .bl _ => True | _, .int _ => True | _, .str s => s.cps.all (· < 0x110000) = true
  | n + 1, .tup xs => xs.length ≤ m ∧ ∀ x ∈ xs, Dat m n x
  | n + 1, .lst xs => xs.length ≤ m ∧ ∀ x ∈ xs, Dat m n x
  | _, _ => False
theorem Dat.data {m : Nat} : ∀ {n : Nat} {d : D}, Dat m n d → data n d = true
  | 0, d, h => by cases d <;> simp_all [Dat, GW.data]
  | n + 1, d, h => by
    cases d <;> simp_all [Dat, GW.data]
    · exact dataL_iff.mpr fun x hx => (h.2 x hx).data
    · exact dataL_iff.mpr fun x hx => (h.2 x hx).data
theorem Dat.mono {m m' : Nat} (hm : m ≤ m') : ∀ {n n' : Nat} {d : D}, n ≤ n' → Dat m n d → Dat m' n' d
  | 0, n', d, _, h => by cases n' <;> cases d <;> simp_all [Dat]
  | n + 1, 0, d, hn, h => by omega
  | n + 1, n' + 1, d, hn, h => by
    cases d <;> simp_all [Dat]
    · exact ⟨by omega, fun x hx => (h.2 x hx).mono hm (by omega)⟩
    · exact ⟨by omega, fun x hx => (h.2 x hx).mono hm (by omega)⟩
theorem Dat.flat {m n : Nat} {d : D} (h : Dat m n d) : flat d = true := flat_data h.data
theorem small_of {n : Nat} (h : n ≤ 1000000) : smallR (n : Int) = true := by
  unfold smallR
  simp only [Bool.and_eq_true, decide_eq_true_eq]
  omega
theorem filterMap_no {α : Type} (z : List D) : z.filterMap (fun _ => (none : Option α)) = [] := by
  induction z with
  | nil => rfl
  | cons a z ih => rw [List.filterMap_cons]; exact ih
theorem atI_nat {α : Type} {xs : List α} {i : Nat} (h : i < xs.length) : atI xs (i : Int) = some xs[i] := by
  simp only [atI, ixN]
  rw [if_pos (by omega), if_pos (by omega)]
  exact List.getElem?_eq_getElem h
theorem rng_short {n m : Nat} (h : n ≤ 1000000) : (rngD 0 n).length ≤ 1000000 := by rw [rngD_length]; omega
theorem alike_comp [Fn Γ 17 ⟨2, 3, Sh.b17⟩] {j : Nat} {xs : List D} {c : D} (hc : ∀ i : Nat, i < xs.length → ixD (rd M c) (.int i) = xs[i]?) (ih : ∀ x ∈ xs, callF Γ j 17 [x, x] M = .ok (.bl true) M) :
    compL (itemF Γ (callF Γ j) [2] (CT.name 2) (CO.yes (CE.call 17 (CEs.cons ((CE.var 0).ix (CE.var 2)) (CEs.cons ((CE.var 1).ix (CE.var 2)) CEs.nil))).not) (CE.var 2) [some c, some c, none]) (rngD 0 xs.length) M = .ok [] M := by
  rw [compL_pure (g := fun _ => none)]
  · rw [filterMap_no]
  · intro d hd
    obtain ⟨i, rfl, hi⟩ := rngD_mem _ _ _ hd
    have e1 := hc i hi
    rw [List.getElem?_eq_getElem hi] at e1
    have e2 := ih xs[i] (List.getElem_mem hi)
    simp -implicitDefEqProofs [ev_nil, ev_seq, exS.eq_1, exS.eq_2, exS.eq_3, exS.eq_4, exS.eq_5, ev_ife, ev_loop, ev_whil, exS.eq_9, exS.eq_10, exS.eq_11, exS.eq_12, exS.eq_13, evE.eq_1, evE.eq_2, evE.eq_3, evE.eq_4, evE.eq_5, evE.eq_6, ev_and, ev_or, evE.eq_9, evE.eq_10, ev_ite, ev_tup, ev_lst, lineF_ok, ev_comp, evE.eq_15, evE.eq_16, evE.eq_17, evE.eq_18, evE.eq_19, evE.eq_20, evE.eq_21, evE.eq_22, evE.eq_23, evE.eq_24, evE.eq_25, evE.eq_26, evE.eq_27, evE.eq_28, evE.eq_29, evE.eq_30, evE.eq_31, evE.eq_32, evE.eq_33, evE.eq_34, Ok_bind, Ok_fin, evEs, evO, evT, evTs, evI.eq_1, ev_rng1, ev_rng2, evI.eq_4, ev_zip, evC, startE, wipe, lenTs,itemF_of, e1, e2, calm_ok]
theorem alike_tup [Fn Γ 17 ⟨2, 3, Sh.b17⟩] {j : Nat} {xs : List D} (hl : xs.length ≤ 1000000) (ih : ∀ x ∈ xs, callF Γ j 17 [x, x] M = .ok (.bl true) M) : callF Γ (j + 1) 17 [.tup xs, .tup xs] M = .ok (.bl true) M := by
  rw [call_run ⟨2, 3, Sh.b17⟩]
  unfold Sh.b17
  have h4 := rngF_nat (n := xs.length) hl
  have hr := rng_short (m := 0) hl
  have hcomp := alike_comp (M := M) (c := .tup xs) (fun i hi => (atI_nat hi).trans (List.getElem?_eq_getElem hi).symm) ih
  have he : cmpD .eq (.lst []) (.lst []) = some true := rfl
  have hb : cmpD .ne (.bl false) (.bl false) = some false := rfl
  simp -implicitDefEqProofs [ev_nil, ev_seq, exS.eq_1, exS.eq_2, exS.eq_3, exS.eq_4, exS.eq_5, ev_ife, ev_loop, ev_whil, exS.eq_9, exS.eq_10, exS.eq_11, exS.eq_12, exS.eq_13, evE.eq_1, evE.eq_2, evE.eq_3, evE.eq_4, evE.eq_5, evE.eq_6, ev_and, ev_or, evE.eq_9, evE.eq_10, ev_ite, ev_tup, ev_lst, lineF_ok, ev_comp, evE.eq_15, evE.eq_16, evE.eq_17, evE.eq_18, evE.eq_19, evE.eq_20, evE.eq_21, evE.eq_22, evE.eq_23, evE.eq_24, evE.eq_25, evE.eq_26, evE.eq_27, evE.eq_28, evE.eq_29, evE.eq_30, evE.eq_31, evE.eq_32, evE.eq_33, evE.eq_34, Ok_bind, Ok_fin, evEs, evO, evT, evTs, evI.eq_1, ev_rng1, ev_rng2, evI.eq_4, ev_zip, evC, startE, wipe, lenTs,isAny, isTy, okTy, h4, hr, hcomp, he, hb]
theorem alike_lst [Fn Γ 17 ⟨2, 3, Sh.b17⟩] {j : Nat} {xs : List D} (hl : xs.length ≤ 1000000) (ih : ∀ x ∈ xs, callF Γ j 17 [x, x] M = .ok (.bl true) M) : callF Γ (j + 1) 17 [.lst xs, .lst xs] M = .ok (.bl true) M := by
  rw [call_run ⟨2, 3, Sh.b17⟩]
  unfold Sh.b17
  have h4 := rngF_nat (n := xs.length) hl
  have hr := rng_short (m := 0) hl
  have hcomp := alike_comp (M := M) (c := .lst xs) (fun i hi => (atI_nat hi).trans (List.getElem?_eq_getElem hi).symm) ih
  have he : cmpD .eq (.lst []) (.lst []) = some true := rfl
  have hb : cmpD .ne (.bl true) (.bl true) = some false := rfl
  simp -implicitDefEqProofs [ev_nil, ev_seq, exS.eq_1, exS.eq_2, exS.eq_3, exS.eq_4, exS.eq_5, ev_ife, ev_loop, ev_whil, exS.eq_9, exS.eq_10, exS.eq_11, exS.eq_12, exS.eq_13, evE.eq_1, evE.eq_2, evE.eq_3, evE.eq_4, evE.eq_5, evE.eq_6, ev_and, ev_or, evE.eq_9, evE.eq_10, ev_ite, ev_tup, ev_lst, lineF_ok, ev_comp, evE.eq_15, evE.eq_16, evE.eq_17, evE.eq_18, evE.eq_19, evE.eq_20, evE.eq_21, evE.eq_22, evE.eq_23, evE.eq_24, evE.eq_25, evE.eq_26, evE.eq_27, evE.eq_28, evE.eq_29, evE.eq_30, evE.eq_31, evE.eq_32, evE.eq_33, evE.eq_34, Ok_bind, Ok_fin, evEs, evO, evT, evTs, evI.eq_1, ev_rng1, ev_rng2, evI.eq_4, ev_zip, evC, startE, wipe, lenTs,isAny, isTy, okTy, h4, hr, hcomp, he, hb]
theorem alike_leaf [Fn Γ 17 ⟨2, 3, Sh.b17⟩] {j n m : Nat} {d : D} (h : Dat m n d) (hn : n ≤ 50) (ht : ∀ xs, d ≠ .tup xs) (hl : ∀ xs, d ≠ .lst xs) : callF Γ (j + 1) 17 [d, d] M = .ok (.bl true) M := by
  rw [call_run ⟨2, 3, Sh.b17⟩]
  unfold Sh.b17
  have he : cmpD .eq d d = some true := by
    have h1 := data_mono h.data (show n ≤ 60 by omega)
    simp only [cmpD, eqD, h1, Bool.and_self, if_true, eqB_refl 60 d h1]
  have h1 : cmpD .eq (.bl true) (.bl true) = some true := rfl
  have h2 : cmpD .eq (.bl false) (.bl false) = some true := rfl
  have h3 : cmpD .is d .non = some (match d with | .non => true | _ => false) := by cases d <;> rfl
  cases d with
  | tup xs => exact absurd rfl (ht xs)
  | lst xs => exact absurd rfl (hl xs)
  | non => simp -implicitDefEqProofs [ev_nil, ev_seq, exS.eq_1, exS.eq_2, exS.eq_3, exS.eq_4, exS.eq_5, ev_ife, ev_loop, ev_whil, exS.eq_9, exS.eq_10, exS.eq_11, exS.eq_12, exS.eq_13, evE.eq_1, evE.eq_2, evE.eq_3, evE.eq_4, evE.eq_5, evE.eq_6, ev_and, ev_or, evE.eq_9, evE.eq_10, ev_ite, ev_tup, ev_lst, lineF_ok, ev_comp, evE.eq_15, evE.eq_16, evE.eq_17, evE.eq_18, evE.eq_19, evE.eq_20, evE.eq_21, evE.eq_22, evE.eq_23, evE.eq_24, evE.eq_25, evE.eq_26, evE.eq_27, evE.eq_28, evE.eq_29, evE.eq_30, evE.eq_31, evE.eq_32, evE.eq_33, evE.eq_34, Ok_bind, Ok_fin, evEs, evO, evT, evTs, evI.eq_1, ev_rng1, ev_rng2, evI.eq_4, ev_zip, evC, startE, wipe, lenTs,isAny, isTy, okTy, he, h1, h2, h3]
  | bl b => simp -implicitDefEqProofs [ev_nil, ev_seq, exS.eq_1, exS.eq_2, exS.eq_3, exS.eq_4, exS.eq_5, ev_ife, ev_loop, ev_whil, exS.eq_9, exS.eq_10, exS.eq_11, exS.eq_12, exS.eq_13, evE.eq_1, evE.eq_2, evE.eq_3, evE.eq_4, evE.eq_5, evE.eq_6, ev_and, ev_or, evE.eq_9, evE.eq_10, ev_ite, ev_tup, ev_lst, lineF_ok, ev_comp, evE.eq_15, evE.eq_16, evE.eq_17, evE.eq_18, evE.eq_19, evE.eq_20, evE.eq_21, evE.eq_22, evE.eq_23, evE.eq_24, evE.eq_25, evE.eq_26, evE.eq_27, evE.eq_28, evE.eq_29, evE.eq_30, evE.eq_31, evE.eq_32, evE.eq_33, evE.eq_34, Ok_bind, Ok_fin, evEs, evO, evT, evTs, evI.eq_1, ev_rng1, ev_rng2, evI.eq_4, ev_zip, evC, startE, wipe, lenTs,isAny, isTy, okTy, he, h1, h2, h3]
  | int b => simp -implicitDefEqProofs [ev_nil, ev_seq, exS.eq_1, exS.eq_2, exS.eq_3, exS.eq_4, exS.eq_5, ev_ife, ev_loop, ev_whil, exS.eq_9, exS.eq_10, exS.eq_11, exS.eq_12, exS.eq_13, evE.eq_1, evE.eq_2, evE.eq_3, evE.eq_4, evE.eq_5, evE.eq_6, ev_and, ev_or, evE.eq_9, evE.eq_10, ev_ite, ev_tup, ev_lst, lineF_ok, ev_comp, evE.eq_15, evE.eq_16, evE.eq_17, evE.eq_18, evE.eq_19, evE.eq_20, evE.eq_21, evE.eq_22, evE.eq_23, evE.eq_24, evE.eq_25, evE.eq_26, evE.eq_27, evE.eq_28, evE.eq_29, evE.eq_30, evE.eq_31, evE.eq_32, evE.eq_33, evE.eq_34, Ok_bind, Ok_fin, evEs, evO, evT, evTs, evI.eq_1, ev_rng1, ev_rng2, evI.eq_4, ev_zip, evC, startE, wipe, lenTs,isAny, isTy, okTy, he, h1, h2, h3]
  | str b => simp -implicitDefEqProofs [ev_nil, ev_seq, exS.eq_1, exS.eq_2, exS.eq_3, exS.eq_4, exS.eq_5, ev_ife, ev_loop, ev_whil, exS.eq_9, exS.eq_10, exS.eq_11, exS.eq_12, exS.eq_13, evE.eq_1, evE.eq_2, evE.eq_3, evE.eq_4, evE.eq_5, evE.eq_6, ev_and, ev_or, evE.eq_9, evE.eq_10, ev_ite, ev_tup, ev_lst, lineF_ok, ev_comp, evE.eq_15, evE.eq_16, evE.eq_17, evE.eq_18, evE.eq_19, evE.eq_20, evE.eq_21, evE.eq_22, evE.eq_23, evE.eq_24, evE.eq_25, evE.eq_26, evE.eq_27, evE.eq_28, evE.eq_29, evE.eq_30, evE.eq_31, evE.eq_32, evE.eq_33, evE.eq_34, Ok_bind, Ok_fin, evEs, evO, evT, evTs, evI.eq_1, ev_rng1, ev_rng2, evI.eq_4, ev_zip, evC, startE, wipe, lenTs,isAny, isTy, okTy, he, h1, h2, h3]
  | _ => cases n <;> exact h.elim
theorem alike_self [Fn Γ 17 ⟨2, 3, Sh.b17⟩] {m : Nat} (hm : m ≤ 1000000) : ∀ (n j : Nat) (M : Mem) (d : D), Dat m n d → n ≤ 50 → n + 1 ≤ j → callF Γ j 17 [d, d] M = .ok (.bl true) M := by
  intro n
  induction n with
  | zero =>
    intro j M d h _ hj
    obtain ⟨j, rfl⟩ : ∃ i, j = i + 1 := ⟨j - 1, by omega⟩
    exact alike_leaf h (by omega) (fun xs e => by subst e; exact h) (fun xs e => by subst e; exact h)
  | succ n ih =>
    intro j M d h hn hj
    obtain ⟨j, rfl⟩ : ∃ i, j = i + 1 := ⟨j - 1, by omega⟩
    by_cases ht : ∃ xs, d = .tup xs
    · obtain ⟨xs, rfl⟩ := ht
      exact alike_tup (by have := h.1; omega) fun x hx => ih j M x (h.2 x hx) (by omega) (by omega)
    · by_cases hl : ∃ xs, d = .lst xs
      · obtain ⟨xs, rfl⟩ := hl
        exact alike_lst (by have := h.1; omega) fun x hx => ih j M x (h.2 x hx) (by omega) (by omega)
      · exact alike_leaf h hn (fun xs e => ht ⟨xs, e⟩) (fun xs e => hl ⟨xs, e⟩)
/-! ### odd and spoiled values -/
def oddL : List D := [.non, .bl true, .bl false, .int (-1), .int (10 ^ 30), .str "", .str "A", .str "a1", .str "abcdefghi", .lst [], .lst [.int 1], .dct [] [], .dct [.str "a"] [.int 1], .str "a b", .int 61, .str "-"]
theorem odd_ok [Fn Γ 15 ⟨2, 4, Sh.b15⟩] [Fn Γ 16 ⟨2, 2, Sh.b16⟩] [Fn Γ 20 ⟨1, 2, Sh.b20⟩] {o : MO} {rest : Mem} {Q : D → Mem → Prop} (ho : RowO o)
    (hQ : ∀ (v : D) (o' : MO), v ∈ oddL → RowO o' → Q v (o' :: rest)) : (callF Γ (k+3) 20 [.ref 0] (o :: rest)).Ok Q := by
  rw [call_run ⟨1, 2, Sh.b20⟩]
  unfold Sh.b20
  have hp : binD .pow (.int 10) (.int 30) = some (.int (10 ^ 30)) := rfl
  simp -implicitDefEqProofs [ev_nil, ev_seq, exS.eq_1, exS.eq_2, exS.eq_3, exS.eq_4, exS.eq_5, ev_ife, ev_loop, ev_whil, exS.eq_9, exS.eq_10, exS.eq_11, exS.eq_12, exS.eq_13, evE.eq_1, evE.eq_2, evE.eq_3, evE.eq_4, evE.eq_5, evE.eq_6, ev_and, ev_or, evE.eq_9, evE.eq_10, ev_ite, ev_tup, ev_lst, lineF_ok, ev_comp, evE.eq_15, evE.eq_16, evE.eq_17, evE.eq_18, evE.eq_19, evE.eq_20, evE.eq_21, evE.eq_22, evE.eq_23, evE.eq_24, evE.eq_25, evE.eq_26, evE.eq_27, evE.eq_28, evE.eq_29, evE.eq_30, evE.eq_31, evE.eq_32, evE.eq_33, evE.eq_34, Ok_bind, Ok_fin, evEs, evO, evT, evTs, evI.eq_1, ev_rng1, ev_rng2, evI.eq_4, ev_zip, evC, startE, wipe, lenTs,hp]
  refine pick_ok ho (by simp) (by simp) fun v o' hv ho' => ?_
  simp -implicitDefEqProofs [ev_nil, ev_seq, exS.eq_1, exS.eq_2, exS.eq_3, exS.eq_4, exS.eq_5, ev_ife, ev_loop, ev_whil, exS.eq_9, exS.eq_10, exS.eq_11, exS.eq_12, exS.eq_13, evE.eq_1, evE.eq_2, evE.eq_3, evE.eq_4, evE.eq_5, evE.eq_6, ev_and, ev_or, evE.eq_9, evE.eq_10, ev_ite, ev_tup, ev_lst, lineF_ok, ev_comp, evE.eq_15, evE.eq_16, evE.eq_17, evE.eq_18, evE.eq_19, evE.eq_20, evE.eq_21, evE.eq_22, evE.eq_23, evE.eq_24, evE.eq_25, evE.eq_26, evE.eq_27, evE.eq_28, evE.eq_29, evE.eq_30, evE.eq_31, evE.eq_32, evE.eq_33, evE.eq_34, Ok_bind, Ok_fin, evEs, evO, evT, evTs, evI.eq_1, ev_rng1, ev_rng2, evI.eq_4, ev_zip, evC, startE, wipe, lenTs]
  exact hQ v o' (by simpa [oddL] using hv) ho'
end GW

set_option linter.all false
set_option autoImplicit false
set_option maxRecDepth 100000
set_option maxHeartbeats 1000000
/-! Spoiled values. -/
namespace GW
open PySem
variable {Γ : Prog} {k : Nat} {M : Mem}
theorem Dat.up {m n : Nat} {d : D} (h : Dat m n d) : Dat (m + 1) (n + 1) d := h.mono (by omega) (by omega)
theorem cutL_butlast {α : Type} (xs : List α) (h : xs ≠ []) : cutL xs none (some (-1)) = xs.dropLast := by
  have : 0 < xs.length := List.length_pos_iff.mpr h
  simp only [cutL, sIx]
  rw [if_pos (by omega), List.drop_zero, List.dropLast_eq_take]
  congr 1
  omega
theorem slcD_butlast (xs : List D) (h : xs ≠ []) : slcD (.tup xs) none (some (-1)) = some (.tup xs.dropLast) := by rw [slcD, cutL_butlast xs h]
theorem cat_tup {xs ys : List D} (h : xs.length + ys.length ≤ 1000000) : binD .add (.tup xs) (.tup ys) = some (.tup (xs ++ ys)) := by
  simp only [binD]
  rw [if_pos (by unfold LINE; omega)]
theorem slcD_take1 (xs : List D) : slcD (.tup xs) none (some 1) = some (.tup (xs.take 1)) := slcD_take xs 1
theorem slcD_drop1 (xs : List D) : slcD (.tup xs) (some 1) none = some (.tup (xs.drop 1)) := slcD_drop xs 1
theorem spoiled_ok [Fn Γ 15 ⟨2, 4, Sh.b15⟩] [Fn Γ 16 ⟨2, 2, Sh.b16⟩] [Fn Γ 24 ⟨2, 3, Sh.b24⟩] {m : Nat} (hm : m ≤ 1000) {rest : Mem} : ∀ (n : Nat) (k : Nat) (o : MO) (d : D) (Q : D → Mem → Prop), RowO o → Dat m n d →
    (∀ (v : D) (o' : MO), Dat (m + 1) (n + 1) v → RowO o' → Q v (o' :: rest)) → (callF Γ (k + n + 3) 24 [.ref 0, d] (o :: rest)).Ok Q := by
  intro n
  have leaf : ∀ (k n : Nat) (o : MO) (d : D) (Q : D → Mem → Prop), RowO o → Dat m n d → (∀ xs, d ≠ .tup xs) → (∀ (v : D) (o' : MO), Dat (m + 1) (n + 1) v → RowO o' → Q v (o' :: rest)) → (callF Γ (k + 3) 24 [.ref 0, d] (o :: rest)).Ok Q := by
    intro k n o d Q ho hd ht hQ
    rw [call_run ⟨2, 3, Sh.b24⟩]
    unfold Sh.b24
    have h0 := hd.up
    have hL : Dat (m + 1) (n + 1) (.lst [d]) := ⟨by simp, fun x hx => by simp at hx; subst hx; exact hd.mono (by omega) (Nat.le_refl _)⟩
    have hs : ∀ s : Str, s.cps.all (· < 0x110000) = true → Dat (m + 1) (n + 1) (.str s) := fun s h => h
    have hu : data n d = true := hd.data
    have choice : ∀ xs : List D, xs ≠ [] → xs.length < 100 → (∀ v ∈ xs, Dat (m + 1) (n + 1) v) → ∀ o : MO, RowO o → (callF Γ (k + 2) 16 [.ref 0, .lst xs] (o :: rest)).Ok fun v M' => ∃ o', Dat (m + 1) (n + 1) v ∧ RowO o' ∧ M' = o' :: rest := fun xs h1 h2 h3 o ho => pick_ok ho h1 (by omega) fun v o' hv ho' => ⟨o', h3 v hv, ho', rfl⟩
    cases d with
    | tup xs => exact absurd rfl (ht xs)
    | int i =>
      simp -implicitDefEqProofs [ev_nil, ev_seq, exS.eq_1, exS.eq_2, exS.eq_3, exS.eq_4, exS.eq_5, ev_ife, ev_loop, ev_whil, exS.eq_9, exS.eq_10, exS.eq_11, exS.eq_12, exS.eq_13, evE.eq_1, evE.eq_2, evE.eq_3, evE.eq_4, evE.eq_5, evE.eq_6, ev_and, ev_or, evE.eq_9, evE.eq_10, ev_ite, ev_tup, ev_lst, lineF_ok, ev_comp, evE.eq_15, evE.eq_16, evE.eq_17, evE.eq_18, evE.eq_19, evE.eq_20, evE.eq_21, evE.eq_22, evE.eq_23, evE.eq_24, evE.eq_25, evE.eq_26, evE.eq_27, evE.eq_28, evE.eq_29, evE.eq_30, evE.eq_31, evE.eq_32, evE.eq_33, evE.eq_34, Ok_bind, Ok_fin, evEs, evO, evT, evTs, evI.eq_1, ev_rng1, ev_rng2, evI.eq_4, ev_zip, evC, startE, wipe, lenTs,isAny, isTy, okTy]
      refine (choice [.int (i + 1), .int (i - 1), .int 0, .non, .bl true, .lst [.int i], .int (-1)] (by simp) (by simp) (fun v hv => ?_) o ho).imp fun v M' ⟨o', a, b, c⟩ => ?_
      · simp only [List.mem_cons, List.not_mem_nil, or_false] at hv
        rcases hv with rfl | rfl | rfl | rfl | rfl | rfl | rfl <;> first | exact hL | trivial
      · subst c; simp -implicitDefEqProofs [ev_nil, ev_seq, exS.eq_1, exS.eq_2, exS.eq_3, exS.eq_4, exS.eq_5, ev_ife, ev_loop, ev_whil, exS.eq_9, exS.eq_10, exS.eq_11, exS.eq_12, exS.eq_13, evE.eq_1, evE.eq_2, evE.eq_3, evE.eq_4, evE.eq_5, evE.eq_6, ev_and, ev_or, evE.eq_9, evE.eq_10, ev_ite, ev_tup, ev_lst, lineF_ok, ev_comp, evE.eq_15, evE.eq_16, evE.eq_17, evE.eq_18, evE.eq_19, evE.eq_20, evE.eq_21, evE.eq_22, evE.eq_23, evE.eq_24, evE.eq_25, evE.eq_26, evE.eq_27, evE.eq_28, evE.eq_29, evE.eq_30, evE.eq_31, evE.eq_32, evE.eq_33, evE.eq_34, Ok_bind, Ok_fin, evEs, evO, evT, evTs, evI.eq_1, ev_rng1, ev_rng2, evI.eq_4, ev_zip, evC, startE, wipe, lenTs]; exact hQ v o' a b
    | bl i =>
      simp -implicitDefEqProofs [ev_nil, ev_seq, exS.eq_1, exS.eq_2, exS.eq_3, exS.eq_4, exS.eq_5, ev_ife, ev_loop, ev_whil, exS.eq_9, exS.eq_10, exS.eq_11, exS.eq_12, exS.eq_13, evE.eq_1, evE.eq_2, evE.eq_3, evE.eq_4, evE.eq_5, evE.eq_6, ev_and, ev_or, evE.eq_9, evE.eq_10, ev_ite, ev_tup, ev_lst, lineF_ok, ev_comp, evE.eq_15, evE.eq_16, evE.eq_17, evE.eq_18, evE.eq_19, evE.eq_20, evE.eq_21, evE.eq_22, evE.eq_23, evE.eq_24, evE.eq_25, evE.eq_26, evE.eq_27, evE.eq_28, evE.eq_29, evE.eq_30, evE.eq_31, evE.eq_32, evE.eq_33, evE.eq_34, Ok_bind, Ok_fin, evEs, evO, evT, evTs, evI.eq_1, ev_rng1, ev_rng2, evI.eq_4, ev_zip, evC, startE, wipe, lenTs,isAny, isTy, okTy, binD]
      refine (choice _ (by simp) (by simp) (fun v hv => ?_) o ho).imp fun v M' ⟨o', a, b, c⟩ => ?_
      · simp only [List.mem_cons, List.not_mem_nil, or_false] at hv
        rcases hv with rfl | rfl | rfl | rfl | rfl | rfl | rfl <;> first | exact hL | trivial
      · subst c; simp -implicitDefEqProofs [ev_nil, ev_seq, exS.eq_1, exS.eq_2, exS.eq_3, exS.eq_4, exS.eq_5, ev_ife, ev_loop, ev_whil, exS.eq_9, exS.eq_10, exS.eq_11, exS.eq_12, exS.eq_13, evE.eq_1, evE.eq_2, evE.eq_3, evE.eq_4, evE.eq_5, evE.eq_6, ev_and, ev_or, evE.eq_9, evE.eq_10, ev_ite, ev_tup, ev_lst, lineF_ok, ev_comp, evE.eq_15, evE.eq_16, evE.eq_17, evE.eq_18, evE.eq_19, evE.eq_20, evE.eq_21, evE.eq_22, evE.eq_23, evE.eq_24, evE.eq_25, evE.eq_26, evE.eq_27, evE.eq_28, evE.eq_29, evE.eq_30, evE.eq_31, evE.eq_32, evE.eq_33, evE.eq_34, Ok_bind, Ok_fin, evEs, evO, evT, evTs, evI.eq_1, ev_rng1, ev_rng2, evI.eq_4, ev_zip, evC, startE, wipe, lenTs]; exact hQ v o' a b
    | non =>
      simp -implicitDefEqProofs [ev_nil, ev_seq, exS.eq_1, exS.eq_2, exS.eq_3, exS.eq_4, exS.eq_5, ev_ife, ev_loop, ev_whil, exS.eq_9, exS.eq_10, exS.eq_11, exS.eq_12, exS.eq_13, evE.eq_1, evE.eq_2, evE.eq_3, evE.eq_4, evE.eq_5, evE.eq_6, ev_and, ev_or, evE.eq_9, evE.eq_10, ev_ite, ev_tup, ev_lst, lineF_ok, ev_comp, evE.eq_15, evE.eq_16, evE.eq_17, evE.eq_18, evE.eq_19, evE.eq_20, evE.eq_21, evE.eq_22, evE.eq_23, evE.eq_24, evE.eq_25, evE.eq_26, evE.eq_27, evE.eq_28, evE.eq_29, evE.eq_30, evE.eq_31, evE.eq_32, evE.eq_33, evE.eq_34, Ok_bind, Ok_fin, evEs, evO, evT, evTs, evI.eq_1, ev_rng1, ev_rng2, evI.eq_4, ev_zip, evC, startE, wipe, lenTs,isAny, isTy, okTy]
      refine (choice _ (by simp) (by simp) (fun v hv => ?_) o ho).imp fun v M' ⟨o', a, b, c⟩ => ?_
      · simp only [List.mem_cons, List.not_mem_nil, or_false] at hv
        rcases hv with rfl | rfl | rfl | rfl | rfl <;> first | exact h0 | trivial | exact hs _ (by decide +kernel)
      · subst c; simp -implicitDefEqProofs [ev_nil, ev_seq, exS.eq_1, exS.eq_2, exS.eq_3, exS.eq_4, exS.eq_5, ev_ife, ev_loop, ev_whil, exS.eq_9, exS.eq_10, exS.eq_11, exS.eq_12, exS.eq_13, evE.eq_1, evE.eq_2, evE.eq_3, evE.eq_4, evE.eq_5, evE.eq_6, ev_and, ev_or, evE.eq_9, evE.eq_10, ev_ite, ev_tup, ev_lst, lineF_ok, ev_comp, evE.eq_15, evE.eq_16, evE.eq_17, evE.eq_18, evE.eq_19, evE.eq_20, evE.eq_21, evE.eq_22, evE.eq_23, evE.eq_24, evE.eq_25, evE.eq_26, evE.eq_27, evE.eq_28, evE.eq_29, evE.eq_30, evE.eq_31, evE.eq_32, evE.eq_33, evE.eq_34, Ok_bind, Ok_fin, evEs, evO, evT, evTs, evI.eq_1, ev_rng1, ev_rng2, evI.eq_4, ev_zip, evC, startE, wipe, lenTs]; exact hQ v o' a b
    | str s =>
      simp -implicitDefEqProofs [ev_nil, ev_seq, exS.eq_1, exS.eq_2, exS.eq_3, exS.eq_4, exS.eq_5, ev_ife, ev_loop, ev_whil, exS.eq_9, exS.eq_10, exS.eq_11, exS.eq_12, exS.eq_13, evE.eq_1, evE.eq_2, evE.eq_3, evE.eq_4, evE.eq_5, evE.eq_6, ev_and, ev_or, evE.eq_9, evE.eq_10, ev_ite, ev_tup, ev_lst, lineF_ok, ev_comp, evE.eq_15, evE.eq_16, evE.eq_17, evE.eq_18, evE.eq_19, evE.eq_20, evE.eq_21, evE.eq_22, evE.eq_23, evE.eq_24, evE.eq_25, evE.eq_26, evE.eq_27, evE.eq_28, evE.eq_29, evE.eq_30, evE.eq_31, evE.eq_32, evE.eq_33, evE.eq_34, Ok_bind, Ok_fin, evEs, evO, evT, evTs, evI.eq_1, ev_rng1, ev_rng2, evI.eq_4, ev_zip, evC, startE, wipe, lenTs,isAny, isTy, okTy]
      refine (choice _ (by simp) (by simp) (fun v hv => ?_) o ho).imp fun v M' ⟨o', a, b, c⟩ => ?_
      · simp only [List.mem_cons, List.not_mem_nil, or_false] at hv
        rcases hv with rfl | rfl | rfl | rfl | rfl <;> first | exact h0 | trivial | exact hs _ (by decide +kernel)
      · subst c; simp -implicitDefEqProofs [ev_nil, ev_seq, exS.eq_1, exS.eq_2, exS.eq_3, exS.eq_4, exS.eq_5, ev_ife, ev_loop, ev_whil, exS.eq_9, exS.eq_10, exS.eq_11, exS.eq_12, exS.eq_13, evE.eq_1, evE.eq_2, evE.eq_3, evE.eq_4, evE.eq_5, evE.eq_6, ev_and, ev_or, evE.eq_9, evE.eq_10, ev_ite, ev_tup, ev_lst, lineF_ok, ev_comp, evE.eq_15, evE.eq_16, evE.eq_17, evE.eq_18, evE.eq_19, evE.eq_20, evE.eq_21, evE.eq_22, evE.eq_23, evE.eq_24, evE.eq_25, evE.eq_26, evE.eq_27, evE.eq_28, evE.eq_29, evE.eq_30, evE.eq_31, evE.eq_32, evE.eq_33, evE.eq_34, Ok_bind, Ok_fin, evEs, evO, evT, evTs, evI.eq_1, ev_rng1, ev_rng2, evI.eq_4, ev_zip, evC, startE, wipe, lenTs]; exact hQ v o' a b
    | lst xs =>
      simp -implicitDefEqProofs [ev_nil, ev_seq, exS.eq_1, exS.eq_2, exS.eq_3, exS.eq_4, exS.eq_5, ev_ife, ev_loop, ev_whil, exS.eq_9, exS.eq_10, exS.eq_11, exS.eq_12, exS.eq_13, evE.eq_1, evE.eq_2, evE.eq_3, evE.eq_4, evE.eq_5, evE.eq_6, ev_and, ev_or, evE.eq_9, evE.eq_10, ev_ite, ev_tup, ev_lst, lineF_ok, ev_comp, evE.eq_15, evE.eq_16, evE.eq_17, evE.eq_18, evE.eq_19, evE.eq_20, evE.eq_21, evE.eq_22, evE.eq_23, evE.eq_24, evE.eq_25, evE.eq_26, evE.eq_27, evE.eq_28, evE.eq_29, evE.eq_30, evE.eq_31, evE.eq_32, evE.eq_33, evE.eq_34, Ok_bind, Ok_fin, evEs, evO, evT, evTs, evI.eq_1, ev_rng1, ev_rng2, evI.eq_4, ev_zip, evC, startE, wipe, lenTs,isAny, isTy, okTy]
      refine (choice _ (by simp) (by simp) (fun v hv => ?_) o ho).imp fun v M' ⟨o', a, b, c⟩ => ?_
      · simp only [List.mem_cons, List.not_mem_nil, or_false] at hv
        rcases hv with rfl | rfl | rfl | rfl | rfl <;> first | exact h0 | trivial | exact hs _ (by decide +kernel)
      · subst c; simp -implicitDefEqProofs [ev_nil, ev_seq, exS.eq_1, exS.eq_2, exS.eq_3, exS.eq_4, exS.eq_5, ev_ife, ev_loop, ev_whil, exS.eq_9, exS.eq_10, exS.eq_11, exS.eq_12, exS.eq_13, evE.eq_1, evE.eq_2, evE.eq_3, evE.eq_4, evE.eq_5, evE.eq_6, ev_and, ev_or, evE.eq_9, evE.eq_10, ev_ite, ev_tup, ev_lst, lineF_ok, ev_comp, evE.eq_15, evE.eq_16, evE.eq_17, evE.eq_18, evE.eq_19, evE.eq_20, evE.eq_21, evE.eq_22, evE.eq_23, evE.eq_24, evE.eq_25, evE.eq_26, evE.eq_27, evE.eq_28, evE.eq_29, evE.eq_30, evE.eq_31, evE.eq_32, evE.eq_33, evE.eq_34, Ok_bind, Ok_fin, evEs, evO, evT, evTs, evI.eq_1, ev_rng1, ev_rng2, evI.eq_4, ev_zip, evC, startE, wipe, lenTs]; exact hQ v o' a b
    | _ => cases n <;> exact hd.elim
  induction n with
  | zero => intro k o d Q ho hd hQ; exact leaf k 0 o d Q ho hd (fun xs e => by subst e; exact hd) hQ
  | succ n ih =>
    intro k o d Q ho hd hQ
    by_cases ht : ∃ xs, d = .tup xs
    case neg => exact leaf (k + (n + 1)) (n + 1) o d Q ho hd (fun xs e => ht ⟨xs, e⟩) hQ
    obtain ⟨xs, rfl⟩ := ht
    obtain ⟨hl, hx⟩ := hd
    have hup : ∀ {ys : List D}, ys.length ≤ m + 1 → (∀ x ∈ ys, Dat (m + 1) (n + 1) x) → Dat (m + 1) (n + 1 + 1) (.tup ys) := fun a b => ⟨a, b⟩
    have hx1 : ∀ x ∈ xs, Dat (m + 1) (n + 1) x := fun x h => (hx x h).mono (by omega) (by omega)
    have e1 : binD .add (.tup xs) (.tup [.int 0]) = some (.tup (xs ++ [.int 0])) := cat_tup (by simp; omega)
    have e2 : binD .add (.tup xs) (.tup (xs.take 1)) = some (.tup (xs ++ xs.take 1)) := cat_tup (by rw [List.length_take]; omega)
    have e3 : slcD (.tup xs) none (some (-1)) = some (.tup (cutL xs none (some (-1)))) := rfl
    have hc : (cutL xs none (some (-1))).length ≤ xs.length ∧ ∀ x ∈ cutL xs none (some (-1)), x ∈ xs := by
      unfold cutL
      refine ⟨?_, fun x h => List.mem_of_mem_drop (List.mem_of_mem_take h)⟩
      rw [List.length_take, List.length_drop]; omega
    generalize cutL xs none (some (-1)) = cs at e3 hc
    have e4 : slcD (.tup xs) (some 1) none = some (.tup xs.tail) := by rw [slcD_drop1, List.drop_one]
    have h6 : ∀ v ∈ [D.tup (xs ++ [.int 0]), .tup xs.tail, .tup cs, .lst xs, .tup (xs ++ xs.take 1), .tup xs.reverse, .tup []], Dat (m + 1) (n + 1 + 1) v := by
      intro v hv
      simp only [List.mem_cons, List.not_mem_nil, or_false] at hv
      rcases hv with rfl | rfl | rfl | rfl | rfl | rfl | rfl
      · refine hup (by simp; omega) fun x h => ?_
        rcases List.mem_append.mp h with h | h
        · exact hx1 x h
        · simp at h; subst h; trivial
      · refine hup (by rw [List.length_tail]; omega) fun x h => hx1 x (List.mem_of_mem_tail h)
      · exact hup (by omega) fun x h => hx1 x (hc.2 x h)
      · exact ⟨by omega, hx1⟩
      · refine hup (by rw [List.length_append, List.length_take]; omega) fun x h => ?_
        rcases List.mem_append.mp h with h | h
        · exact hx1 x h
        · exact hx1 x (List.mem_of_mem_take h)
      · exact hup (by rw [List.length_reverse]; omega) fun x h => hx1 x (List.mem_reverse.mp h)
      · exact hup (by simp) fun x h => by simp at h
    rw [call_run ⟨2, 3, Sh.b24⟩]
    unfold Sh.b24
    have e0 : k + (n + 1) + 2 = (k + n + 2) + 1 := by omega
    have e00 : k + (n + 1) + 2 = k + n + 3 := by omega
    have pk : ∀ (o : MO), RowO o → (callF Γ (k + (n + 1) + 2) 16 [.ref 0, .lst [D.tup (xs ++ [.int 0]), .tup xs.tail, .tup cs, .lst xs, .tup (xs ++ xs.take 1), .tup xs.reverse, .tup []]] (o :: rest)).Ok fun v M' => ∃ o', Dat (m + 1) (n + 1 + 1) v ∧ RowO o' ∧ M' = o' :: rest :=
      fun o ho => pick_ok ho (by simp) (by simp) fun v o' hv ho' => ⟨o', h6 v hv, ho', rfl⟩
    have tk : ∀ (o : MO) (many : Int), RowO o → 0 < many → many < 1073741824 → (callF Γ (k + (n + 1) + 2) 15 [.ref 0, .int many] (o :: rest)).Ok fun v M' => ∃ (i : Int) (o' : MO), v = .int i ∧ 0 ≤ i ∧ i < many ∧ RowO o' ∧ M' = o' :: rest :=
      fun o many ho h1 h2 => by rw [e0]; exact taken_ok ho h1 h2 fun i o' a b c => ⟨i, o', rfl, a, b, c, rfl⟩
    simp -implicitDefEqProofs [ev_nil, ev_seq, exS.eq_1, exS.eq_2, exS.eq_3, exS.eq_4, exS.eq_5, ev_ife, ev_loop, ev_whil, exS.eq_9, exS.eq_10, exS.eq_11, exS.eq_12, exS.eq_13, evE.eq_1, evE.eq_2, evE.eq_3, evE.eq_4, evE.eq_5, evE.eq_6, ev_and, ev_or, evE.eq_9, evE.eq_10, ev_ite, ev_tup, ev_lst, lineF_ok, ev_comp, evE.eq_15, evE.eq_16, evE.eq_17, evE.eq_18, evE.eq_19, evE.eq_20, evE.eq_21, evE.eq_22, evE.eq_23, evE.eq_24, evE.eq_25, evE.eq_26, evE.eq_27, evE.eq_28, evE.eq_29, evE.eq_30, evE.eq_31, evE.eq_32, evE.eq_33, evE.eq_34, Ok_bind, Ok_fin, evEs, evO, evT, evTs, evI.eq_1, ev_rng1, ev_rng2, evI.eq_4, ev_zip, evC, startE, wipe, lenTs,isAny, isTy, okTy]
    by_cases h0 : xs = []
    · have hb : ((xs.length : Int) == 0) = true := by rw [h0]; rfl
      simp -implicitDefEqProofs [ev_nil, ev_seq, exS.eq_1, exS.eq_2, exS.eq_3, exS.eq_4, exS.eq_5, ev_ife, ev_loop, ev_whil, exS.eq_9, exS.eq_10, exS.eq_11, exS.eq_12, exS.eq_13, evE.eq_1, evE.eq_2, evE.eq_3, evE.eq_4, evE.eq_5, evE.eq_6, ev_and, ev_or, evE.eq_9, evE.eq_10, ev_ite, ev_tup, ev_lst, lineF_ok, ev_comp, evE.eq_15, evE.eq_16, evE.eq_17, evE.eq_18, evE.eq_19, evE.eq_20, evE.eq_21, evE.eq_22, evE.eq_23, evE.eq_24, evE.eq_25, evE.eq_26, evE.eq_27, evE.eq_28, evE.eq_29, evE.eq_30, evE.eq_31, evE.eq_32, evE.eq_33, evE.eq_34, Ok_bind, Ok_fin, evEs, evO, evT, evTs, evI.eq_1, ev_rng1, ev_rng2, evI.eq_4, ev_zip, evC, startE, wipe, lenTs,hb, partI, slcD_take1, e4, e1, e2, e3, revD]
      refine (pk o ho).imp fun v M' ⟨o', a, b, c⟩ => ?_
      subst c; simp -implicitDefEqProofs [ev_nil, ev_seq, exS.eq_1, exS.eq_2, exS.eq_3, exS.eq_4, exS.eq_5, ev_ife, ev_loop, ev_whil, exS.eq_9, exS.eq_10, exS.eq_11, exS.eq_12, exS.eq_13, evE.eq_1, evE.eq_2, evE.eq_3, evE.eq_4, evE.eq_5, evE.eq_6, ev_and, ev_or, evE.eq_9, evE.eq_10, ev_ite, ev_tup, ev_lst, lineF_ok, ev_comp, evE.eq_15, evE.eq_16, evE.eq_17, evE.eq_18, evE.eq_19, evE.eq_20, evE.eq_21, evE.eq_22, evE.eq_23, evE.eq_24, evE.eq_25, evE.eq_26, evE.eq_27, evE.eq_28, evE.eq_29, evE.eq_30, evE.eq_31, evE.eq_32, evE.eq_33, evE.eq_34, Ok_bind, Ok_fin, evEs, evO, evT, evTs, evI.eq_1, ev_rng1, ev_rng2, evI.eq_4, ev_zip, evC, startE, wipe, lenTs]; exact hQ v o' a b
    · have hpos := List.length_pos_iff.mpr h0
      have hb : ((xs.length : Int) == 0) = false := by
        rw [beq_eq_false_iff_ne]; omega
      simp -implicitDefEqProofs [ev_nil, ev_seq, exS.eq_1, exS.eq_2, exS.eq_3, exS.eq_4, exS.eq_5, ev_ife, ev_loop, ev_whil, exS.eq_9, exS.eq_10, exS.eq_11, exS.eq_12, exS.eq_13, evE.eq_1, evE.eq_2, evE.eq_3, evE.eq_4, evE.eq_5, evE.eq_6, ev_and, ev_or, evE.eq_9, evE.eq_10, ev_ite, ev_tup, ev_lst, lineF_ok, ev_comp, evE.eq_15, evE.eq_16, evE.eq_17, evE.eq_18, evE.eq_19, evE.eq_20, evE.eq_21, evE.eq_22, evE.eq_23, evE.eq_24, evE.eq_25, evE.eq_26, evE.eq_27, evE.eq_28, evE.eq_29, evE.eq_30, evE.eq_31, evE.eq_32, evE.eq_33, evE.eq_34, Ok_bind, Ok_fin, evEs, evO, evT, evTs, evI.eq_1, ev_rng1, ev_rng2, evI.eq_4, ev_zip, evC, startE, wipe, lenTs,hb]
      refine (tk o 6 ho (by omega) (by omega)).imp fun v M' ⟨i, o1, a, b, c, d, e⟩ => ?_
      subst a e
      by_cases hi0 : i = 0
      · subst hi0
        simp -implicitDefEqProofs [ev_nil, ev_seq, exS.eq_1, exS.eq_2, exS.eq_3, exS.eq_4, exS.eq_5, ev_ife, ev_loop, ev_whil, exS.eq_9, exS.eq_10, exS.eq_11, exS.eq_12, exS.eq_13, evE.eq_1, evE.eq_2, evE.eq_3, evE.eq_4, evE.eq_5, evE.eq_6, ev_and, ev_or, evE.eq_9, evE.eq_10, ev_ite, ev_tup, ev_lst, lineF_ok, ev_comp, evE.eq_15, evE.eq_16, evE.eq_17, evE.eq_18, evE.eq_19, evE.eq_20, evE.eq_21, evE.eq_22, evE.eq_23, evE.eq_24, evE.eq_25, evE.eq_26, evE.eq_27, evE.eq_28, evE.eq_29, evE.eq_30, evE.eq_31, evE.eq_32, evE.eq_33, evE.eq_34, Ok_bind, Ok_fin, evEs, evO, evT, evTs, evI.eq_1, ev_rng1, ev_rng2, evI.eq_4, ev_zip, evC, startE, wipe, lenTs,partI, slcD_take1, e4, e1, e2, e3, revD]
        refine (pk o1 d).imp fun v M' ⟨o', a, b, c⟩ => ?_
        subst c; simp -implicitDefEqProofs [ev_nil, ev_seq, exS.eq_1, exS.eq_2, exS.eq_3, exS.eq_4, exS.eq_5, ev_ife, ev_loop, ev_whil, exS.eq_9, exS.eq_10, exS.eq_11, exS.eq_12, exS.eq_13, evE.eq_1, evE.eq_2, evE.eq_3, evE.eq_4, evE.eq_5, evE.eq_6, ev_and, ev_or, evE.eq_9, evE.eq_10, ev_ite, ev_tup, ev_lst, lineF_ok, ev_comp, evE.eq_15, evE.eq_16, evE.eq_17, evE.eq_18, evE.eq_19, evE.eq_20, evE.eq_21, evE.eq_22, evE.eq_23, evE.eq_24, evE.eq_25, evE.eq_26, evE.eq_27, evE.eq_28, evE.eq_29, evE.eq_30, evE.eq_31, evE.eq_32, evE.eq_33, evE.eq_34, Ok_bind, Ok_fin, evEs, evO, evT, evTs, evI.eq_1, ev_rng1, ev_rng2, evI.eq_4, ev_zip, evC, startE, wipe, lenTs]; exact hQ v o' a b
      · have hb2 : (i == 0) = false := by rw [beq_eq_false_iff_ne]; exact hi0
        simp -implicitDefEqProofs [ev_nil, ev_seq, exS.eq_1, exS.eq_2, exS.eq_3, exS.eq_4, exS.eq_5, ev_ife, ev_loop, ev_whil, exS.eq_9, exS.eq_10, exS.eq_11, exS.eq_12, exS.eq_13, evE.eq_1, evE.eq_2, evE.eq_3, evE.eq_4, evE.eq_5, evE.eq_6, ev_and, ev_or, evE.eq_9, evE.eq_10, ev_ite, ev_tup, ev_lst, lineF_ok, ev_comp, evE.eq_15, evE.eq_16, evE.eq_17, evE.eq_18, evE.eq_19, evE.eq_20, evE.eq_21, evE.eq_22, evE.eq_23, evE.eq_24, evE.eq_25, evE.eq_26, evE.eq_27, evE.eq_28, evE.eq_29, evE.eq_30, evE.eq_31, evE.eq_32, evE.eq_33, evE.eq_34, Ok_bind, Ok_fin, evEs, evO, evT, evTs, evI.eq_1, ev_rng1, ev_rng2, evI.eq_4, ev_zip, evC, startE, wipe, lenTs,hb2]
        refine (tk o1 xs.length d (by omega) (by omega)).imp fun v M' ⟨j, o2, a, b2, c2, d2, e⟩ => ?_
        subst a e
        obtain ⟨jn, rfl⟩ : ∃ jn : Nat, j = jn := ⟨j.toNat, by omega⟩
        have hjn : jn < xs.length := by omega
        have e5 : ((jn : Int) + 1) = ((jn + 1 : Nat) : Int) := by omega
        simp -implicitDefEqProofs [ev_nil, ev_seq, exS.eq_1, exS.eq_2, exS.eq_3, exS.eq_4, exS.eq_5, ev_ife, ev_loop, ev_whil, exS.eq_9, exS.eq_10, exS.eq_11, exS.eq_12, exS.eq_13, evE.eq_1, evE.eq_2, evE.eq_3, evE.eq_4, evE.eq_5, evE.eq_6, ev_and, ev_or, evE.eq_9, evE.eq_10, ev_ite, ev_tup, ev_lst, lineF_ok, ev_comp, evE.eq_15, evE.eq_16, evE.eq_17, evE.eq_18, evE.eq_19, evE.eq_20, evE.eq_21, evE.eq_22, evE.eq_23, evE.eq_24, evE.eq_25, evE.eq_26, evE.eq_27, evE.eq_28, evE.eq_29, evE.eq_30, evE.eq_31, evE.eq_32, evE.eq_33, evE.eq_34, Ok_bind, Ok_fin, evEs, evO, evT, evTs, evI.eq_1, ev_rng1, ev_rng2, evI.eq_4, ev_zip, evC, startE, wipe, lenTs,partI, slcD_take, ixD, atI_nat hjn]
        rw [e00]
        refine ih k o2 xs[jn] _ d2 (hx _ (List.getElem_mem hjn)) fun v o' hv ho' => ?_
        have l1 : (xs.take jn).length ≤ xs.length := by rw [List.length_take]; omega
        have l2 : (xs.drop (jn + 1)).length ≤ xs.length := by rw [List.length_drop]; omega
        have e6 : binD .add (.tup (xs.take jn)) (.tup [v]) = some (.tup (xs.take jn ++ [v])) := cat_tup (by simp only [List.length_singleton]; omega)
        have e7 : binD .add (.tup (xs.take jn ++ [v])) (.tup (xs.drop (jn + 1))) = some (.tup (xs.take jn ++ [v] ++ xs.drop (jn + 1))) := cat_tup (by rw [List.length_append, List.length_singleton]; omega)
        simp -implicitDefEqProofs [ev_nil, ev_seq, exS.eq_1, exS.eq_2, exS.eq_3, exS.eq_4, exS.eq_5, ev_ife, ev_loop, ev_whil, exS.eq_9, exS.eq_10, exS.eq_11, exS.eq_12, exS.eq_13, evE.eq_1, evE.eq_2, evE.eq_3, evE.eq_4, evE.eq_5, evE.eq_6, ev_and, ev_or, evE.eq_9, evE.eq_10, ev_ite, ev_tup, ev_lst, lineF_ok, ev_comp, evE.eq_15, evE.eq_16, evE.eq_17, evE.eq_18, evE.eq_19, evE.eq_20, evE.eq_21, evE.eq_22, evE.eq_23, evE.eq_24, evE.eq_25, evE.eq_26, evE.eq_27, evE.eq_28, evE.eq_29, evE.eq_30, evE.eq_31, evE.eq_32, evE.eq_33, evE.eq_34, Ok_bind, Ok_fin, evEs, evO, evT, evTs, evI.eq_1, ev_rng1, ev_rng2, evI.eq_4, ev_zip, evC, startE, wipe, lenTs,e6]
        rw [e5, slcD_drop]
        simp -implicitDefEqProofs [ev_nil, ev_seq, exS.eq_1, exS.eq_2, exS.eq_3, exS.eq_4, exS.eq_5, ev_ife, ev_loop, ev_whil, exS.eq_9, exS.eq_10, exS.eq_11, exS.eq_12, exS.eq_13, evE.eq_1, evE.eq_2, evE.eq_3, evE.eq_4, evE.eq_5, evE.eq_6, ev_and, ev_or, evE.eq_9, evE.eq_10, ev_ite, ev_tup, ev_lst, lineF_ok, ev_comp, evE.eq_15, evE.eq_16, evE.eq_17, evE.eq_18, evE.eq_19, evE.eq_20, evE.eq_21, evE.eq_22, evE.eq_23, evE.eq_24, evE.eq_25, evE.eq_26, evE.eq_27, evE.eq_28, evE.eq_29, evE.eq_30, evE.eq_31, evE.eq_32, evE.eq_33, evE.eq_34, Ok_bind, Ok_fin, evEs, evO, evT, evTs, evI.eq_1, ev_rng1, ev_rng2, evI.eq_4, ev_zip, evC, startE, wipe, lenTs,e7]
        have hres : Dat (m + 1) (n + 1 + 1) (.tup (xs.take jn ++ [v] ++ xs.drop (jn + 1))) := by
          refine ⟨?_, fun x h => ?_⟩
          · rw [List.length_append, List.length_append, List.length_take, List.length_drop, List.length_singleton]; omega
          · rcases List.mem_append.mp h with h | h
            · rcases List.mem_append.mp h with h | h
              · exact hx1 x (List.mem_of_mem_take h)
              · simp at h; subst h; exact hv
            · exact hx1 x (List.mem_of_mem_drop h)
        have := hQ _ o' hres ho'
        simpa using this
end GW

set_option linter.all false
set_option autoImplicit false
set_option maxRecDepth 100000
set_option maxHeartbeats 1000000
/-! Live lists; loops that end early; sums. -/
namespace GW
open PySem
/-- a word that is not looked into -/
structure Hold (p : Prop) : Prop where
  it : p
theorem Hold.imp {α : Type} {r : Out α} {Q Q' : α → Mem → Prop} (h : Hold (r.Ok Q)) (i : ∀ a M, Q a M → Q' a M) : r.Ok Q' := by
  obtain ⟨h⟩ := h
  exact Out.Ok.imp h i
theorem set_last (M : Mem) (a b : MO) : (M ++ [a]).set M.length b = M ++ [b] := by
  rw [List.set_append_right _ _ (Nat.le_refl _)]; simp
theorem get_last (M : Mem) (a : MO) : (M ++ [a])[M.length]? = some a := by simp
theorem append_ok {M : Mem} {n : Nat} {xs : List D} (h : M[n]? = some (.lst xs)) (hl : xs.length ≤ 1000000) (x : D) : bmtD .append (.ref n) [x] M = .ok .non (M.set n (.lst (xs ++ [x]))) := by
  simp only [bmtD, h]
  rw [if_pos (by unfold LINE; omega)]
theorem recv_append {M : Mem} {n : Nat} {xs : List D} (h : M[n]? = some (.lst xs)) : recvOk .append (.ref n) M = true := by
  simp only [recvOk, rd, h]
theorem rd_ref {M : Mem} {n : Nat} {xs : List D} (h : M[n]? = some (.lst xs)) : rd M (.ref n) = .lst xs := by simp only [rd, h]
/-- a loop that ends early or goes through -/
theorem forL_all {f : D → Env → Mem → Out Fl} (good : D → Bool) (S : Env → Prop) {M : Mem} {r : D} : ∀ (ds : List D) (ρ : Env), S ρ →
    (∀ d ∈ ds, ∀ ρ, S ρ → ∃ ρ', S ρ' ∧ f d ρ M = .ok (if good d then .nx ρ' else .rt r) M) → ∃ ρ', S ρ' ∧ forL f ds ρ M = .ok (if ds.all good then .nx ρ' else .rt r) M
  | [], ρ, hS, _ => ⟨ρ, hS, rfl⟩
  | d :: ds, ρ, hS, h => by
    obtain ⟨ρ1, h1, e1⟩ := h d List.mem_cons_self ρ hS
    rw [forL, e1, bind_ok]
    cases hg : good d with
    | true =>
      obtain ⟨ρ2, h2, e2⟩ := forL_all good S ds ρ1 h1 fun x hx => h x (List.mem_cons_of_mem _ hx)
      refine ⟨ρ2, h2, ?_⟩
      rw [List.all_cons, hg, Bool.true_and]
      exact e2
    | false =>
      refine ⟨ρ1, h1, ?_⟩
      rw [List.all_cons, hg, Bool.false_and]
      rfl
theorem Ok_eq {α : Type} {r : Out α} {a : α} {M : Mem} (h : r.Ok fun x M' => x = a ∧ M' = M) : r = .ok a M := by
  obtain ⟨x, M', e, rfl, rfl⟩ := h.eq
  exact e
theorem rngD_get_e : ∀ (n : Nat) (a : Int) (i : Nat) (d : D), (rngD a n)[i]? = some d → d = .int (a + i) ∧ i < n
  | 0, _, _, _, h => by simp [rngD] at h
  | n + 1, a, 0, d, h => by simp [rngD] at h; subst h; simp
  | n + 1, a, i + 1, d, h => by
    simp only [rngD, List.getElem?_cons_succ] at h
    obtain ⟨rfl, hi⟩ := rngD_get_e n (a + 1) i d h
    exact ⟨by congr 1; omega, by omega⟩
theorem compL_on {α : Type} {f : D → Mem → Out (Option D)} {a b : α → D} {M : Mem} : ∀ {xs : List α}, (∀ x ∈ xs, f (a x) M = .ok (some (b x)) M) → compL f (xs.map a) M = .ok (xs.map b) M
  | [], _ => rfl
  | x :: xs, h => by
    rw [List.map_cons, compL, h x List.mem_cons_self, bind_ok, compL_on (xs := xs) fun y hy => h y (List.mem_cons_of_mem _ hy), bind_ok]
    rfl
theorem mul_int {i j : Int} (h : small i = true) : binD .mul (.int i) (.int j) = some (.int (i * j)) := by
  simp only [binD, h, Bool.true_or, if_true]
theorem all_map {α : Type} (p : α → Bool) (xs : List α) : bltD .all [.lst (xs.map fun x => .bl (p x))] = some (.bl (xs.all p)) := by
  simp only [bltD, blsOf_map, Option.map_some, List.all_map]
  rfl
theorem wt_tup (xs : List D) : wtD (.tup xs) = wtL xs + 8 := by simp only [wtD]
theorem wt_lst (xs : List D) : wtD (.lst xs) = wtL xs + 8 := by simp only [wtD]
theorem wt_str (s : Str) : wtD (.str s) = 10 * s.length + 8 := by simp only [wtD]
theorem wt_non : wtD .non = 8 := by simp only [wtD]
theorem wt_cons (x : D) (xs : List D) : wtL (x :: xs) = wtD x + wtL xs + 8 := by simp only [wtL]
theorem wt_nil : wtL [] = 0 := by simp only [wtL]
theorem wt_int {i : Int} (h0 : 0 ≤ i) (h : i ≤ 100) : wtD (.int i) = 1016 := by
  have h1 : i.natAbs < 2 ^ 1000 := Nat.lt_of_lt_of_le (show i.natAbs < 2 ^ 7 by omega) (Nat.pow_le_pow_right (by omega) (by omega))
  simp only [wtD]
  rw [if_pos h1]
theorem recv_last (Z : Mem) (xs : List D) : recvOk .append (.ref Z.length) (Z ++ [.lst xs]) = true := recv_append (get_last Z (.lst xs))
theorem app_last (Z : Mem) (xs : List D) (hl : xs.length ≤ 1000000) (x : D) : bmtD .append (.ref Z.length) [x] (Z ++ [.lst xs]) = .ok .non (Z ++ [.lst (xs ++ [x])]) := by
  rw [append_ok (get_last Z (.lst xs)) hl, set_last]
theorem rd_last (Z : Mem) (xs : List D) : rd (Z ++ [.lst xs]) (.ref Z.length) = .lst xs := rd_ref (get_last Z (.lst xs))
theorem intsOf_map {α : Type} (p : α → Int) : ∀ xs : List α, intsOf (xs.map fun x => .int (p x)) = some (xs.map p)
  | [] => rfl
  | x :: xs => by rw [List.map_cons, intsOf, intsOf_map p xs]; rfl
theorem sum_map {α : Type} (p : α → Int) (xs : List α) : bltD .sum [.lst (xs.map fun x => .int (p x))] = some (.int (xs.map p).sum) := by
  simp only [bltD, intsOf_map]; rfl
theorem min_two (i j : Int) : bltD .min1 [.lst [.int i, .int j]] = some (.int (if j < i then j else i)) := by
  simp only [bltD, intsOf, Option.map]; rfl
theorem min_one (i : Int) : bltD .min1 [.lst [.int i]] = some (.int i) := rfl
theorem ix_tup {xs : List D} {i : Nat} (h : i < xs.length) : ixD (.tup xs) (.int i) = some xs[i] := atI_nat h
theorem ix_lst {xs : List D} {i : Nat} (h : i < xs.length) : ixD (.lst xs) (.int i) = some xs[i] := atI_nat h
theorem ix0 (x : D) (xs : List D) : ixD (.tup (x :: xs)) (.int 0) = some x := atI_nat (xs := x :: xs) (i := 0) (by simp)
theorem ix0l (x : D) (xs : List D) : ixD (.lst (x :: xs)) (.int 0) = some x := atI_nat (xs := x :: xs) (i := 0) (by simp)
theorem ix1 (x y : D) (xs : List D) : ixD (.tup (x :: y :: xs)) (.int 1) = some y := atI_nat (xs := x :: y :: xs) (i := 1) (by simp)
theorem ix1l (x y : D) (xs : List D) : ixD (.lst (x :: y :: xs)) (.int 1) = some y := atI_nat (xs := x :: y :: xs) (i := 1) (by simp)
theorem ix2 (x y z : D) (xs : List D) : ixD (.tup (x :: y :: z :: xs)) (.int 2) = some z := atI_nat (xs := x :: y :: z :: xs) (i := 2) (by simp)
theorem cat_lst {xs ys : List D} (h : xs.length + ys.length ≤ 1000000) : binD .add (.lst xs) (.lst ys) = some (.lst (xs ++ ys)) := by
  simp only [binD]
  rw [if_pos (by unfold LINE; omega)]
end GW

set_option maxRecDepth 100000
set_option linter.all false
set_option autoImplicit false
namespace K18
open PySem GW
/-- is_hour: 0:row 1:ahead -/
def c25 : CSs := (.cons (.ret (.call 4 (.cons (.var 0) (.cons (.lit (.int 2)) (.cons (.lit (.int 0)) (.cons (.glb 2) .nil)))))) .nil)
/-- wrong_place: 0:parts 1:place -/
def c26 : CSs := (.cons (.ife (.cmp .eq (.var 1) (.lit (.int 0))) (.cons (.ret (.call 6 (.cons (.ix (.var 0) (.lit (.int 0))) (.cons (.lit (.int 1)) (.cons (.glb 1) (.cons (.lit (.fn 25)) .nil)))))) .nil) .nil) (.cons (.ret (.call 8 (.cons (.ix (.var 0) (.var 1)) (.cons (.lit (.int 0)) (.cons (.ite (.cmp .eq (.var 1) (.lit (.int 1))) (.glb 2) (.lit (.int 1))) .nil))))) .nil))
/-- Screens.__init__: 0:self 1:parts -/
def c27 : CSs := (.cons (.exp (.call 9 (.cons (.lit (.str "screens")) (.cons (.glb 0) (.cons (.var 1) (.cons (.lit (.fn 26)) .nil)))))) (.cons (.asg (.att (.var 0) 10) (.var 1)) (.cons (.asg (.tup (.cons (.att (.var 0) 9) (.cons (.att (.var 0) 8) (.cons (.att (.var 0) 7) .nil)))) (.var 1)) .nil)))
/-- Screens.with_part: 0:self 1:word 2:value -/
def c28 : CSs := (.cons (.ret (.new 11 (.cons (.call 10 (.cons (.att (.var 0) 10) (.cons (.call 11 (.cons (.glb 0) (.cons (.var 1) (.cons (.lit (.str "screens")) .nil)))) (.cons (.var 2) .nil)))) .nil))) .nil)
/-- Screens.with_hour: 0:self 1:hour 2:opened 3:closed -/
def c29 : CSs := (.cons (.ife (.not (.call 1 (.cons (.var 1) (.cons (.lit (.int 1)) (.cons (.blt .len (.cons (.att (.var 0) 9) .nil)) .nil))))) (.cons (.rais 3 (.cons (.var 1) .nil)) .nil) .nil) (.cons (.ret (.mth 11 (.var 0) (.cons (.lit (.str "hours")) (.cons (.call 10 (.cons (.att (.var 0) 9) (.cons (.bin .sub (.var 1) (.lit (.int 1))) (.cons (.tup (.cons (.var 2) (.cons (.var 3) .nil))) .nil)))) .nil)))) .nil))
/-- Screens.__eq__: 0:self 1:other -/
def c30 : CSs := (.cons (.ret (.and (.isi (.var 1) [(.cls 11)]) (.cmp .eq (.att (.var 0) 10) (.att (.var 1) 10)))) .nil)
/-- are_screens: 0:value -/
def c31 : CSs := (.cons (.ret (.isi (.var 0) [(.cls 11)])) .nil)
/-- is_shading: 0:screens 1:value -/
def c32 : CSs := (.cons (.ret (.call 4 (.cons (.var 1) (.cons (.blt .len (.cons (.att (.var 0) 9) .nil)) (.cons (.lit (.int 0)) (.cons (.lit (.int 1)) .nil)))))) .nil)
/-- shading_cost: 0:screens 1:value 2:found 3:row 4:told 5:one 6:other -/
def c33 : CSs := (.cons (.ife (.not (.call 32 (.cons (.var 0) (.cons (.var 1) .nil)))) (.cons (.ret (.neg (.lit (.int 1)))) .nil) .nil) (.cons (.asg (.name 2) (.blt .sum (.cons (.comp false [3,4] (.tup (.cons (.name 3) (.cons (.name 4) .nil))) (.zip (.att (.var 0) 9) (.var 1)) .no (.ix (.var 3) (.var 4))) .nil))) (.cons (.ret (.bin .add (.var 2) (.bin .mul (.att (.var 0) 8) (.blt .sum (.cons (.comp false [5,6] (.tup (.cons (.name 5) (.cons (.name 6) .nil))) (.zip (.bin .add (.tup (.cons (.att (.var 0) 7) .nil)) (.var 1)) (.var 1)) .no (.blt .int (.cons (.cmp .ne (.var 5) (.var 6)) .nil))) .nil))))) .nil)))
/-- step_cost: 0:screens 1:hour 2:before 3:told -/
def c34 : CSs := (.cons (.ret (.bin .add (.ix (.ix (.att (.var 0) 9) (.var 1)) (.var 3)) (.ite (.cmp .ne (.var 2) (.var 3)) (.att (.var 0) 8) (.lit (.int 0))))) .nil)
/-- worths: 0:screens 1:found 2:back 3:row 4:before 5:hour 6:behind 7:told -/
def c35 : CSs := (.cons (.asg (.name 1) (.lst false (.cons (.tup (.cons (.lit (.int 0)) (.cons (.lit (.int 0)) .nil))) .nil))) (.cons (.loop (.name 2) (.rng1 (.blt .len (.cons (.att (.var 0) 9) .nil))) (.cons (.asg (.tup (.cons (.name 5) (.cons (.name 6) .nil))) (.tup (.cons (.bin .sub (.bin .sub (.blt .len (.cons (.att (.var 0) 9) .nil)) (.lit (.int 1))) (.var 2)) (.cons (.ix (.var 1) (.lit (.int 0))) .nil)))) (.cons (.asg (.name 3) (.lst true .nil)) (.cons (.loop (.name 4) (.seq (.tup (.cons (.lit (.int 0)) (.cons (.lit (.int 1)) .nil)))) (.cons (.exp (.bmt .append (.var 3) (.cons (.blt .min1 (.cons (.comp false [7] (.name 7) (.seq (.tup (.cons (.lit (.int 0)) (.cons (.lit (.int 1)) .nil)))) .no (.bin .add (.call 34 (.cons (.var 0) (.cons (.var 5) (.cons (.var 4) (.cons (.var 7) .nil))))) (.ix (.var 6) (.var 7)))) .nil)) .nil))) .nil)) (.cons (.asg (.name 1) (.bin .add (.lst false (.cons (.blt .tuple (.cons (.var 3) .nil)) .nil)) (.var 1))) .nil))))) (.cons (.ret (.blt .tuple (.cons (.var 1) .nil))) .nil)))
/-- shading: 0:screens 1:hour 2:rows 3:found 4:before 5:told -/
def c36 : CSs := (.cons (.asg (.tup (.cons (.name 2) (.cons (.name 3) (.cons (.name 4) .nil)))) (.tup (.cons (.call 35 (.cons (.var 0) .nil)) (.cons (.lst true .nil) (.cons (.att (.var 0) 7) .nil))))) (.cons (.loop (.name 1) (.rng1 (.blt .len (.cons (.att (.var 0) 9) .nil))) (.cons (.asg (.name 5) (.lit (.int 0))) (.cons (.ife (.cmp .gt (.bin .add (.call 34 (.cons (.var 0) (.cons (.var 1) (.cons (.var 4) (.cons (.lit (.int 0)) .nil))))) (.ix (.ix (.var 2) (.bin .add (.var 1) (.lit (.int 1)))) (.lit (.int 0)))) (.ix (.ix (.var 2) (.var 1)) (.var 4))) (.cons (.asg (.name 5) (.lit (.int 1))) .nil) .nil) (.cons (.exp (.bmt .append (.var 3) (.cons (.var 5) .nil))) (.cons (.asg (.name 4) (.var 5)) .nil))))) (.cons (.ret (.blt .tuple (.cons (.var 3) .nil))) .nil)))
/-- least_shading: 0:screens -/
def c37 : CSs := (.cons (.ret (.ix (.ix (.call 35 (.cons (.var 0) .nil)) (.lit (.int 0))) (.att (.var 0) 7))) .nil)
/-- are_worths: 0:screens 1:value 2:hour 3:before 4:told 5:row -/
def c38 : CSs := (.cons (.ife (.or (.not (.call 3 (.cons (.var 1) (.cons (.bin .add (.blt .len (.cons (.att (.var 0) 9) .nil)) (.lit (.int 1))) .nil)))) (.not (.blt .all (.cons (.comp false [5] (.name 5) (.seq (.var 1)) .no (.call 4 (.cons (.var 5) (.cons (.lit (.int 2)) (.cons (.lit (.int 0)) (.cons (.glb 3) .nil)))))) .nil)))) (.cons (.ret (.lit (.bl false))) .nil) .nil) (.cons (.ife (.cmp .ne (.ix (.var 1) (.neg (.lit (.int 1)))) (.tup (.cons (.lit (.int 0)) (.cons (.lit (.int 0)) .nil)))) (.cons (.ret (.lit (.bl false))) .nil) .nil) (.cons (.loop (.name 2) (.rng1 (.blt .len (.cons (.att (.var 0) 9) .nil))) (.cons (.loop (.name 3) (.seq (.tup (.cons (.lit (.int 0)) (.cons (.lit (.int 1)) .nil)))) (.cons (.loop (.name 4) (.seq (.tup (.cons (.lit (.int 0)) (.cons (.lit (.int 1)) .nil)))) (.cons (.ife (.cmp .gt (.ix (.ix (.var 1) (.var 2)) (.var 3)) (.bin .add (.call 34 (.cons (.var 0) (.cons (.var 2) (.cons (.var 3) (.cons (.var 4) .nil))))) (.ix (.ix (.var 1) (.bin .add (.var 2) (.lit (.int 1)))) (.var 4)))) (.cons (.ret (.lit (.bl false))) .nil) .nil) .nil)) .nil)) .nil)) (.cons (.ret (.lit (.bl true))) .nil))))
/-- screens_paper: 0:screens -/
def c39 : CSs := (.cons (.ret (.tup (.cons (.call 36 (.cons (.var 0) .nil)) (.cons (.call 35 (.cons (.var 0) .nil)) .nil)))) .nil)
/-- is_screens_paper: 0:screens 1:value -/
def c40 : CSs := (.cons (.ife (.or (.not (.call 3 (.cons (.var 1) (.cons (.lit (.int 2)) .nil)))) (.or (.not (.call 32 (.cons (.var 0) (.cons (.ix (.var 1) (.lit (.int 0))) .nil)))) (.not (.call 38 (.cons (.var 0) (.cons (.ix (.var 1) (.lit (.int 1))) .nil)))))) (.cons (.ret (.lit (.bl false))) .nil) .nil) (.cons (.ret (.cmp .eq (.call 33 (.cons (.var 0) (.cons (.ix (.var 1) (.lit (.int 0))) .nil))) (.ix (.ix (.ix (.var 1) (.lit (.int 1))) (.lit (.int 0))) (.att (.var 0) 7)))) .nil))
/-- _law_screens: 0:row 1:wide 2:hours 3:k -/
def c41 : CSs := (.cons (.asg (.name 1) (.call 16 (.cons (.var 0) (.cons (.lst false (.cons (.lit (.int 3)) (.cons (.lit (.int 20)) (.cons (.lit (.int 100)) .nil)))) .nil)))) (.cons (.asg (.name 2) (.blt .tuple (.cons (.comp false [3] (.name 3) (.rng1 (.bin .add (.lit (.int 1)) (.call 15 (.cons (.var 0) (.cons (.lit (.int 12)) .nil))))) .no (.tup (.cons (.call 15 (.cons (.var 0) (.cons (.var 1) .nil))) (.cons (.call 15 (.cons (.var 0) (.cons (.var 1) .nil))) .nil)))) .nil))) (.cons (.ret (.tup (.cons (.var 2) (.cons (.call 15 (.cons (.var 0) (.cons (.var 1) .nil))) (.cons (.call 15 (.cons (.var 0) (.cons (.lit (.int 2)) .nil))) .nil))))) .nil)))
/-- _law_least_shading: 0:told 1:rows 2:one 3:hours 4:turn 5:first 6:wider 7:now 8:past -/
def c42 : CSs := (.cons (.asg (.tup (.cons (.name 3) (.cons (.name 4) (.cons (.name 5) .nil)))) (.var 0)) (.cons (.asg (.name 1) (.lst false (.cons (.ite (.cmp .eq (.var 5) (.lit (.int 0))) (.lit (.int 0)) (.lit .non)) (.cons (.ite (.cmp .eq (.var 5) (.lit (.int 1))) (.lit (.int 0)) (.lit .non)) .nil)))) (.cons (.loop (.name 2) (.seq (.var 3)) (.cons (.asg (.name 6) (.lst true .nil)) (.cons (.loop (.name 7) (.seq (.lst false (.cons (.lit (.int 0)) (.cons (.lit (.int 1)) .nil)))) (.cons (.exp (.bmt .append (.var 6) (.cons (.blt .min1 (.cons (.comp false [8] (.name 8) (.seq (.lst false (.cons (.lit (.int 0)) (.cons (.lit (.int 1)) .nil)))) (.yes (.cmp .isnot (.ix (.var 1) (.var 8)) (.lit .non))) (.bin .add (.bin .add (.ix (.var 1) (.var 8)) (.ix (.var 2) (.var 7))) (.ite (.cmp .ne (.var 8) (.var 7)) (.var 4) (.lit (.int 0))))) .nil)) .nil))) .nil)) (.cons (.asg (.name 1) (.var 6)) .nil)))) (.cons (.ret (.blt .min1 (.cons (.var 1) .nil))) .nil))))
/-- _law_shaded: 0:told 1:value 2:row 3:hours 4:turn 5:past 6:one 7:k -/
def c43 : CSs := (.cons (.asg (.tup (.cons (.name 3) (.cons (.name 4) (.cons (.name 5) .nil)))) (.var 0)) (.cons (.ife (.or (.not (.isi (.var 1) [.tuple])) (.cmp .ne (.blt .len (.cons (.var 1) .nil)) (.blt .len (.cons (.var 3) .nil)))) (.cons (.ret (.neg (.lit (.int 1)))) .nil) .nil) (.cons (.ife (.cmp .ne (.comp false [6] (.name 6) (.seq (.var 1)) (.yes (.or (.not (.isi (.var 6) [.int])) (.or (.isi (.var 6) [.bool]) (.not (.cmp2 .le .le (.lit (.int 0)) (.var 6) (.lit (.int 1))))))) (.var 6)) (.lst false .nil)) (.cons (.ret (.neg (.lit (.int 1)))) .nil) .nil) (.cons (.asg (.name 2) (.bin .add (.tup (.cons (.var 5) .nil)) (.var 1))) (.cons (.ret (.blt .sum (.cons (.comp false [7] (.name 7) (.rng1 (.blt .len (.cons (.var 3) .nil))) .no (.bin .add (.ix (.ix (.var 3) (.var 7)) (.ix (.var 1) (.var 7))) (.ite (.cmp .ne (.ix (.var 2) (.var 7)) (.ix (.var 2) (.bin .add (.var 7) (.lit (.int 1))))) (.var 4) (.lit (.int 0))))) .nil))) .nil)))))
/-- _law_flat: 0:rows 1:found 2:row -/
def c44 : CSs := (.cons (.asg (.name 1) (.lst false .nil)) (.cons (.loop (.name 2) (.seq (.var 0)) (.cons (.asg (.name 1) (.bin .add (.var 1) (.blt .list (.cons (.var 2) .nil)))) .nil)) (.cons (.ret (.var 1)) .nil)))
/-- _law_worths_right: 0:told 1:value 2:k 3:hours 4:turn 5:first 6:past 7:one 8:number 9:now -/
def c45 : CSs := (.cons (.asg (.tup (.cons (.name 3) (.cons (.name 4) (.cons (.name 5) .nil)))) (.var 0)) (.cons (.ife (.or (.not (.isi (.var 1) [.tuple])) (.or (.cmp .ne (.blt .len (.cons (.var 1) .nil)) (.bin .add (.blt .len (.cons (.var 3) .nil)) (.lit (.int 1)))) (.cmp .ne (.comp false [7] (.name 7) (.seq (.var 1)) (.yes (.or (.not (.isi (.var 7) [.tuple])) (.cmp .ne (.blt .len (.cons (.var 7) .nil)) (.lit (.int 2))))) (.var 7)) (.lst false .nil)))) (.cons (.ret (.lit (.bl false))) .nil) .nil) (.cons (.ife (.or (.cmp .ne (.comp false [8] (.name 8) (.seq (.call 44 (.cons (.var 1) .nil))) (.yes (.or (.isi (.var 8) [.bool]) (.or (.not (.isi (.var 8) [.int])) (.not (.cmp2 .le .le (.lit (.int 0)) (.var 8) (.lit (.int 9999))))))) (.lit (.int 1))) (.lst false .nil)) (.cmp .ne (.ix (.var 1) (.blt .len (.cons (.var 3) .nil))) (.tup (.cons (.lit (.int 0)) (.cons (.lit (.int 0)) .nil))))) (.cons (.ret (.lit (.bl false))) .nil) .nil) (.cons (.loop (.name 2) (.rng1 (.blt .len (.cons (.var 3) .nil))) (.cons (.loop (.name 6) (.seq (.lst false (.cons (.lit (.int 0)) (.cons (.lit (.int 1)) .nil)))) (.cons (.ife (.cmp .ne (.comp false [9] (.name 9) (.seq (.lst false (.cons (.lit (.int 0)) (.cons (.lit (.int 1)) .nil)))) (.yes (.cmp .gt (.ix (.ix (.var 1) (.var 2)) (.var 6)) (.bin .add (.bin .add (.ix (.ix (.var 3) (.var 2)) (.var 9)) (.ite (.cmp .ne (.var 9) (.var 6)) (.var 4) (.lit (.int 0)))) (.ix (.ix (.var 1) (.bin .add (.var 2) (.lit (.int 1)))) (.var 9))))) (.var 9)) (.lst false .nil)) (.cons (.ret (.lit (.bl false))) .nil) .nil) .nil)) .nil)) (.cons (.ret (.lit (.bl true))) .nil)))))
/-- _law_screens_refused: 0:row 1:told 2:screens 3:at 4:found 5:due 6:wider 7:hours 8:turn 9:first 10:bad 11:lot 12:weak 13:more -/
def c46 : CSs := (.cons (.asg (.tup (.cons (.name 7) (.cons (.name 8) (.cons (.name 9) .nil)))) (.var 1)) (.cons (.asg (.name 3) (.call 15 (.cons (.var 0) (.cons (.bin .add (.blt .len (.cons (.var 7) .nil)) (.lit (.int 1))) .nil)))) (.cons (.asg (.tup (.cons (.name 10) (.cons (.name 11) .nil))) (.tup (.cons (.call 16 (.cons (.var 0) (.cons (.lst false (.cons (.tup (.cons (.lit (.int 100)) (.cons (.lit (.int 1)) .nil))) (.cons (.tup (.cons (.lit (.int 1)) (.cons (.neg (.lit (.int 1))) .nil))) (.cons (.lst false (.cons (.lit (.int 1)) (.cons (.lit (.int 1)) .nil))) (.cons (.tup (.cons (.lit (.int 1)) .nil)) (.cons (.lit .non) (.cons (.tup (.cons (.lit (.bl true)) (.cons (.lit (.int 1)) .nil))) .nil))))))) .nil))) (.cons (.call 16 (.cons (.var 0) (.cons (.lst false (.cons (.tup .nil) (.cons (.blt .list (.cons (.var 7) .nil)) (.cons (.bin .mul (.tup (.cons (.tup (.cons (.lit (.int 1)) (.cons (.lit (.int 1)) .nil))) .nil)) (.lit (.int 25))) (.cons (.lit .non) .nil))))) .nil))) .nil)))) (.cons (.asg (.tup (.cons (.name 12) (.cons (.name 13) .nil))) (.tup (.cons (.call 16 (.cons (.var 0) (.cons (.lst false (.cons (.neg (.lit (.int 1))) (.cons (.lit (.int 100)) (.cons (.lit .non) (.cons (.lit (.bl true)) .nil))))) .nil))) (.cons (.call 16 (.cons (.var 0) (.cons (.lst false (.cons (.lit (.int 2)) (.cons (.neg (.lit (.int 1))) (.cons (.lit .non) (.cons (.lit (.bl true)) .nil))))) .nil))) .nil)))) (.cons (.asg (.name 4) (.lst false (.cons (.told (.new 11 (.cons (.tup (.cons (.bin .add (.bin .add (.slc (.var 7) .no (.yes (.var 3))) (.tup (.cons (.var 10) .nil))) (.slc (.var 7) (.yes (.var 3)) .no)) (.cons (.var 8) (.cons (.var 9) .nil)))) .nil))) (.cons (.told (.new 11 (.cons (.tup (.cons (.var 11) (.cons (.var 8) (.cons (.var 9) .nil)))) .nil))) (.cons (.told (.new 11 (.cons (.tup (.cons (.var 7) (.cons (.var 12) (.cons (.var 9) .nil)))) .nil))) (.cons (.told (.mth 11 (.var 2) (.cons (.lit (.str "first")) (.cons (.var 13) .nil)))) (.cons (.told (.new 11 (.cons (.blt .list (.cons (.var 1) .nil)) .nil))) (.cons (.told (.mth 11 (.var 2) (.cons (.lit (.str "last")) (.cons (.lit (.int 1)) .nil)))) (.cons (.told (.mth 12 (.var 2) (.cons (.bin .add (.blt .len (.cons (.var 7) .nil)) (.lit (.int 1))) (.cons (.lit (.int 1)) (.cons (.lit (.int 1)) .nil))))) (.cons (.told (.mth 12 (.var 2) (.cons (.lit (.int 1)) (.cons (.lit (.int 1)) (.cons (.lit (.int 100)) .nil))))) .nil)))))))))) (.cons (.asg (.name 5) (.lst false (.cons (.tup (.cons (.lit (.str "BadPart")) (.cons (.lit (.str "hours")) (.cons (.var 3) .nil)))) (.cons (.tup (.cons (.lit (.str "BadPart")) (.cons (.lit (.str "hours")) (.cons (.lit .non) .nil)))) (.cons (.tup (.cons (.lit (.str "BadPart")) (.cons (.lit (.str "turn")) (.cons (.lit .non) .nil)))) (.cons (.tup (.cons (.lit (.str "BadPart")) (.cons (.lit (.str "first")) (.cons (.lit .non) .nil)))) (.cons (.tup (.cons (.lit (.str "BadPart")) (.cons (.lit (.str "screens")) (.cons (.lit .non) .nil)))) .nil))))))) (.cons (.asg (.name 5) (.bin .add (.var 5) (.lst false (.cons (.tup (.cons (.lit (.str "BadPart")) (.cons (.lit (.str "screens")) (.cons (.lit .non) .nil)))) (.cons (.tup (.cons (.lit (.str "Unknown")) (.cons (.bin .add (.blt .len (.cons (.var 7) .nil)) (.lit (.int 1))) .nil))) (.cons (.tup (.cons (.lit (.str "BadPart")) (.cons (.lit (.str "hours")) (.cons (.lit (.int 0)) .nil)))) .nil)))))) (.cons (.asg (.name 6) (.mth 12 (.var 2) (.cons (.lit (.int 1)) (.cons (.lit (.int 99)) (.cons (.lit (.int 98)) .nil))))) (.cons (.ret (.and (.call 18 (.cons (.var 4) (.cons (.var 5) .nil))) (.and (.eqm 5 (.var 6) (.new 11 (.cons (.tup (.cons (.bin .add (.tup (.cons (.tup (.cons (.lit (.int 99)) (.cons (.lit (.int 98)) .nil))) .nil)) (.slc (.var 7) (.yes (.lit (.int 1))) .no)) (.cons (.var 8) (.cons (.var 9) .nil)))) .nil))) (.and (.cmp .is (.eqm 5 (.var 6) (.var 2)) (.cmp .eq (.ix (.var 7) (.lit (.int 0))) (.tup (.cons (.lit (.int 99)) (.cons (.lit (.int 98)) .nil))))) (.and (.eqm 5 (.var 2) (.new 11 (.cons (.var 1) .nil))) (.not (.eqm 5 (.var 2) (.var 1)))))))) .nil)))))))))
/-- law: 0:script 1:row 2:told 3:k 4:odd 5:screens 6:least 7:value 8:other 9:j 10:cost 11:is_one 12:one -/
def c47 : CSs := (.cons (.asg (.name 1) (.lst true (.cons (.var 0) (.cons (.lit (.int 0)) (.cons (.lit (.int 7018)) (.cons (.lit (.int 0)) .nil)))))) (.cons (.asg (.name 2) (.call 41 (.cons (.var 1) .nil))) (.cons (.asg (.tup (.cons (.name 5) (.cons (.name 6) .nil))) (.tup (.cons (.new 11 (.cons (.var 2) .nil)) (.cons (.call 42 (.cons (.var 2) .nil)) .nil)))) (.cons (.ife (.or (.not (.call 17 (.cons (.tup (.cons (.att (.var 5) 10) (.cons (.att (.var 5) 9) (.cons (.att (.var 5) 8) (.cons (.att (.var 5) 7) (.cons (.call 37 (.cons (.var 5) .nil)) .nil)))))) (.cons (.bin .add (.bin .add (.tup (.cons (.var 2) .nil)) (.var 2)) (.tup (.cons (.var 6) .nil))) .nil)))) (.or (.cmp .isnot (.call 31 (.cons (.var 5) .nil)) (.lit (.bl true))) (.call 31 (.cons (.var 2) .nil)))) (.cons (.ret (.lit (.bl false))) .nil) .nil) (.cons (.loop (.tup (.cons (.name 7) (.cons (.name 8) .nil))) (.seq (.lst false (.cons (.tup (.cons (.call 36 (.cons (.var 5) .nil)) (.cons (.call 35 (.cons (.var 5) .nil)) .nil))) (.cons (.call 39 (.cons (.var 5) .nil)) .nil)))) (.cons (.ife (.or (.cmp .ne (.call 43 (.cons (.var 2) (.cons (.var 7) .nil))) (.var 6)) (.or (.not (.call 45 (.cons (.var 2) (.cons (.var 8) .nil)))) (.or (.cmp .ne (.ix (.ix (.var 8) (.lit (.int 0))) (.ix (.var 2) (.lit (.int 2)))) (.var 6)) (.not (.call 40 (.cons (.var 5) (.cons (.tup (.cons (.var 7) (.cons (.var 8) .nil))) .nil))))))) (.cons (.ret (.lit (.bl false))) .nil) .nil) .nil)) (.cons (.loop (.name 3) (.rng1 (.lit (.int 14))) (.cons (.asg (.tup (.cons (.name 7) (.cons (.name 8) .nil))) (.tup (.cons (.call 16 (.cons (.var 1) (.cons (.lst false (.cons (.call 36 (.cons (.var 5) .nil)) (.cons (.blt .tuple (.cons (.comp false [12] (.name 12) (.seq (.ix (.var 2) (.lit (.int 0)))) .no (.call 15 (.cons (.var 1) (.cons (.lit (.int 2)) .nil)))) .nil)) .nil))) .nil))) (.cons (.call 35 (.cons (.var 5) .nil)) .nil)))) (.cons (.ife (.cmp .eq (.call 15 (.cons (.var 1) (.cons (.lit (.int 3)) .nil))) (.lit (.int 0))) (.cons (.asg (.name 8) (.blt .tuple (.cons (.comp false [12] (.name 12) (.seq (.var 8)) .no (.tup (.cons (.blt .max2 (.cons (.lit (.int 0)) (.cons (.bin .sub (.ix (.var 12) (.lit (.int 0))) (.lit (.int 1))) .nil))) (.cons (.blt .max2 (.cons (.lit (.int 0)) (.cons (.bin .sub (.ix (.var 12) (.lit (.int 1))) (.lit (.int 1))) .nil))) .nil)))) .nil))) .nil) .nil) (.cons (.loop (.name 9) (.rng1 (.call 15 (.cons (.var 1) (.cons (.lit (.int 3)) .nil)))) (.cons (.asg (.tup (.cons (.name 7) (.cons (.name 8) .nil))) (.tup (.cons (.call 24 (.cons (.var 1) (.cons (.var 7) .nil))) (.cons (.call 24 (.cons (.var 1) (.cons (.var 8) .nil))) .nil)))) .nil)) (.cons (.asg (.tup (.cons (.name 10) (.cons (.name 11) .nil))) (.tup (.cons (.call 43 (.cons (.var 2) (.cons (.var 7) .nil))) (.cons (.call 45 (.cons (.var 2) (.cons (.var 8) .nil))) .nil)))) (.cons (.ife (.not (.call 17 (.cons (.tup (.cons (.call 32 (.cons (.var 5) (.cons (.var 7) .nil))) (.cons (.call 33 (.cons (.var 5) (.cons (.var 7) .nil))) (.cons (.call 38 (.cons (.var 5) (.cons (.var 8) .nil))) .nil)))) (.cons (.tup (.cons (.cmp .ge (.var 10) (.lit (.int 0))) (.cons (.var 10) (.cons (.var 11) .nil)))) .nil)))) (.cons (.ret (.lit (.bl false))) .nil) .nil) (.cons (.ife (.cmp .isnot (.call 40 (.cons (.var 5) (.cons (.tup (.cons (.var 7) (.cons (.var 8) .nil))) .nil))) (.and (.cmp .ge (.var 10) (.lit (.int 0))) (.and (.var 11) (.cmp .eq (.var 10) (.ix (.ix (.var 8) (.lit (.int 0))) (.ix (.var 2) (.lit (.int 2)))))))) (.cons (.ret (.lit (.bl false))) .nil) .nil) .nil))))))) (.cons (.asg (.name 4) (.call 20 (.cons (.var 1) .nil))) (.cons (.ife (.or (.call 32 (.cons (.var 5) (.cons (.var 4) .nil))) (.or (.call 38 (.cons (.var 5) (.cons (.var 4) .nil))) (.or (.call 40 (.cons (.var 5) (.cons (.var 4) .nil))) (.cmp .ne (.call 33 (.cons (.var 5) (.cons (.var 4) .nil))) (.neg (.lit (.int 1))))))) (.cons (.ret (.lit (.bl false))) .nil) .nil) (.cons (.ret (.call 46 (.cons (.var 1) (.cons (.var 2) (.cons (.var 5) .nil))))) .nil)))))))))
def fnL : List (Option FD) := [some ⟨1, 1, Sh.b0⟩, some ⟨3, 3, Sh.b1⟩, none, some ⟨2, 2, Sh.b3⟩, some ⟨4, 5, Sh.b4⟩, none, some ⟨4, 6, Sh.b6⟩, some ⟨2, 2, Sh.b7⟩, some ⟨3, 3, Sh.b8⟩, some ⟨4, 6, Sh.b9⟩, some ⟨3, 3, Sh.b10⟩, some ⟨3, 3, Sh.b11⟩, none, none, none, some ⟨2, 4, Sh.b15⟩, some ⟨2, 2, Sh.b16⟩, some ⟨2, 3, Sh.b17⟩, some ⟨2, 2, Sh.b18⟩, none, some ⟨1, 2, Sh.b20⟩, none, none, none, some ⟨2, 3, Sh.b24⟩, some ⟨2, 2, c25⟩, some ⟨2, 2, c26⟩, some ⟨2, 2, c27⟩, some ⟨3, 3, c28⟩, some ⟨4, 4, c29⟩, some ⟨2, 2, c30⟩, some ⟨1, 1, c31⟩, some ⟨2, 2, c32⟩, some ⟨2, 7, c33⟩, some ⟨4, 4, c34⟩, some ⟨1, 8, c35⟩, some ⟨1, 6, c36⟩, some ⟨1, 1, c37⟩, some ⟨2, 6, c38⟩, some ⟨1, 1, c39⟩, some ⟨2, 2, c40⟩, some ⟨1, 4, c41⟩, some ⟨1, 9, c42⟩, some ⟨2, 8, c43⟩, some ⟨1, 3, c44⟩, some ⟨2, 10, c45⟩, some ⟨3, 14, c46⟩, some ⟨1, 13, c47⟩]
def glL : List (Option D) := [some (.tupk [(.str "hours"), (.str "turn"), (.str "first")]), some (.int 24), some (.int 99), some (.int 9999)]
def P : Prog where
  fn i := (fnL[i]?).join
  glb i := (glL[i]?).join
  cls c := match c with | 11 => some (27, true) | _ => none
  mth c m := match c, m with | 11, 11 => some 28 | 11, 12 => some 29 | 11, 5 => some 30 | _, _ => none
  fld c f := match c, f with | 11, 10 => true | 11, 9 => true | 11, 8 => true | 11, 7 => true | _, _ => false
  glf i := [0, 1, 3, 4, 6, 7, 8, 9, 10, 11, 15, 16, 17, 18, 20, 24, 25, 26, 31, 32, 33, 34, 35, 36, 37, 38, 39, 40, 41, 42, 43, 44, 45, 46, 47].contains i
  xcl c := [1, 2, 3, 4, 5, 6, 7, 8, 9, 10].contains c
  xfl c := match c with | 1 => [4, 0] | 2 => [3] | 3 => [2] | 4 => [0] | 5 => [0] | 6 => [1] | 7 => [1] | _ => []
  rfd c as := match c, as with | 1, [a, b] => some (.tup [.str "BadPart", a, b]) | 2, [a] => some (.tup [.str "BadNumber", a]) | 3, [a] => some (.tup [.str "Unknown", a]) | 4, [a] => some (.tup [.str "BadCourse", a]) | 5, [a] => some (.tup [.str "BadChange", a]) | 6, [a] => some (.tup [.str "BadText", a]) | 7, [a] => some (.tup [.str "BadLine", a]) | 8, [] => some (.tup [.str "NotSure"]) | 9, [] => some (.tup [.str "BadClaim"]) | 10, [] => some (.tup [.str "NothingDone"]) | _, _ => none
instance : Fn P 0 ⟨1, 1, Sh.b0⟩ := ⟨rfl⟩
instance : Fn P 1 ⟨3, 3, Sh.b1⟩ := ⟨rfl⟩
instance : Fn P 3 ⟨2, 2, Sh.b3⟩ := ⟨rfl⟩
instance : Fn P 4 ⟨4, 5, Sh.b4⟩ := ⟨rfl⟩
instance : Fn P 6 ⟨4, 6, Sh.b6⟩ := ⟨rfl⟩
instance : Fn P 7 ⟨2, 2, Sh.b7⟩ := ⟨rfl⟩
instance : Fn P 8 ⟨3, 3, Sh.b8⟩ := ⟨rfl⟩
instance : Fn P 9 ⟨4, 6, Sh.b9⟩ := ⟨rfl⟩
instance : Fn P 10 ⟨3, 3, Sh.b10⟩ := ⟨rfl⟩
instance : Fn P 11 ⟨3, 3, Sh.b11⟩ := ⟨rfl⟩
instance : Fn P 15 ⟨2, 4, Sh.b15⟩ := ⟨rfl⟩
instance : Fn P 16 ⟨2, 2, Sh.b16⟩ := ⟨rfl⟩
instance : Fn P 17 ⟨2, 3, Sh.b17⟩ := ⟨rfl⟩
instance : Fn P 18 ⟨2, 2, Sh.b18⟩ := ⟨rfl⟩
instance : Fn P 20 ⟨1, 2, Sh.b20⟩ := ⟨rfl⟩
instance : Fn P 24 ⟨2, 3, Sh.b24⟩ := ⟨rfl⟩
instance : Fn P 25 ⟨2, 2, c25⟩ := ⟨rfl⟩
instance : Fn P 26 ⟨2, 2, c26⟩ := ⟨rfl⟩
instance : Fn P 27 ⟨2, 2, c27⟩ := ⟨rfl⟩
instance : Fn P 28 ⟨3, 3, c28⟩ := ⟨rfl⟩
instance : Fn P 29 ⟨4, 4, c29⟩ := ⟨rfl⟩
instance : Fn P 30 ⟨2, 2, c30⟩ := ⟨rfl⟩
instance : Fn P 31 ⟨1, 1, c31⟩ := ⟨rfl⟩
instance : Fn P 32 ⟨2, 2, c32⟩ := ⟨rfl⟩
instance : Fn P 33 ⟨2, 7, c33⟩ := ⟨rfl⟩
instance : Fn P 34 ⟨4, 4, c34⟩ := ⟨rfl⟩
instance : Fn P 35 ⟨1, 8, c35⟩ := ⟨rfl⟩
instance : Fn P 36 ⟨1, 6, c36⟩ := ⟨rfl⟩
instance : Fn P 37 ⟨1, 1, c37⟩ := ⟨rfl⟩
instance : Fn P 38 ⟨2, 6, c38⟩ := ⟨rfl⟩
instance : Fn P 39 ⟨1, 1, c39⟩ := ⟨rfl⟩
instance : Fn P 40 ⟨2, 2, c40⟩ := ⟨rfl⟩
instance : Fn P 41 ⟨1, 4, c41⟩ := ⟨rfl⟩
instance : Fn P 42 ⟨1, 9, c42⟩ := ⟨rfl⟩
instance : Fn P 43 ⟨2, 8, c43⟩ := ⟨rfl⟩
instance : Fn P 44 ⟨1, 3, c44⟩ := ⟨rfl⟩
instance : Fn P 45 ⟨2, 10, c45⟩ := ⟨rfl⟩
instance : Fn P 46 ⟨3, 14, c46⟩ := ⟨rfl⟩
instance : Fn P 47 ⟨1, 13, c47⟩ := ⟨rfl⟩
-- functions: 0:is_whole 1:is_within 3:is_row 4:are_numbers 6:first_wrong 7:require_part 8:wrong_number 9:require_parts 10:replaced 11:place_of 15:_law_taken 16:_law_pick 17:_law_alike 18:_law_same 20:_law_odd 22:_law_refusal 23:_law_told 24:_law_spoiled 25:is_hour 26:wrong_place 27:Screens.__init__ 28:Screens.with_part 29:Screens.with_hour 30:Screens.__eq__ 31:are_screens 32:is_shading 33:shading_cost 34:step_cost 35:worths 36:shading 37:least_shading 38:are_worths 39:screens_paper 40:is_screens_paper 41:_law_screens 42:_law_least_shading 43:_law_shaded 44:_law_flat 45:_law_worths_right 46:_law_screens_refused 47:law
-- classes: 0:ClimateError 1:BadPart 2:BadNumber 3:Unknown 4:BadCourse 5:BadChange 6:BadText 7:BadLine 8:NotSure 9:BadClaim 10:NothingDone 11:Screens
-- globals: 0:PARTS 1:MOST_HOURS 2:MOST_COST 3:MOST_VALUE
-- names: 0:place 1:line 2:name 3:value 4:part 5:__eq__ 6:__init__ 7:first 8:turn 9:hours 10:parts 11:with_part 12:with_hour
end K18

set_option linter.all false
set_option autoImplicit false
set_option maxRecDepth 100000
set_option maxHeartbeats 1000000
namespace K18
open PySem GW
variable {k : Nat} {M : Mem}
def hrD (p : Int × Int) : D := .tup [.int p.1, .int p.2]
def hoursD (hs : List (Int × Int)) : D := .tup (hs.map hrD)
def toldD (hs : List (Int × Int)) (t f : Int) : D := .tup [hoursD hs, .int t, .int f]
def scrD (hs : List (Int × Int)) (t f : Int) : D := .ins 11 [10, 9, 8, 7] [toldD hs t f, hoursD hs, .int t, .int f]
def okH (p : Int × Int) : Bool := decide (0 ≤ p.1 ∧ p.1 ≤ 99 ∧ 0 ≤ p.2 ∧ p.2 ≤ 99)
@[simp] theorem glb0 : P.glb 0 = some (.tupk [.str "hours", .str "turn", .str "first"]) := id rfl
@[simp] theorem glb1 : P.glb 1 = some (.int 24) := id rfl
@[simp] theorem glb2 : P.glb 2 = some (.int 99) := id rfl
@[simp] theorem glb3 : P.glb 3 = some (.int 9999) := id rfl
@[simp] theorem cls11 : P.cls 11 = some (27, true) := id rfl
@[simp] theorem fld7 : P.fld 11 7 = true := id rfl
@[simp] theorem fld8 : P.fld 11 8 = true := id rfl
@[simp] theorem fld9 : P.fld 11 9 = true := id rfl
@[simp] theorem fld10 : P.fld 11 10 = true := id rfl
@[simp] theorem mth5 : P.mth 11 5 = some 30 := id rfl
@[simp] theorem mth11 : P.mth 11 11 = some 28 := id rfl
@[simp] theorem mth12 : P.mth 11 12 = some 29 := id rfl
theorem fn25 : (P.fn 25).isSome = true := by decide +kernel
theorem fn26 : (P.fn 26).isSome = true := by decide +kernel
theorem is_hour_call {d a : D} (hd : flat1 d = true) : callF P (k+4) 25 [d, a] M = .ok (.bl (areNums d 2 0 99)) M := by
  rw [call_run ⟨2, 2, c25⟩]
  unfold c25
  simp -implicitDefEqProofs [ev_nil, ev_seq, exS.eq_1, exS.eq_2, exS.eq_3, exS.eq_4, exS.eq_5, ev_ife, ev_loop, ev_whil, exS.eq_9, exS.eq_10, exS.eq_11, exS.eq_12, exS.eq_13, evE.eq_1, evE.eq_2, evE.eq_3, evE.eq_4, evE.eq_5, evE.eq_6, ev_and, ev_or, evE.eq_9, evE.eq_10, ev_ite, ev_tup, ev_lst, lineF_ok, ev_comp, evE.eq_15, evE.eq_16, evE.eq_17, evE.eq_18, evE.eq_19, evE.eq_20, evE.eq_21, evE.eq_22, evE.eq_23, evE.eq_24, evE.eq_25, evE.eq_26, evE.eq_27, evE.eq_28, evE.eq_29, evE.eq_30, evE.eq_31, evE.eq_32, evE.eq_33, evE.eq_34, Ok_bind, Ok_fin, evEs, evO, evT, evTs, evI.eq_1, ev_rng1, ev_rng2, evI.eq_4, ev_zip, evC, startE, wipe, lenTs,are_numbers_call hd (show (2 : Int) ≤ 1000000 by decide)]
def JH : D → List D → Bool := fun d _ => areNums d 2 0 99
/-- what is wrong with a part -/
def wrongP (ps : List D) (i : Nat) : D := match i with
  | 0 => firstWrong (ps.getD 0 .non) 1 24 JH
  | 1 => wrongN (ps.getD 1 .non) 0 99
  | _ => wrongN (ps.getD 2 .non) 0 1
def flat2 : D → Bool | .tup xs => xs.all flat1 | d => flat d
theorem flat2_flat {d : D} (h : flat2 d = true) : flat d = true := by cases d <;> first | rfl | exact h
theorem flat2_data {n : Nat} {d : D} (h : data n d = true) : flat2 d = true := by
  cases d with
  | tup xs =>
    cases n with
    | zero => simp [data] at h
    | succ n => simp only [data] at h; simp only [flat2, List.all_eq_true]; exact fun x hx => flat1_data (dataL_iff.mp h x hx)
  | _ => exact flat_data h
theorem wrong_place_call {x y z : D} (hx : flat2 x = true) (hy : flat y = true) (hz : flat z = true) {i : Nat} (hi : i < 3) : callF P (k+6) 26 [.tup [x, y, z], .int i] M = .ok (wrongP [x, y, z] i) M := by
  rw [call_run ⟨2, 2, c26⟩]
  unfold c26
  have hj : ∀ xs (i : Nat) v, x = .tup xs → xs[i]? = some v → callF P (k+4) 25 [v, .tup (xs.take i)] M = .ok (.bl (JH v (xs.take i))) M := by
    intro xs i v e hv
    subst e
    simp only [flat2, List.all_eq_true] at hx
    exact is_hour_call (hx v (List.mem_of_getElem? hv))
  match i, hi with
  | 0, _ =>
    simp -implicitDefEqProofs [ev_nil, ev_seq, exS.eq_1, exS.eq_2, exS.eq_3, exS.eq_4, exS.eq_5, ev_ife, ev_loop, ev_whil, exS.eq_9, exS.eq_10, exS.eq_11, exS.eq_12, exS.eq_13, evE.eq_1, evE.eq_2, evE.eq_3, evE.eq_4, evE.eq_5, evE.eq_6, ev_and, ev_or, evE.eq_9, evE.eq_10, ev_ite, ev_tup, ev_lst, lineF_ok, ev_comp, evE.eq_15, evE.eq_16, evE.eq_17, evE.eq_18, evE.eq_19, evE.eq_20, evE.eq_21, evE.eq_22, evE.eq_23, evE.eq_24, evE.eq_25, evE.eq_26, evE.eq_27, evE.eq_28, evE.eq_29, evE.eq_30, evE.eq_31, evE.eq_32, evE.eq_33, evE.eq_34, Ok_bind, Ok_fin, evEs, evO, evT, evTs, evI.eq_1, ev_rng1, ev_rng2, evI.eq_4, ev_zip, evC, startE, wipe, lenTs,ixD, atI, ixN, first_wrong_call (flat2_flat hx) (show (24 : Int) ≤ 16777216 by decide) fn25 hj]
    rfl
  | 1, _ =>
    simp -implicitDefEqProofs [ev_nil, ev_seq, exS.eq_1, exS.eq_2, exS.eq_3, exS.eq_4, exS.eq_5, ev_ife, ev_loop, ev_whil, exS.eq_9, exS.eq_10, exS.eq_11, exS.eq_12, exS.eq_13, evE.eq_1, evE.eq_2, evE.eq_3, evE.eq_4, evE.eq_5, evE.eq_6, ev_and, ev_or, evE.eq_9, evE.eq_10, ev_ite, ev_tup, ev_lst, lineF_ok, ev_comp, evE.eq_15, evE.eq_16, evE.eq_17, evE.eq_18, evE.eq_19, evE.eq_20, evE.eq_21, evE.eq_22, evE.eq_23, evE.eq_24, evE.eq_25, evE.eq_26, evE.eq_27, evE.eq_28, evE.eq_29, evE.eq_30, evE.eq_31, evE.eq_32, evE.eq_33, evE.eq_34, Ok_bind, Ok_fin, evEs, evO, evT, evTs, evI.eq_1, ev_rng1, ev_rng2, evI.eq_4, ev_zip, evC, startE, wipe, lenTs,ixD, atI, ixN, wrong_number_call hy]
    rfl
  | 2, _ =>
    simp -implicitDefEqProofs [ev_nil, ev_seq, exS.eq_1, exS.eq_2, exS.eq_3, exS.eq_4, exS.eq_5, ev_ife, ev_loop, ev_whil, exS.eq_9, exS.eq_10, exS.eq_11, exS.eq_12, exS.eq_13, evE.eq_1, evE.eq_2, evE.eq_3, evE.eq_4, evE.eq_5, evE.eq_6, ev_and, ev_or, evE.eq_9, evE.eq_10, ev_ite, ev_tup, ev_lst, lineF_ok, ev_comp, evE.eq_15, evE.eq_16, evE.eq_17, evE.eq_18, evE.eq_19, evE.eq_20, evE.eq_21, evE.eq_22, evE.eq_23, evE.eq_24, evE.eq_25, evE.eq_26, evE.eq_27, evE.eq_28, evE.eq_29, evE.eq_30, evE.eq_31, evE.eq_32, evE.eq_33, evE.eq_34, Ok_bind, Ok_fin, evEs, evO, evT, evTs, evI.eq_1, ev_rng1, ev_rng2, evI.eq_4, ev_zip, evC, startE, wipe, lenTs,ixD, atI, ixN, wrong_number_call hz]
    rfl
theorem wrongP_pl (ps : List D) (i : Nat) : isPl (wrongP ps i) = true := by
  have hn : ∀ d a b, isPl (wrongN d a b) = true := fun d a b => by unfold wrongN; split <;> rfl
  have hb : ∀ xs r i, isPl (firstBad JH xs r i) = true := by
    intro xs r
    induction r with
    | nil => intro i; rfl
    | cons x r ih => intro i; unfold firstBad; split; exact ih _; rfl
  match i with
  | 0 =>
    show isPl (firstWrong (ps.getD 0 .non) 1 24 JH) = true
    unfold firstWrong
    split
    · split
      · exact hb _ _ _
      · rfl
    · rfl
  | 1 => exact hn _ _ _
  | _ + 2 => exact hn _ _ _
def wsP : List D := [.str "hours", .str "turn", .str "first"]
/-- a new object, or what is wrong -/
noncomputable def newO (d : D) (M : Mem) : Out D := match d with
  | .tup [x, y, z] => match reqW (wrongP [x, y, z]) wsP 0 with
    | none => .ok (.ins 11 [10, 9, 8, 7] [.tup [x, y, z], x, y, z]) M
    | some (w, p) => .exc 1 [w, p] (M ++ [.ins 11 [] []])
  | _ => .exc 1 [.str "screens", .non] (M ++ [.ins 11 [] []])
theorem new_call {d : D} (hd : data 20 d = true) : newD P (callF P (k+8)) 11 [d] M = newO d M := by
  unfold newD
  simp only [cls11]
  rw [call_run ⟨2, 2, c27⟩]
  unfold c27
  by_cases hr : ∃ x y z, d = .tup [x, y, z]
  · obtain ⟨x, y, z, rfl⟩ := hr
    have hD : ∀ v ∈ [x, y, z], data 19 v = true := by simp only [data] at hd; exact dataL_iff.mp hd
    have hx := hD x (by simp)
    have hy := hD y (by simp)
    have hz := hD z (by simp)
    have hreq : ∀ M, callF P (k+7) 9 [.str "screens", .tupk [.str "hours", .str "turn", .str "first"], .tup [x, y, z], .fn 26] M = reqO (reqW (wrongP [x, y, z]) wsP 0) M := fun M =>
      require_parts_call (ws := wsP) (W := wrongP [x, y, z]) (by decide) rfl fn26 fun i hi => ⟨wrong_place_call (flat2_data hx) (flat_data hy) (flat_data hz) hi, wrongP_pl _ _⟩
    have hcl : closedL M.length [.tup [x, y, z], x, y, z] = true := by
      simp only [closedL, closed, closed_data M.length 19 x hx, closed_data M.length 19 y hy, closed_data M.length 19 z hz, Bool.and_self]
    unfold newO
    simp -implicitDefEqProofs [ev_nil, ev_seq, exS.eq_1, exS.eq_2, exS.eq_3, exS.eq_4, exS.eq_5, ev_ife, ev_loop, ev_whil, exS.eq_9, exS.eq_10, exS.eq_11, exS.eq_12, exS.eq_13, evE.eq_1, evE.eq_2, evE.eq_3, evE.eq_4, evE.eq_5, evE.eq_6, ev_and, ev_or, evE.eq_9, evE.eq_10, ev_ite, ev_tup, ev_lst, lineF_ok, ev_comp, evE.eq_15, evE.eq_16, evE.eq_17, evE.eq_18, evE.eq_19, evE.eq_20, evE.eq_21, evE.eq_22, evE.eq_23, evE.eq_24, evE.eq_25, evE.eq_26, evE.eq_27, evE.eq_28, evE.eq_29, evE.eq_30, evE.eq_31, evE.eq_32, evE.eq_33, evE.eq_34, Ok_bind, Ok_fin, evEs, evO, evT, evTs, evI.eq_1, ev_rng1, ev_rng2, evI.eq_4, ev_zip, evC, startE, wipe, lenTs,hreq]
    cases hq : reqW (wrongP [x, y, z]) wsP 0 with
    | some p =>
      obtain ⟨w, p⟩ := p
      simp -implicitDefEqProofs [ev_nil, ev_seq, exS.eq_1, exS.eq_2, exS.eq_3, exS.eq_4, exS.eq_5, ev_ife, ev_loop, ev_whil, exS.eq_9, exS.eq_10, exS.eq_11, exS.eq_12, exS.eq_13, evE.eq_1, evE.eq_2, evE.eq_3, evE.eq_4, evE.eq_5, evE.eq_6, ev_and, ev_or, evE.eq_9, evE.eq_10, ev_ite, ev_tup, ev_lst, lineF_ok, ev_comp, evE.eq_15, evE.eq_16, evE.eq_17, evE.eq_18, evE.eq_19, evE.eq_20, evE.eq_21, evE.eq_22, evE.eq_23, evE.eq_24, evE.eq_25, evE.eq_26, evE.eq_27, evE.eq_28, evE.eq_29, evE.eq_30, evE.eq_31, evE.eq_32, evE.eq_33, evE.eq_34, Ok_bind, Ok_fin, evEs, evO, evT, evTs, evI.eq_1, ev_rng1, ev_rng2, evI.eq_4, ev_zip, evC, startE, wipe, lenTs,reqO, hq]
    | none =>
      simp -implicitDefEqProofs [ev_nil, ev_seq, exS.eq_1, exS.eq_2, exS.eq_3, exS.eq_4, exS.eq_5, ev_ife, ev_loop, ev_whil, exS.eq_9, exS.eq_10, exS.eq_11, exS.eq_12, exS.eq_13, evE.eq_1, evE.eq_2, evE.eq_3, evE.eq_4, evE.eq_5, evE.eq_6, ev_and, ev_or, evE.eq_9, evE.eq_10, ev_ite, ev_tup, ev_lst, lineF_ok, ev_comp, evE.eq_15, evE.eq_16, evE.eq_17, evE.eq_18, evE.eq_19, evE.eq_20, evE.eq_21, evE.eq_22, evE.eq_23, evE.eq_24, evE.eq_25, evE.eq_26, evE.eq_27, evE.eq_28, evE.eq_29, evE.eq_30, evE.eq_31, evE.eq_32, evE.eq_33, evE.eq_34, Ok_bind, Ok_fin, evEs, evO, evT, evTs, evI.eq_1, ev_rng1, ev_rng2, evI.eq_4, ev_zip, evC, startE, wipe, lenTs,reqO, hq, setAt, get_last, set_last, putF, shrink_len]
      exact shrink_app _ hcl
  · have hrow : isRow d wsP.length = false := by
      cases d with
      | tup xs =>
        show ((xs.length : Int) == ((3 : Nat) : Int)) = false
        rw [beq_eq_false_iff_ne]
        intro h
        match xs, h with
        | [a, b, c], _ => exact hr ⟨a, b, c, rfl⟩
        | [], h => simp at h
        | [a], h => simp at h
        | [a, b], h => simp at h
        | a :: b :: c :: e :: r, h => simp at h; omega
      | _ => rfl
    have hreq : ∀ M, callF P (k+7) 9 [.str "screens", .tupk [.str "hours", .str "turn", .str "first"], d, .fn 26] M = .exc 1 [.str "screens", .non] M := fun M => require_parts_bad (flat_data hd) hrow
    simp -implicitDefEqProofs [ev_nil, ev_seq, exS.eq_1, exS.eq_2, exS.eq_3, exS.eq_4, exS.eq_5, ev_ife, ev_loop, ev_whil, exS.eq_9, exS.eq_10, exS.eq_11, exS.eq_12, exS.eq_13, evE.eq_1, evE.eq_2, evE.eq_3, evE.eq_4, evE.eq_5, evE.eq_6, ev_and, ev_or, evE.eq_9, evE.eq_10, ev_ite, ev_tup, ev_lst, lineF_ok, ev_comp, evE.eq_15, evE.eq_16, evE.eq_17, evE.eq_18, evE.eq_19, evE.eq_20, evE.eq_21, evE.eq_22, evE.eq_23, evE.eq_24, evE.eq_25, evE.eq_26, evE.eq_27, evE.eq_28, evE.eq_29, evE.eq_30, evE.eq_31, evE.eq_32, evE.eq_33, evE.eq_34, Ok_bind, Ok_fin, evEs, evO, evT, evTs, evI.eq_1, ev_rng1, ev_rng2, evI.eq_4, ev_zip, evC, startE, wipe, lenTs,hreq]
    unfold newO
    split
    · rename_i x y z
      exact absurd ⟨x, y, z, rfl⟩ hr
    · rfl
/-! ### good parts -/
theorem areNums_hr {p : Int × Int} (h : okH p = true) : areNums (hrD p) 2 0 99 = true := by
  simp only [okH, decide_eq_true_eq] at h
  simp [hrD, areNums, within]
  omega
theorem firstBad_ok {hs : List (Int × Int)} (h : hs.all okH = true) (xs : List D) : ∀ i, firstBad JH xs (hs.map hrD) i = .non := by
  induction hs with
  | nil => intro i; rfl
  | cons p hs ih =>
    intro i
    simp only [List.all_cons, Bool.and_eq_true] at h
    rw [List.map_cons, firstBad]
    show (if areNums (hrD p) 2 0 99 = true then _ else _) = _
    rw [areNums_hr h.1, if_pos rfl]
    exact ih h.2 _
structure OkT (hs : List (Int × Int)) (t f : Int) : Prop where
  h : hs.all okH = true
  l0 : 1 ≤ hs.length
  l1 : hs.length ≤ 12
  t0 : 0 ≤ t
  t1 : t ≤ 99
  f0 : 0 ≤ f
  f1 : f ≤ 1
theorem hrD_data (p : Int × Int) : data 1 (hrD p) = true := by simp [hrD, data, dataL]
theorem hoursD_data (hs : List (Int × Int)) : data 2 (hoursD hs) = true := by
  simp only [hoursD, data]
  exact dataL_iff.mpr fun d hd => by obtain ⟨p, _, rfl⟩ := List.mem_map.mp hd; exact hrD_data p
theorem toldD_data (hs : List (Int × Int)) (t f : Int) : data 3 (toldD hs t f) = true := by
  simp [toldD, data, dataL, hoursD_data]
theorem firstWrong_ok {hs : List (Int × Int)} (h : hs.all okH = true) (h0 : 1 ≤ hs.length) (h1 : hs.length ≤ 24) : firstWrong (hoursD hs) 1 24 JH = .non := by
  unfold hoursD firstWrong
  dsimp only
  rw [List.length_map, if_pos (by omega)]
  exact firstBad_ok h _ _
theorem wrongN_ok {i a b : Int} (h1 : a ≤ i) (h2 : i ≤ b) : wrongN (.int i) a b = .non := by
  simp [wrongN, within, h1, h2]
theorem newO_ok {hs : List (Int × Int)} {t f : Int} (h : OkT hs t f) : newO (toldD hs t f) M = .ok (scrD hs t f) M := by
  unfold newO toldD
  dsimp only
  have e0 : wrongP [hoursD hs, .int t, .int f] 0 = .non := firstWrong_ok h.h h.l0 (by have := h.l1; omega)
  have e1 : wrongP [hoursD hs, .int t, .int f] 1 = .non := wrongN_ok h.t0 h.t1
  have e2 : wrongP [hoursD hs, .int t, .int f] 2 = .non := wrongN_ok h.f0 h.f1
  simp only [wsP, reqW, e0, e1, e2]
  rfl
theorem new_ok {hs : List (Int × Int)} {t f : Int} (h : OkT hs t f) : newD P (callF P (k+8)) 11 [toldD hs t f] M = .ok (scrD hs t f) M := by
  rw [new_call (data_mono (toldD_data hs t f) (by omega)), newO_ok h]
end K18

set_option linter.all false
set_option autoImplicit false
set_option maxRecDepth 100000
set_option maxHeartbeats 1000000
namespace K18
open PySem GW
variable {k : Nat} {M : Mem}
/-! ### the mathematics -/
def sel (h : Int × Int) (n : Int) : Int := if n = 0 then h.1 else h.2
def stepC (t : Int) (h : Int × Int) (p n : Int) : Int := sel h n + if p = n then 0 else t
def mn (i j : Int) : Int := if j < i then j else i
def best (t : Int) (h b : Int × Int) : Int × Int := (mn (stepC t h 0 0 + b.1) (stepC t h 0 1 + b.2), mn (stepC t h 1 0 + b.1) (stepC t h 1 1 + b.2))
/-- worths -/
def W (t : Int) : List (Int × Int) → List (Int × Int)
  | [] => [(0, 0)]
  | h :: r => best t h ((W t r).headD (0, 0)) :: W t r
theorem W_len (t : Int) : ∀ hs, (W t hs).length = hs.length + 1
  | [] => rfl
  | h :: r => by rw [W, List.length_cons, W_len t r, List.length_cons]
theorem W_cons (t : Int) (hs : List (Int × Int)) : ∃ r, W t hs = (W t hs).headD (0, 0) :: r := by
  cases hs with
  | nil => exact ⟨[], rfl⟩
  | cons h r => exact ⟨W t r, rfl⟩
/-- what a shading costs -/
def cost (t : Int) : Int → List (Int × Int) → List Int → Int
  | p, h :: hs, v :: vs => stepC t h p v + cost t v hs vs
  | _, _, _ => 0
/-- the greedy shading -/
def shad (t : Int) : Int → List (Int × Int) → List Int
  | _, [] => []
  | p, h :: r =>
    let v : Int := if sel ((W t (h :: r)).headD (0, 0)) p < stepC t h p 0 + ((W t r).headD (0, 0)).1 then 1 else 0
    v :: shad t v r
theorem shad_len (t : Int) : ∀ hs p, (shad t p hs).length = hs.length
  | [], p => rfl
  | h :: r, p => by simp only [shad, List.length_cons, shad_len t r]
theorem shad_01 (t : Int) : ∀ hs p, ∀ v ∈ shad t p hs, v = 0 ∨ v = 1
  | [], p, v, hv => by cases hv
  | h :: r, p, v, hv => by
    simp only [shad, List.mem_cons] at hv
    rcases hv with rfl | hv
    · split
      · exact .inr rfl
      · exact .inl rfl
    · exact shad_01 t r _ v hv
theorem shad_cost (t : Int) : ∀ hs p, p = 0 ∨ p = 1 → cost t p hs (shad t p hs) = sel ((W t hs).headD (0, 0)) p
  | [], p, _ => by simp [cost, shad, W, sel]
  | h :: r, p, hp => by
    simp only [shad, cost]
    have i0 := shad_cost t r 0 (.inl rfl)
    have i1 := shad_cost t r 1 (.inr rfl)
    by_cases hc : sel ((W t (h :: r)).headD (0, 0)) p < stepC t h p 0 + ((W t r).headD (0, 0)).1
    · rw [if_pos hc, i1]
      revert hc
      rcases hp with rfl | rfl <;> simp only [W, List.headD_cons, best, sel, mn, stepC] <;> simp <;> intro hc <;> split at hc <;> first | omega | (split <;> omega)
    · rw [if_neg hc, i0]
      revert hc
      rcases hp with rfl | rfl <;> simp only [W, List.headD_cons, best, sel, mn, stepC] <;> simp <;> intro hc <;> split at hc <;> first | omega | (split <;> omega)
/-- from the first hour on -/
def fwd (t : Int) : Int → Int → List (Int × Int) → Int
  | a, b, [] => mn a b
  | a, b, h :: r => fwd t (mn (a + sel h 0 + 0) (b + sel h 0 + t)) (mn (a + sel h 1 + t) (b + sel h 1 + 0)) r
theorem fwd_W (t : Int) : ∀ hs a b, fwd t a b hs = mn (a + ((W t hs).headD (0, 0)).1) (b + ((W t hs).headD (0, 0)).2)
  | [], a, b => by simp [fwd, W]
  | h :: r, a, b => by
    rw [fwd, fwd_W t r]
    simp only [W, List.headD_cons, best, mn, stepC, sel]
    simp
    repeat' split
    all_goals omega
/-- what the law asks -/
def least (t f : Int) : List (Int × Int) → Int
  | [] => 0
  | h :: r => if f = 0 then fwd t (0 + sel h 0 + 0) (0 + sel h 1 + t) r else fwd t (0 + sel h 0 + t) (0 + sel h 1 + 0) r
theorem least_W (t f : Int) (hf : f = 0 ∨ f = 1) (hs : List (Int × Int)) (h0 : 1 ≤ hs.length) : least t f hs = sel ((W t hs).headD (0, 0)) f := by
  cases hs with
  | nil => simp at h0
  | cons h r =>
    rcases hf with rfl | rfl
    · simp only [least, fwd_W, W, List.headD_cons, best, mn, stepC, sel]
      simp
    · simp only [least, fwd_W, W, List.headD_cons, best, mn, stepC, sel]
      simp
end K18

set_option linter.all false
set_option autoImplicit false
set_option maxRecDepth 100000
set_option maxHeartbeats 1000000
namespace K18
open PySem GW
variable {k : Nat} {M : Mem} {hs : List (Int × Int)} {t f : Int}
theorem ix_hr (h : Int × Int) {n : Int} (hn : n = 0 ∨ n = 1) : ixD (hrD h) (.int n) = some (.int (sel h n)) := by
  rcases hn with rfl | rfl
  · exact ix0 _ _
  · exact ix1 _ _ _
theorem ix_hours {i : Nat} (h : i < hs.length) : ixD (hoursD hs) (.int i) = some (hrD hs[i]) := by
  unfold hoursD
  rw [ix_tup (by rw [List.length_map]; exact h), List.getElem_map]
@[simp] theorem rd_hr (M : Mem) (h : Int × Int) : rd M (hrD h) = hrD h := rfl
@[simp] theorem rd_hours (M : Mem) : rd M (hoursD hs) = hoursD hs := rfl
@[simp] theorem rd_told (M : Mem) : rd M (toldD hs t f) = toldD hs t f := rfl
@[simp] theorem rd_scr (M : Mem) : rd M (scrD hs t f) = .ins 11 [10, 9, 8, 7] [toldD hs t f, hoursD hs, .int t, .int f] := rfl
theorem len_hours : bltD .len [hoursD hs] = some (.int hs.length) := by
  unfold hoursD
  rw [len_tup, List.length_map]
theorem items_hours : itemsD (hoursD hs) = some (hs.map hrD) := rfl
theorem step_call {i : Nat} {p n : Int} (hi : i < hs.length) (hn : n = 0 ∨ n = 1) : callF P (k+1) 34 [scrD hs t f, .int i, .int p, .int n] M = .ok (.int (stepC t hs[i] p n)) M := by
  rw [call_run ⟨4, 4, c34⟩]
  unfold c34
  simp -implicitDefEqProofs [ev_nil, ev_seq, exS.eq_1, exS.eq_2, exS.eq_3, exS.eq_4, exS.eq_5, ev_ife, ev_loop, ev_whil, exS.eq_9, exS.eq_10, exS.eq_11, exS.eq_12, exS.eq_13, evE.eq_1, evE.eq_2, evE.eq_3, evE.eq_4, evE.eq_5, evE.eq_6, ev_and, ev_or, evE.eq_9, evE.eq_10, ev_ite, ev_tup, ev_lst, lineF_ok, ev_comp, evE.eq_15, evE.eq_16, evE.eq_17, evE.eq_18, evE.eq_19, evE.eq_20, evE.eq_21, evE.eq_22, evE.eq_23, evE.eq_24, evE.eq_25, evE.eq_26, evE.eq_27, evE.eq_28, evE.eq_29, evE.eq_30, evE.eq_31, evE.eq_32, evE.eq_33, evE.eq_34, Ok_bind, Ok_fin, evEs, evO, evT, evTs, evI.eq_1, ev_rng1, ev_rng2, evI.eq_4, ev_zip, evC, startE, wipe, lenTs,getF, ix_hours hi, ix_hr _ hn]
  by_cases h : p = n
  · subst h
    simp -implicitDefEqProofs [ev_nil, ev_seq, exS.eq_1, exS.eq_2, exS.eq_3, exS.eq_4, exS.eq_5, ev_ife, ev_loop, ev_whil, exS.eq_9, exS.eq_10, exS.eq_11, exS.eq_12, exS.eq_13, evE.eq_1, evE.eq_2, evE.eq_3, evE.eq_4, evE.eq_5, evE.eq_6, ev_and, ev_or, evE.eq_9, evE.eq_10, ev_ite, ev_tup, ev_lst, lineF_ok, ev_comp, evE.eq_15, evE.eq_16, evE.eq_17, evE.eq_18, evE.eq_19, evE.eq_20, evE.eq_21, evE.eq_22, evE.eq_23, evE.eq_24, evE.eq_25, evE.eq_26, evE.eq_27, evE.eq_28, evE.eq_29, evE.eq_30, evE.eq_31, evE.eq_32, evE.eq_33, evE.eq_34, Ok_bind, Ok_fin, evEs, evO, evT, evTs, evI.eq_1, ev_rng1, ev_rng2, evI.eq_4, ev_zip, evC, startE, wipe, lenTs,getF, stepC]
  · have hb : (p == n) = false := by rw [beq_eq_false_iff_ne]; exact h
    simp -implicitDefEqProofs [ev_nil, ev_seq, exS.eq_1, exS.eq_2, exS.eq_3, exS.eq_4, exS.eq_5, ev_ife, ev_loop, ev_whil, exS.eq_9, exS.eq_10, exS.eq_11, exS.eq_12, exS.eq_13, evE.eq_1, evE.eq_2, evE.eq_3, evE.eq_4, evE.eq_5, evE.eq_6, ev_and, ev_or, evE.eq_9, evE.eq_10, ev_ite, ev_tup, ev_lst, lineF_ok, ev_comp, evE.eq_15, evE.eq_16, evE.eq_17, evE.eq_18, evE.eq_19, evE.eq_20, evE.eq_21, evE.eq_22, evE.eq_23, evE.eq_24, evE.eq_25, evE.eq_26, evE.eq_27, evE.eq_28, evE.eq_29, evE.eq_30, evE.eq_31, evE.eq_32, evE.eq_33, evE.eq_34, Ok_bind, Ok_fin, evEs, evO, evT, evTs, evI.eq_1, ev_rng1, ev_rng2, evI.eq_4, ev_zip, evC, startE, wipe, lenTs,getF, stepC, hb, h]
theorem is_shading_call (h : OkT hs t f) {v : D} (hv : flat1 v = true) : callF P (k+4) 32 [scrD hs t f, v] M = .ok (.bl (areNums v hs.length 0 1)) M := by
  rw [call_run ⟨2, 2, c32⟩]
  unfold c32
  have hl := h.l1
  simp -implicitDefEqProofs [ev_nil, ev_seq, exS.eq_1, exS.eq_2, exS.eq_3, exS.eq_4, exS.eq_5, ev_ife, ev_loop, ev_whil, exS.eq_9, exS.eq_10, exS.eq_11, exS.eq_12, exS.eq_13, evE.eq_1, evE.eq_2, evE.eq_3, evE.eq_4, evE.eq_5, evE.eq_6, ev_and, ev_or, evE.eq_9, evE.eq_10, ev_ite, ev_tup, ev_lst, lineF_ok, ev_comp, evE.eq_15, evE.eq_16, evE.eq_17, evE.eq_18, evE.eq_19, evE.eq_20, evE.eq_21, evE.eq_22, evE.eq_23, evE.eq_24, evE.eq_25, evE.eq_26, evE.eq_27, evE.eq_28, evE.eq_29, evE.eq_30, evE.eq_31, evE.eq_32, evE.eq_33, evE.eq_34, Ok_bind, Ok_fin, evEs, evO, evT, evTs, evI.eq_1, ev_rng1, ev_rng2, evI.eq_4, ev_zip, evC, startE, wipe, lenTs,getF, len_hours, are_numbers_call hv (show (hs.length : Int) ≤ 1000000 by omega)]
/-- the worths as data -/
def wD (t : Int) (hs : List (Int × Int)) : D := .tup ((W t hs).map hrD)
theorem worths_call (h : OkT hs t f) : callF P (k+2) 35 [scrD hs t f] M = .ok (wD t hs) M := by
  rw [call_run ⟨1, 8, c35⟩]
  unfold c35
  have hl := h.l1
  have hr := rngF_nat (n := hs.length) (by omega) M
  refine Ok_eq ?_
  simp -implicitDefEqProofs [ev_nil, ev_seq, exS.eq_1, exS.eq_2, exS.eq_3, exS.eq_4, exS.eq_5, ev_ife, ev_loop, ev_whil, exS.eq_9, exS.eq_10, exS.eq_11, exS.eq_12, exS.eq_13, evE.eq_1, evE.eq_2, evE.eq_3, evE.eq_4, evE.eq_5, evE.eq_6, ev_and, ev_or, evE.eq_9, evE.eq_10, ev_ite, ev_tup, ev_lst, lineF_ok, ev_comp, evE.eq_15, evE.eq_16, evE.eq_17, evE.eq_18, evE.eq_19, evE.eq_20, evE.eq_21, evE.eq_22, evE.eq_23, evE.eq_24, evE.eq_25, evE.eq_26, evE.eq_27, evE.eq_28, evE.eq_29, evE.eq_30, evE.eq_31, evE.eq_32, evE.eq_33, evE.eq_34, Ok_bind, Ok_fin, evEs, evO, evT, evTs, evI.eq_1, ev_rng1, ev_rng2, evI.eq_4, ev_zip, evC, startE, wipe, lenTs,getF, len_hours, hr]
  refine forL_ok (fun n ρ M' => (∃ X, M' = M ++ X) ∧ ∃ q2 q3 q4 q5 q6 q7 : Option D, ρ = [some (scrD hs t f), some (.lst ((W t (hs.drop (hs.length - n))).map hrD)), q2, q3, q4, q5, q6, q7]) _ 0 _ _ ?_ ?_ ?_
  · refine ⟨⟨[], by simp⟩, none, none, none, none, none, none, ?_⟩
    rw [Nat.sub_zero, List.drop_length]
    rfl
  · rintro i d ρ Z hd ⟨⟨X, hX⟩, q2, q3, q4, q5, q6, q7, rfl⟩
    obtain ⟨rfl, hi⟩ := rngD_get_e _ _ _ _ hd
    have e1 : ((hs.length : Int) - 1 - (i : Int)) = ((hs.length - 1 - i : Nat) : Int) := by omega
    have hj : hs.length - 1 - i < hs.length := by omega
    have e2 : hs.drop (hs.length - (0 + i + 1)) = hs[hs.length - 1 - i] :: hs.drop (hs.length - (0 + i)) := by
      rw [show hs.length - (0 + i) = hs.length - 1 - i + 1 by omega, show hs.length - (0 + i + 1) = hs.length - 1 - i by omega]
      exact List.drop_eq_getElem_cons hj
    rw [e2]
    have hl2 : ((W t (hs.drop (hs.length - (0 + i)))).map hrD).length ≤ 20 := by rw [List.length_map, W_len, List.length_drop]; omega
    generalize hs.drop (hs.length - (0 + i)) = r at hl2
    obtain ⟨r2, e3⟩ := W_cons t r
    generalize hb : (W t r).headD (0, 0) = b at e3
    rw [W, hb, e3]
    rw [e3] at hl2
    unfold bodyF
    simp -implicitDefEqProofs [ev_nil, ev_seq, exS.eq_1, exS.eq_2, exS.eq_3, exS.eq_4, exS.eq_5, ev_ife, ev_loop, ev_whil, exS.eq_9, exS.eq_10, exS.eq_11, exS.eq_12, exS.eq_13, evE.eq_1, evE.eq_2, evE.eq_3, evE.eq_4, evE.eq_5, evE.eq_6, ev_and, ev_or, evE.eq_9, evE.eq_10, ev_ite, ev_tup, ev_lst, lineF_ok, ev_comp, evE.eq_15, evE.eq_16, evE.eq_17, evE.eq_18, evE.eq_19, evE.eq_20, evE.eq_21, evE.eq_22, evE.eq_23, evE.eq_24, evE.eq_25, evE.eq_26, evE.eq_27, evE.eq_28, evE.eq_29, evE.eq_30, evE.eq_31, evE.eq_32, evE.eq_33, evE.eq_34, Ok_bind, Ok_fin, evEs, evO, evT, evTs, evI.eq_1, ev_rng1, ev_rng2, evI.eq_4, ev_zip, evC, startE, wipe, lenTs,getF, len_hours, e1, ix0l, forL, bodyF, compL, itemF_of, step_call (t := t) (f := f) hj (Or.inl rfl), step_call (t := t) (f := f) hj (Or.inr rfl), ix_hr, min_two, recv_last, app_last, rd_last]
    have hc := fun x : D => cat_lst (xs := [x]) (ys := (b :: r2).map hrD) (by simp only [List.length_singleton]; omega)
    rw [List.map_cons] at hc
    simp -implicitDefEqProofs [ev_nil, ev_seq, exS.eq_1, exS.eq_2, exS.eq_3, exS.eq_4, exS.eq_5, ev_ife, ev_loop, ev_whil, exS.eq_9, exS.eq_10, exS.eq_11, exS.eq_12, exS.eq_13, evE.eq_1, evE.eq_2, evE.eq_3, evE.eq_4, evE.eq_5, evE.eq_6, ev_and, ev_or, evE.eq_9, evE.eq_10, ev_ite, ev_tup, ev_lst, lineF_ok, ev_comp, evE.eq_15, evE.eq_16, evE.eq_17, evE.eq_18, evE.eq_19, evE.eq_20, evE.eq_21, evE.eq_22, evE.eq_23, evE.eq_24, evE.eq_25, evE.eq_26, evE.eq_27, evE.eq_28, evE.eq_29, evE.eq_30, evE.eq_31, evE.eq_32, evE.eq_33, evE.eq_34, Ok_bind, Ok_fin, evEs, evO, evT, evTs, evI.eq_1, ev_rng1, ev_rng2, evI.eq_4, ev_zip, evC, startE, wipe, lenTs,hc]
    refine ⟨⟨X ++ _, by rw [hX, List.append_assoc]⟩, ?_⟩
    simp [hrD, best, mn, sel]
  · rintro ρ Z ⟨⟨X, hX⟩, q2, q3, q4, q5, q6, q7, rfl⟩
    rw [rngD_length]
    have e : hs.length - (0 + hs.length) = 0 := by omega
    rw [e, List.drop_zero]
    simp -implicitDefEqProofs [ev_nil, ev_seq, exS.eq_1, exS.eq_2, exS.eq_3, exS.eq_4, exS.eq_5, ev_ife, ev_loop, ev_whil, exS.eq_9, exS.eq_10, exS.eq_11, exS.eq_12, exS.eq_13, evE.eq_1, evE.eq_2, evE.eq_3, evE.eq_4, evE.eq_5, evE.eq_6, ev_and, ev_or, evE.eq_9, evE.eq_10, ev_ite, ev_tup, ev_lst, lineF_ok, ev_comp, evE.eq_15, evE.eq_16, evE.eq_17, evE.eq_18, evE.eq_19, evE.eq_20, evE.eq_21, evE.eq_22, evE.eq_23, evE.eq_24, evE.eq_25, evE.eq_26, evE.eq_27, evE.eq_28, evE.eq_29, evE.eq_30, evE.eq_31, evE.eq_32, evE.eq_33, evE.eq_34, Ok_bind, Ok_fin, evEs, evO, evT, evTs, evI.eq_1, ev_rng1, ev_rng2, evI.eq_4, ev_zip, evC, startE, wipe, lenTs]
    rw [hX]
    have hcl : closedL M.length [D.tup ((W t hs).map hrD)] = true := by
      have : data 2 (D.tup ((W t hs).map hrD)) = true := hoursD_data (W t hs)
      simp only [closedL, closed_data M.length 2 _ this, Bool.and_self]
    exact ⟨rfl, shrink_app X hcl⟩
theorem wD_W (t : Int) (hs : List (Int × Int)) : wD t hs = hoursD (W t hs) := rfl
theorem W_0 (t : Int) (hs : List (Int × Int)) : ixD (wD t hs) (.int 0) = some (hrD ((W t hs).headD (0, 0))) := by
  obtain ⟨r, e⟩ := W_cons t hs
  generalize (W t hs).headD (0, 0) = b at e
  unfold wD
  rw [e]
  exact ix0 _ _
@[simp] theorem rd_wD (M : Mem) : rd M (wD t hs) = wD t hs := rfl
theorem least_call (h : OkT hs t f) : callF P (k+3) 37 [scrD hs t f] M = .ok (.int (sel ((W t hs).headD (0, 0)) f)) M := by
  rw [call_run ⟨1, 1, c37⟩]
  unfold c37
  have hf : f = 0 ∨ f = 1 := by have := h.f0; have := h.f1; omega
  simp -implicitDefEqProofs [ev_nil, ev_seq, exS.eq_1, exS.eq_2, exS.eq_3, exS.eq_4, exS.eq_5, ev_ife, ev_loop, ev_whil, exS.eq_9, exS.eq_10, exS.eq_11, exS.eq_12, exS.eq_13, evE.eq_1, evE.eq_2, evE.eq_3, evE.eq_4, evE.eq_5, evE.eq_6, ev_and, ev_or, evE.eq_9, evE.eq_10, ev_ite, ev_tup, ev_lst, lineF_ok, ev_comp, evE.eq_15, evE.eq_16, evE.eq_17, evE.eq_18, evE.eq_19, evE.eq_20, evE.eq_21, evE.eq_22, evE.eq_23, evE.eq_24, evE.eq_25, evE.eq_26, evE.eq_27, evE.eq_28, evE.eq_29, evE.eq_30, evE.eq_31, evE.eq_32, evE.eq_33, evE.eq_34, Ok_bind, Ok_fin, evEs, evO, evT, evTs, evI.eq_1, ev_rng1, ev_rng2, evI.eq_4, ev_zip, evC, startE, wipe, lenTs,getF, worths_call h, W_0, ix_hr _ hf]
theorem are_screens_scr : callF P (k+1) 31 [scrD hs t f] M = .ok (.bl true) M := by
  rw [call_run ⟨1, 1, c31⟩]
  unfold c31
  simp -implicitDefEqProofs [ev_nil, ev_seq, exS.eq_1, exS.eq_2, exS.eq_3, exS.eq_4, exS.eq_5, ev_ife, ev_loop, ev_whil, exS.eq_9, exS.eq_10, exS.eq_11, exS.eq_12, exS.eq_13, evE.eq_1, evE.eq_2, evE.eq_3, evE.eq_4, evE.eq_5, evE.eq_6, ev_and, ev_or, evE.eq_9, evE.eq_10, ev_ite, ev_tup, ev_lst, lineF_ok, ev_comp, evE.eq_15, evE.eq_16, evE.eq_17, evE.eq_18, evE.eq_19, evE.eq_20, evE.eq_21, evE.eq_22, evE.eq_23, evE.eq_24, evE.eq_25, evE.eq_26, evE.eq_27, evE.eq_28, evE.eq_29, evE.eq_30, evE.eq_31, evE.eq_32, evE.eq_33, evE.eq_34, Ok_bind, Ok_fin, evEs, evO, evT, evTs, evI.eq_1, ev_rng1, ev_rng2, evI.eq_4, ev_zip, evC, startE, wipe, lenTs,isAny, isTy, okTy]
theorem are_screens_not {d : D} (hd : flat d = true) : callF P (k+1) 31 [d] M = .ok (.bl false) M := by
  rw [call_run ⟨1, 1, c31⟩]
  unfold c31
  cases d <;> first | (cases hd; done) | simp -implicitDefEqProofs [ev_nil, ev_seq, exS.eq_1, exS.eq_2, exS.eq_3, exS.eq_4, exS.eq_5, ev_ife, ev_loop, ev_whil, exS.eq_9, exS.eq_10, exS.eq_11, exS.eq_12, exS.eq_13, evE.eq_1, evE.eq_2, evE.eq_3, evE.eq_4, evE.eq_5, evE.eq_6, ev_and, ev_or, evE.eq_9, evE.eq_10, ev_ite, ev_tup, ev_lst, lineF_ok, ev_comp, evE.eq_15, evE.eq_16, evE.eq_17, evE.eq_18, evE.eq_19, evE.eq_20, evE.eq_21, evE.eq_22, evE.eq_23, evE.eq_24, evE.eq_25, evE.eq_26, evE.eq_27, evE.eq_28, evE.eq_29, evE.eq_30, evE.eq_31, evE.eq_32, evE.eq_33, evE.eq_34, Ok_bind, Ok_fin, evEs, evO, evT, evTs, evI.eq_1, ev_rng1, ev_rng2, evI.eq_4, ev_zip, evC, startE, wipe, lenTs,isAny, isTy, okTy]
end K18

set_option linter.all false
set_option autoImplicit false
set_option maxRecDepth 100000
set_option maxHeartbeats 1000000
namespace K18
open PySem GW
variable {k : Nat} {M : Mem} {hs : List (Int × Int)} {t f : Int}
theorem OkT.f01 (h : OkT hs t f) : f = 0 ∨ f = 1 := by have := h.f0; have := h.f1; omega
theorem W_drop (t : Int) : ∀ (hs : List (Int × Int)) (i : Nat), i ≤ hs.length → W t (hs.drop i) = (W t hs).drop i
  | hs, 0, _ => by rw [List.drop_zero, List.drop_zero]
  | [], i + 1, h => by simp at h
  | h :: r, i + 1, hi => by rw [List.drop_succ_cons, W, List.drop_succ_cons, W_drop t r i (by simpa using hi)]
theorem W_at (t : Int) (hs : List (Int × Int)) {i : Nat} (h : i ≤ hs.length) : ixD (wD t hs) (.int i) = some (hrD ((W t (hs.drop i)).headD (0, 0))) := by
  have hl : i < (W t hs).length := by rw [W_len]; omega
  rw [W_drop t hs i h, wD_W, ix_hours hl]
  congr 1
  rw [List.drop_eq_getElem_cons hl]
  rfl
theorem ixM {xs : List D} {Z : Mem} (v : D) : True := trivial
/-- a shading as data -/
def vD (vs : List Int) : D := .tup (vs.map .int)
theorem vD_data (vs : List Int) : data 1 (vD vs) = true := by
  simp only [vD, data]
  exact dataL_iff.mpr fun d hd => by obtain ⟨p, _, rfl⟩ := List.mem_map.mp hd; rfl
theorem shading_call (h : OkT hs t f) : callF P (k+3) 36 [scrD hs t f] M = .ok (vD (shad t f hs)) M := by
  rw [call_run ⟨1, 6, c36⟩]
  unfold c36
  have hl := h.l1
  have hr := fun M => rngF_nat (n := hs.length) (by omega) M
  refine Ok_eq ?_
  simp -implicitDefEqProofs [ev_nil, ev_seq, exS.eq_1, exS.eq_2, exS.eq_3, exS.eq_4, exS.eq_5, ev_ife, ev_loop, ev_whil, exS.eq_9, exS.eq_10, exS.eq_11, exS.eq_12, exS.eq_13, evE.eq_1, evE.eq_2, evE.eq_3, evE.eq_4, evE.eq_5, evE.eq_6, ev_and, ev_or, evE.eq_9, evE.eq_10, ev_ite, ev_tup, ev_lst, lineF_ok, ev_comp, evE.eq_15, evE.eq_16, evE.eq_17, evE.eq_18, evE.eq_19, evE.eq_20, evE.eq_21, evE.eq_22, evE.eq_23, evE.eq_24, evE.eq_25, evE.eq_26, evE.eq_27, evE.eq_28, evE.eq_29, evE.eq_30, evE.eq_31, evE.eq_32, evE.eq_33, evE.eq_34, Ok_bind, Ok_fin, evEs, evO, evT, evTs, evI.eq_1, ev_rng1, ev_rng2, evI.eq_4, ev_zip, evC, startE, wipe, lenTs,getF, len_hours, hr, worths_call h]
  refine forL_ok (fun n ρ M' => ∃ (vs : List Int) (p : Int), (p = 0 ∨ p = 1) ∧ vs.length = n ∧ vs ++ shad t p (hs.drop n) = shad t f hs ∧ M' = M ++ [.lst (vs.map .int)] ∧ ∃ q1 q5 : Option D, ρ = [some (scrD hs t f), q1, some (wD t hs), some (.ref M.length), some (.int p), q5]) _ 0 _ _ ?_ ?_ ?_
  · exact ⟨[], f, h.f01, rfl, rfl, rfl, none, none, rfl⟩
  · rintro i d ρ Z hd ⟨vs, p, hp, hvl, hvs, rfl, q1, q5, rfl⟩
    obtain ⟨rfl, hi⟩ := rngD_get_e _ _ _ _ hd
    have e0 : 0 + i = i := by omega
    rw [e0] at hvl hvs ⊢
    have e1 : ((i : Int) + 1) = ((i + 1 : Nat) : Int) := by omega
    have a1 := W_at t hs (i := i) (by omega)
    have a2 := W_at t hs (i := i + 1) (by omega)
    rw [← e1] at a2
    have e2 : hs.drop i = hs[i] :: hs.drop (i + 1) := List.drop_eq_getElem_cons hi
    have hll : vs.length ≤ 1000000 := by omega
    rw [e2] at hvs a1
    unfold bodyF
    simp only [shad] at hvs
    generalize hb1 : (W t (hs[i] :: hs.drop (i + 1))).headD (0, 0) = b1 at a1 hvs
    generalize hb2 : (W t (hs.drop (i + 1))).headD (0, 0) = b2 at a2 hvs
    have s0 : sel b2 0 = b2.1 := by simp [sel]
    simp -implicitDefEqProofs [ev_nil, ev_seq, exS.eq_1, exS.eq_2, exS.eq_3, exS.eq_4, exS.eq_5, ev_ife, ev_loop, ev_whil, exS.eq_9, exS.eq_10, exS.eq_11, exS.eq_12, exS.eq_13, evE.eq_1, evE.eq_2, evE.eq_3, evE.eq_4, evE.eq_5, evE.eq_6, ev_and, ev_or, evE.eq_9, evE.eq_10, ev_ite, ev_tup, ev_lst, lineF_ok, ev_comp, evE.eq_15, evE.eq_16, evE.eq_17, evE.eq_18, evE.eq_19, evE.eq_20, evE.eq_21, evE.eq_22, evE.eq_23, evE.eq_24, evE.eq_25, evE.eq_26, evE.eq_27, evE.eq_28, evE.eq_29, evE.eq_30, evE.eq_31, evE.eq_32, evE.eq_33, evE.eq_34, Ok_bind, Ok_fin, evEs, evO, evT, evTs, evI.eq_1, ev_rng1, ev_rng2, evI.eq_4, ev_zip, evC, startE, wipe, lenTs,step_call (t := t) (f := f) hi (Or.inl rfl), a1, a2, ix_hr _ hp, ix_hr, s0]
    by_cases hc : sel b1 p < stepC t hs[i] p 0 + b2.1
    · rw [if_pos hc] at hvs
      simp -implicitDefEqProofs [ev_nil, ev_seq, exS.eq_1, exS.eq_2, exS.eq_3, exS.eq_4, exS.eq_5, ev_ife, ev_loop, ev_whil, exS.eq_9, exS.eq_10, exS.eq_11, exS.eq_12, exS.eq_13, evE.eq_1, evE.eq_2, evE.eq_3, evE.eq_4, evE.eq_5, evE.eq_6, ev_and, ev_or, evE.eq_9, evE.eq_10, ev_ite, ev_tup, ev_lst, lineF_ok, ev_comp, evE.eq_15, evE.eq_16, evE.eq_17, evE.eq_18, evE.eq_19, evE.eq_20, evE.eq_21, evE.eq_22, evE.eq_23, evE.eq_24, evE.eq_25, evE.eq_26, evE.eq_27, evE.eq_28, evE.eq_29, evE.eq_30, evE.eq_31, evE.eq_32, evE.eq_33, evE.eq_34, Ok_bind, Ok_fin, evEs, evO, evT, evTs, evI.eq_1, ev_rng1, ev_rng2, evI.eq_4, ev_zip, evC, startE, wipe, lenTs,hc, recv_last, app_last, hll]
      exact ⟨vs ++ [1], by simp [hvl], by rw [List.append_assoc]; exact hvs, by simp⟩
    · rw [if_neg hc] at hvs
      simp -implicitDefEqProofs [ev_nil, ev_seq, exS.eq_1, exS.eq_2, exS.eq_3, exS.eq_4, exS.eq_5, ev_ife, ev_loop, ev_whil, exS.eq_9, exS.eq_10, exS.eq_11, exS.eq_12, exS.eq_13, evE.eq_1, evE.eq_2, evE.eq_3, evE.eq_4, evE.eq_5, evE.eq_6, ev_and, ev_or, evE.eq_9, evE.eq_10, ev_ite, ev_tup, ev_lst, lineF_ok, ev_comp, evE.eq_15, evE.eq_16, evE.eq_17, evE.eq_18, evE.eq_19, evE.eq_20, evE.eq_21, evE.eq_22, evE.eq_23, evE.eq_24, evE.eq_25, evE.eq_26, evE.eq_27, evE.eq_28, evE.eq_29, evE.eq_30, evE.eq_31, evE.eq_32, evE.eq_33, evE.eq_34, Ok_bind, Ok_fin, evEs, evO, evT, evTs, evI.eq_1, ev_rng1, ev_rng2, evI.eq_4, ev_zip, evC, startE, wipe, lenTs,hc, recv_last, app_last, hll]
      exact ⟨vs ++ [0], by simp [hvl], by rw [List.append_assoc]; exact hvs, by simp⟩
  · rintro ρ Z ⟨vs, p, hp, hvl, hvs, rfl, q1, q5, rfl⟩
    rw [rngD_length, Nat.zero_add] at hvl hvs
    rw [List.drop_length] at hvs
    simp only [shad, List.append_nil] at hvs
    simp -implicitDefEqProofs [ev_nil, ev_seq, exS.eq_1, exS.eq_2, exS.eq_3, exS.eq_4, exS.eq_5, ev_ife, ev_loop, ev_whil, exS.eq_9, exS.eq_10, exS.eq_11, exS.eq_12, exS.eq_13, evE.eq_1, evE.eq_2, evE.eq_3, evE.eq_4, evE.eq_5, evE.eq_6, ev_and, ev_or, evE.eq_9, evE.eq_10, ev_ite, ev_tup, ev_lst, lineF_ok, ev_comp, evE.eq_15, evE.eq_16, evE.eq_17, evE.eq_18, evE.eq_19, evE.eq_20, evE.eq_21, evE.eq_22, evE.eq_23, evE.eq_24, evE.eq_25, evE.eq_26, evE.eq_27, evE.eq_28, evE.eq_29, evE.eq_30, evE.eq_31, evE.eq_32, evE.eq_33, evE.eq_34, Ok_bind, Ok_fin, evEs, evO, evT, evTs, evI.eq_1, ev_rng1, ev_rng2, evI.eq_4, ev_zip, evC, startE, wipe, lenTs,rd_last]
    rw [← hvs]
    have hcl : closedL M.length [vD vs] = true := by simp only [closedL, closed_data M.length 1 _ (vD_data vs), Bool.and_self]
    exact ⟨rfl, shrink_app _ hcl⟩
theorem paper_call (h : OkT hs t f) : callF P (k+4) 39 [scrD hs t f] M = .ok (.tup [vD (shad t f hs), wD t hs]) M := by
  rw [call_run ⟨1, 1, c39⟩]
  unfold c39
  simp -implicitDefEqProofs [ev_nil, ev_seq, exS.eq_1, exS.eq_2, exS.eq_3, exS.eq_4, exS.eq_5, ev_ife, ev_loop, ev_whil, exS.eq_9, exS.eq_10, exS.eq_11, exS.eq_12, exS.eq_13, evE.eq_1, evE.eq_2, evE.eq_3, evE.eq_4, evE.eq_5, evE.eq_6, ev_and, ev_or, evE.eq_9, evE.eq_10, ev_ite, ev_tup, ev_lst, lineF_ok, ev_comp, evE.eq_15, evE.eq_16, evE.eq_17, evE.eq_18, evE.eq_19, evE.eq_20, evE.eq_21, evE.eq_22, evE.eq_23, evE.eq_24, evE.eq_25, evE.eq_26, evE.eq_27, evE.eq_28, evE.eq_29, evE.eq_30, evE.eq_31, evE.eq_32, evE.eq_33, evE.eq_34, Ok_bind, Ok_fin, evEs, evO, evT, evTs, evI.eq_1, ev_rng1, ev_rng2, evI.eq_4, ev_zip, evC, startE, wipe, lenTs,shading_call h, worths_call h]
/-! ### what a shading costs -/
theorem areNums_01 {v : D} {n : Nat} : areNums v n 0 1 = true → ∃ vs : List Int, v = vD vs ∧ vs.length = n ∧ ∀ x ∈ vs, x = 0 ∨ x = 1 := by
  intro h
  cases v <;> simp only [areNums] at h <;> try (cases h; done)
  rename_i xs
  simp only [Bool.and_eq_true, beq_iff_eq] at h
  obtain ⟨h1, h2⟩ := h
  have key : ∀ xs : List D, (xs.all fun x => within x 0 1) = true → ∃ vs : List Int, xs = vs.map .int ∧ ∀ x ∈ vs, x = 0 ∨ x = 1 := by
    intro xs
    induction xs with
    | nil => intro _; exact ⟨[], rfl, by simp⟩
    | cons x xs ih =>
      intro hx
      simp only [List.all_cons, Bool.and_eq_true] at hx
      obtain ⟨vs, rfl, hv⟩ := ih hx.2
      cases x <;> simp only [within] at hx <;> first | exact absurd hx.1 Bool.false_ne_true | skip
      rename_i i
      simp only [Bool.and_eq_true, decide_eq_true_eq] at hx
      refine ⟨i :: vs, rfl, fun y hy => ?_⟩
      rcases List.mem_cons.mp hy with rfl | hy
      · have := hx.1; omega
      · exact hv y hy
  obtain ⟨vs, rfl, hv⟩ := key xs h2
  exact ⟨vs, rfl, by rw [List.length_map] at h1; omega, hv⟩
theorem areNums_vD {vs : List Int} (h : ∀ x ∈ vs, x = 0 ∨ x = 1) : areNums (vD vs) vs.length 0 1 = true := by
  simp only [areNums, vD, List.length_map, beq_self_eq_true, Bool.true_and, List.all_eq_true]
  intro x hx
  obtain ⟨i, hi, rfl⟩ := List.mem_map.mp hx
  have := h i hi
  simp only [within, Bool.and_eq_true, decide_eq_true_eq]
  omega
/-- what any value costs -/
noncomputable def costD (hs : List (Int × Int)) (t f : Int) (v : D) : Int := if areNums v hs.length 0 1 then (match v with | .tup xs => cost t f hs (xs.map fun x => match x with | .int i => i | _ => 0) | _ => 0) else -1
theorem costD_vD {vs : List Int} (hl : vs.length = hs.length) (h : ∀ x ∈ vs, x = 0 ∨ x = 1) : costD hs t f (vD vs) = cost t f hs vs := by
  unfold costD
  rw [← hl, areNums_vD h, if_pos rfl]
  simp only [vD, List.map_map]
  have e : ((fun x : D => match x with | .int i => i | _ => (0 : Int)) ∘ D.int) = id := rfl
  rw [e, List.map_id]
theorem zip_hours : ∀ (hs : List (Int × Int)) (vs : List Int), zipD (hs.map hrD) (vs.map .int) = (hs.zip vs).map fun p => pairD (hrD p.1) (.int p.2)
  | [], vs => by cases vs <;> rfl
  | h :: hs, [] => rfl
  | h :: hs, v :: vs => by simp only [List.map_cons, zipD, List.zip_cons_cons, zip_hours hs vs]
theorem zip_ints : ∀ (us vs : List Int), zipD (us.map .int) (vs.map .int) = (us.zip vs).map fun p => pairD (.int p.1) (.int p.2)
  | [], vs => by cases vs <;> rfl
  | h :: hs, [] => rfl
  | h :: hs, v :: vs => by simp only [List.map_cons, zipD, List.zip_cons_cons, zip_ints hs vs]
theorem cost_sum (t : Int) : ∀ (hs : List (Int × Int)) (vs : List Int) (p : Int), vs.length = hs.length →
    ((hs.zip vs).map fun q => sel q.1 q.2).sum + t * (((p :: vs).zip vs).map fun q => if q.1 = q.2 then (0 : Int) else 1).sum = cost t p hs vs
  | [], vs, p, h => by
    have : vs = [] := List.eq_nil_of_length_eq_zero h
    subst this
    simp [cost]
  | h :: hs, [], p, hl => by simp at hl
  | h :: hs, v :: vs, p, hl => by
    have ih := cost_sum t hs vs v (by simpa using hl)
    simp only [List.zip_cons_cons, List.map_cons, List.sum_cons, cost, stepC]
    rw [← ih, Int.mul_add]
    have : ((v :: vs).zip vs).map (fun q => if q.1 = q.2 then (0 : Int) else 1) = ((v :: vs).zip vs).map (fun q => if q.1 = q.2 then (0 : Int) else 1) := rfl
    split <;> simp <;> omega
theorem vals_num {vs : List Int} {i : Nat} (h : i < vs.length) : ixD (vD vs) (.int i) = some (.int vs[i]) := by
  unfold vD
  rw [ix_tup (by rw [List.length_map]; exact h), List.getElem_map]
theorem is_shading_bad (h : OkT hs t f) {v : D} (hv : flat1 v = true) (hb : areNums v hs.length 0 1 = false) : callF P (k+5) 33 [scrD hs t f, v] M = .ok (.int (-1)) M := by
  rw [call_run ⟨2, 7, c33⟩]
  unfold c33
  simp -implicitDefEqProofs [ev_nil, ev_seq, exS.eq_1, exS.eq_2, exS.eq_3, exS.eq_4, exS.eq_5, ev_ife, ev_loop, ev_whil, exS.eq_9, exS.eq_10, exS.eq_11, exS.eq_12, exS.eq_13, evE.eq_1, evE.eq_2, evE.eq_3, evE.eq_4, evE.eq_5, evE.eq_6, ev_and, ev_or, evE.eq_9, evE.eq_10, ev_ite, ev_tup, ev_lst, lineF_ok, ev_comp, evE.eq_15, evE.eq_16, evE.eq_17, evE.eq_18, evE.eq_19, evE.eq_20, evE.eq_21, evE.eq_22, evE.eq_23, evE.eq_24, evE.eq_25, evE.eq_26, evE.eq_27, evE.eq_28, evE.eq_29, evE.eq_30, evE.eq_31, evE.eq_32, evE.eq_33, evE.eq_34, Ok_bind, Ok_fin, evEs, evO, evT, evTs, evI.eq_1, ev_rng1, ev_rng2, evI.eq_4, ev_zip, evC, startE, wipe, lenTs,is_shading_call h hv, hb]
theorem cost_call (h : OkT hs t f) {v : D} (hv : flat1 v = true) : callF P (k+5) 33 [scrD hs t f, v] M = .ok (.int (costD hs t f v)) M := by
  cases hb : areNums v hs.length 0 1 with
  | false =>
    rw [is_shading_bad h hv hb]
    unfold costD
    rw [hb]
    rfl
  | true =>
    obtain ⟨vs, rfl, hl, h01⟩ := areNums_01 hb
    rw [costD_vD hl h01, ← cost_sum t hs vs f hl]
    rw [call_run ⟨2, 7, c33⟩]
    unfold c33
    have hl1 := h.l1
    have z1 := zip_hours hs vs
    have z2 := zip_ints (f :: vs) vs
    have hc := cat_tup (xs := [.int f]) (ys := vs.map .int) (by rw [List.length_map, List.length_singleton]; omega)
    have n1 : ∀ r : Out D, lineF ((hs.zip vs).map fun p => pairD (hrD p.1) (.int p.2)) r = r := lineF_ok (by rw [List.length_map, List.length_zip]; omega)
    have n2 : ∀ r : Out D, lineF (((f :: vs).zip vs).map fun p => pairD (.int p.1) (.int p.2)) r = r := lineF_ok (by rw [List.length_map, List.length_zip]; omega)
    have hsm : small t = true := by
      have := h.t0; have := h.t1
      simp only [small, Bool.and_eq_true, decide_eq_true_eq]; omega
    have m1 : ∀ M, compL (itemF P (callF P (k + 4)) [3, 4] (CT.tup (CTs.cons (CT.name 3) (CTs.cons (CT.name 4) CTs.nil))) CO.no (CE.ix (CE.var 3) (CE.var 4)) [some (scrD hs t f), some (vD vs), none, none, none, none, none]) ((hs.zip vs).map fun p => pairD (hrD p.1) (.int p.2)) M = .ok ((hs.zip vs).map fun q => .int (sel q.1 q.2)) M := by
      intro M
      refine compL_on fun ⟨p, n⟩ hp => ?_
      have hn := h01 n (List.of_mem_zip hp).2
      unfold pairD
      simp -implicitDefEqProofs [ev_nil, ev_seq, exS.eq_1, exS.eq_2, exS.eq_3, exS.eq_4, exS.eq_5, ev_ife, ev_loop, ev_whil, exS.eq_9, exS.eq_10, exS.eq_11, exS.eq_12, exS.eq_13, evE.eq_1, evE.eq_2, evE.eq_3, evE.eq_4, evE.eq_5, evE.eq_6, ev_and, ev_or, evE.eq_9, evE.eq_10, ev_ite, ev_tup, ev_lst, lineF_ok, ev_comp, evE.eq_15, evE.eq_16, evE.eq_17, evE.eq_18, evE.eq_19, evE.eq_20, evE.eq_21, evE.eq_22, evE.eq_23, evE.eq_24, evE.eq_25, evE.eq_26, evE.eq_27, evE.eq_28, evE.eq_29, evE.eq_30, evE.eq_31, evE.eq_32, evE.eq_33, evE.eq_34, Ok_bind, Ok_fin, evEs, evO, evT, evTs, evI.eq_1, ev_rng1, ev_rng2, evI.eq_4, ev_zip, evC, startE, wipe, lenTs,itemF_of, ix_hr p hn, calm_ok]
    have m2 : ∀ (x : Int) M, compL (itemF P (callF P (k + 4)) [5, 6] (CT.tup (CTs.cons (CT.name 5) (CTs.cons (CT.name 6) CTs.nil))) CO.no (CE.blt BI.int (CEs.cons (CE.cmp COp.ne (CE.var 5) (CE.var 6)) CEs.nil)) [some (scrD hs t f), some (vD vs), some (.int x), none, none, none, none]) (((f :: vs).zip vs).map fun p => pairD (.int p.1) (.int p.2)) M = .ok (((f :: vs).zip vs).map fun q => .int (if q.1 = q.2 then (0 : Int) else 1)) M := by
      intro x M
      refine compL_on fun ⟨p, n⟩ hp => ?_
      unfold pairD
      by_cases hpn : p = n
      · subst hpn
        simp -implicitDefEqProofs [ev_nil, ev_seq, exS.eq_1, exS.eq_2, exS.eq_3, exS.eq_4, exS.eq_5, ev_ife, ev_loop, ev_whil, exS.eq_9, exS.eq_10, exS.eq_11, exS.eq_12, exS.eq_13, evE.eq_1, evE.eq_2, evE.eq_3, evE.eq_4, evE.eq_5, evE.eq_6, ev_and, ev_or, evE.eq_9, evE.eq_10, ev_ite, ev_tup, ev_lst, lineF_ok, ev_comp, evE.eq_15, evE.eq_16, evE.eq_17, evE.eq_18, evE.eq_19, evE.eq_20, evE.eq_21, evE.eq_22, evE.eq_23, evE.eq_24, evE.eq_25, evE.eq_26, evE.eq_27, evE.eq_28, evE.eq_29, evE.eq_30, evE.eq_31, evE.eq_32, evE.eq_33, evE.eq_34, Ok_bind, Ok_fin, evEs, evO, evT, evTs, evI.eq_1, ev_rng1, ev_rng2, evI.eq_4, ev_zip, evC, startE, wipe, lenTs,itemF_of, calm_ok, bltD]
      · have hb : (p == n) = false := by rw [beq_eq_false_iff_ne]; exact hpn
        simp -implicitDefEqProofs [ev_nil, ev_seq, exS.eq_1, exS.eq_2, exS.eq_3, exS.eq_4, exS.eq_5, ev_ife, ev_loop, ev_whil, exS.eq_9, exS.eq_10, exS.eq_11, exS.eq_12, exS.eq_13, evE.eq_1, evE.eq_2, evE.eq_3, evE.eq_4, evE.eq_5, evE.eq_6, ev_and, ev_or, evE.eq_9, evE.eq_10, ev_ite, ev_tup, ev_lst, lineF_ok, ev_comp, evE.eq_15, evE.eq_16, evE.eq_17, evE.eq_18, evE.eq_19, evE.eq_20, evE.eq_21, evE.eq_22, evE.eq_23, evE.eq_24, evE.eq_25, evE.eq_26, evE.eq_27, evE.eq_28, evE.eq_29, evE.eq_30, evE.eq_31, evE.eq_32, evE.eq_33, evE.eq_34, Ok_bind, Ok_fin, evEs, evO, evT, evTs, evI.eq_1, ev_rng1, ev_rng2, evI.eq_4, ev_zip, evC, startE, wipe, lenTs,itemF_of, calm_ok, bltD, hb, hpn]
    have s1 := sum_map (fun q : (Int × Int) × Int => sel q.1 q.2) (hs.zip vs)
    have s2 := sum_map (fun q : Int × Int => if q.1 = q.2 then (0 : Int) else 1) ((f :: vs).zip vs)
    have x1 : ∀ M, zipF (hoursD hs) (vD vs) M = .ok ((hs.zip vs).map fun p => pairD (hrD p.1) (.int p.2)) M := fun M => by rw [← z1]; rfl
    have x2 : ∀ M, zipF (.tup ([.int f] ++ vs.map .int)) (vD vs) M = .ok (((f :: vs).zip vs).map fun p => pairD (.int p.1) (.int p.2)) M := fun M => by rw [← z2]; rfl
    have hr : ∀ M, rd M (vD vs) = .tup (vs.map .int) := fun M => rfl
    have hc2 : ([.int f] ++ vs.map .int : List D) = .int f :: vs.map .int := rfl
    rw [hc2] at x2 hc
    simp -implicitDefEqProofs [ev_nil, ev_seq, exS.eq_1, exS.eq_2, exS.eq_3, exS.eq_4, exS.eq_5, ev_ife, ev_loop, ev_whil, exS.eq_9, exS.eq_10, exS.eq_11, exS.eq_12, exS.eq_13, evE.eq_1, evE.eq_2, evE.eq_3, evE.eq_4, evE.eq_5, evE.eq_6, ev_and, ev_or, evE.eq_9, evE.eq_10, ev_ite, ev_tup, ev_lst, lineF_ok, ev_comp, evE.eq_15, evE.eq_16, evE.eq_17, evE.eq_18, evE.eq_19, evE.eq_20, evE.eq_21, evE.eq_22, evE.eq_23, evE.eq_24, evE.eq_25, evE.eq_26, evE.eq_27, evE.eq_28, evE.eq_29, evE.eq_30, evE.eq_31, evE.eq_32, evE.eq_33, evE.eq_34, Ok_bind, Ok_fin, evEs, evO, evT, evTs, evI.eq_1, ev_rng1, ev_rng2, evI.eq_4, ev_zip, evC, startE, wipe, lenTs,is_shading_call h hv, hb, getF, x1, n1, n2, m1, s1, hr, hc]

    simp -implicitDefEqProofs [ev_nil, ev_seq, exS.eq_1, exS.eq_2, exS.eq_3, exS.eq_4, exS.eq_5, ev_ife, ev_loop, ev_whil, exS.eq_9, exS.eq_10, exS.eq_11, exS.eq_12, exS.eq_13, evE.eq_1, evE.eq_2, evE.eq_3, evE.eq_4, evE.eq_5, evE.eq_6, ev_and, ev_or, evE.eq_9, evE.eq_10, ev_ite, ev_tup, ev_lst, lineF_ok, ev_comp, evE.eq_15, evE.eq_16, evE.eq_17, evE.eq_18, evE.eq_19, evE.eq_20, evE.eq_21, evE.eq_22, evE.eq_23, evE.eq_24, evE.eq_25, evE.eq_26, evE.eq_27, evE.eq_28, evE.eq_29, evE.eq_30, evE.eq_31, evE.eq_32, evE.eq_33, evE.eq_34, Ok_bind, Ok_fin, evEs, evO, evT, evTs, evI.eq_1, ev_rng1, ev_rng2, evI.eq_4, ev_zip, evC, startE, wipe, lenTs,getF, x2, n2, m2, s2, mul_int hsm]
end K18

set_option linter.all false
set_option autoImplicit false
set_option maxRecDepth 100000
set_option maxHeartbeats 1000000
namespace K18
open PySem GW
variable {k : Nat} {M : Mem} {hs : List (Int × Int)} {t f : Int}
def rowsOk (v : D) (n : Nat) : Bool := match v with | .tup rows => ((rows.length : Int) == n + 1) && rows.all (areNums · 2 0 9999) | _ => false
def gd (l : List (Int × Int)) (i : Nat) : Int × Int := l.getD i (0, 0)
def goodAt (t : Int) (hs ws : List (Int × Int)) (i : Nat) (p q : Int) : Bool := decide (sel (gd ws i) p ≤ stepC t (gd hs i) p q + sel (gd ws (i + 1)) q)
def good2 (t : Int) (hs ws : List (Int × Int)) (i : Nat) (p : Int) : Bool := goodAt t hs ws i p 0 && goodAt t hs ws i p 1
def good4 (t : Int) (hs ws : List (Int × Int)) (i : Nat) : Bool := good2 t hs ws i 0 && good2 t hs ws i 1
def okC (t : Int) (hs ws : List (Int × Int)) : Bool := (List.range hs.length).all (good4 t hs ws)
/-- whether any value is worths -/
def okW (hs : List (Int × Int)) (t : Int) (v : D) : Bool := rowsOk v hs.length && (match v with
  | .tup rows => let ws := rows.map fun r => match r with | .tup [.int a, .int b] => (a, b) | _ => (0, 0)
    decide (gd ws hs.length = (0, 0)) && okC t hs ws
  | _ => false)
theorem areNums_2 {d : D} {a b : Int} (h : areNums d 2 a b = true) : ∃ p : Int × Int, d = hrD p := by
  cases d <;> simp only [areNums] at h <;> try (cases h; done)
  rename_i xs
  simp only [Bool.and_eq_true, beq_iff_eq] at h
  obtain ⟨h1, h2⟩ := h
  match xs, h1 with
  | [x, y], _ =>
    simp only [List.all_cons, List.all_nil, Bool.and_true, Bool.and_eq_true] at h2
    cases x <;> simp only [within] at h2 <;> first | exact absurd h2.1 Bool.false_ne_true | skip
    cases y <;> simp only [within] at h2 <;> first | exact absurd h2.2 Bool.false_ne_true | skip
    exact ⟨(_, _), rfl⟩
  | [], h1 => simp at h1
  | [x], h1 => simp at h1
  | x :: y :: z :: r, h1 => simp at h1; omega
theorem rowsOk_ws {v : D} {n : Nat} (h : rowsOk v n = true) : ∃ ws : List (Int × Int), v = hoursD ws ∧ ws.length = n + 1 := by
  cases v <;> simp only [rowsOk] at h <;> try (cases h; done)
  rename_i xs
  simp only [Bool.and_eq_true, beq_iff_eq] at h
  obtain ⟨h1, h2⟩ := h
  have key : ∀ xs : List D, (xs.all fun x => areNums x 2 0 9999) = true → ∃ ws : List (Int × Int), xs = ws.map hrD := by
    intro xs
    induction xs with
    | nil => intro _; exact ⟨[], rfl⟩
    | cons x xs ih =>
      intro hx
      simp only [List.all_cons, Bool.and_eq_true] at hx
      obtain ⟨ws, rfl⟩ := ih hx.2
      obtain ⟨p, rfl⟩ := areNums_2 hx.1
      exact ⟨p :: ws, rfl⟩
  obtain ⟨ws, rfl⟩ := key xs h2
  exact ⟨ws, rfl, by rw [List.length_map] at h1; omega⟩
theorem okW_ws {ws : List (Int × Int)} (h : rowsOk (hoursD ws) hs.length = true) : okW hs t (hoursD ws) = (decide (gd ws hs.length = (0, 0)) && okC t hs ws) := by
  unfold okW
  rw [h, Bool.true_and]
  unfold hoursD
  dsimp only
  rw [List.map_map]
  have e : ((fun r : D => match r with | .tup [.int a, .int b] => (a, b) | _ => ((0 : Int), (0 : Int))) ∘ hrD) = id := rfl
  rw [e, List.map_id]
theorem okW_bad {v : D} (h : rowsOk v hs.length = false) : okW hs t v = false := by unfold okW; rw [h]; rfl
theorem gd_get {l : List (Int × Int)} {i : Nat} (h : i < l.length) : l[i] = gd l i := by
  unfold gd
  rw [List.getD_eq_getElem?_getD, List.getElem?_eq_getElem h]; rfl
def natP (g : Nat → Bool) (d : D) : Bool := match d with | .int i => g i.toNat | _ => true
theorem rng_all (n : Nat) (g : Nat → Bool) : ((rngD 0 n).all (natP g)) = (List.range n).all g := by
  have key : ∀ (n a : Nat), ((rngD (a : Int) n).all (natP g)) = (List.range' a n).all g := by
    intro n
    induction n with
    | zero => intro a; rfl
    | succ n ih =>
      intro a
      rw [rngD, List.range'_succ, List.all_cons, List.all_cons]
      have := ih (a + 1)
      rw [show ((a + 1 : Nat) : Int) = (a : Int) + 1 by omega] at this
      rw [this]
      rfl
  have := key n 0
  rw [List.range_eq_range']
  exact this
theorem ix_last {ws : List (Int × Int)} {n : Nat} (h : ws.length = n + 1) : ixD (hoursD ws) (.int (-1)) = some (hrD (gd ws n)) := by
  unfold hoursD
  simp only [ixD, atI, ixN]
  rw [if_neg (by omega), if_pos (by rw [List.length_map]; omega)]
  rw [List.length_map, show ((-1 : Int) + (ws.length : Int)).toNat = n by omega]
  show (ws.map hrD)[n]? = _
  rw [List.getElem?_map, List.getElem?_eq_getElem (by omega), gd_get]; rfl
theorem ne_zero2 (p : Int × Int) : cmpD .ne (hrD p) (.tup [.int 0, .int 0]) = some (!decide (p = (0, 0))) := by
  obtain ⟨a, b⟩ := p
  have e : cmpD .ne (hrD (a, b)) (.tup [.int 0, .int 0]) = (eqD (hrD (a, b)) (.tup [.int 0, .int 0])).map not := by simp only [cmpD, hrD]
  rw [e]
  have e : eqD (hrD (a, b)) (.tup [.int 0, .int 0]) = some (a == 0 && (b == 0 && true)) := by simp [eqD, hrD, data, dataL, eqB, eqL]
  rw [e]
  simp only [Option.map_some, Option.some.injEq, Bool.and_true]
  congr 1
  rw [Bool.eq_iff_iff]
  simp
def q38 : CSs := (.cons (.ife (.cmp .gt (.ix (.ix (.var 1) (.var 2)) (.var 3)) (.bin .add (.call 34 (.cons (.var 0) (.cons (.var 2) (.cons (.var 3) (.cons (.var 4) .nil))))) (.ix (.ix (.var 1) (.bin .add (.var 2) (.lit (.int 1)))) (.var 4)))) (.cons (.ret (.lit (.bl false))) .nil) .nil) .nil)
def p38 : CSs := (.cons (.loop (.name 4) (.seq (.tup (.cons (.lit (.int 0)) (.cons (.lit (.int 1)) .nil)))) q38) .nil)
theorem q38_call {ws : List (Int × Int)} (hw : ws.length = hs.length + 1) {i : Nat} (hi : i < hs.length) {p n : Int} (hp : p = 0 ∨ p = 1) (hn : n = 0 ∨ n = 1) (a4 a5 : Option D) :
    bodyF P (callF P (k+1)) (.name 4) q38 (.int n) [some (scrD hs t f), some (hoursD ws), some (.int i), some (.int p), a4, a5] M = .ok (if goodAt t hs ws i p n then .nx [some (scrD hs t f), some (hoursD ws), some (.int i), some (.int p), some (.int n), a5] else .rt (.bl false)) M := by
  have e1 := ix_hours (hs := ws) (i := i) (by omega)
  have e2 := ix_hours (hs := ws) (i := i + 1) (by omega)
  rw [gd_get] at e1 e2
  rw [show ((i + 1 : Nat) : Int) = (i : Int) + 1 by omega] at e2
  have e3 := step_call (k := k) (M := M) (t := t) (f := f) (p := p) (n := n) hi hn
  rw [gd_get] at e3
  unfold bodyF q38 goodAt
  simp -implicitDefEqProofs [ev_nil, ev_seq, exS.eq_1, exS.eq_2, exS.eq_3, exS.eq_4, exS.eq_5, ev_ife, ev_loop, ev_whil, exS.eq_9, exS.eq_10, exS.eq_11, exS.eq_12, exS.eq_13, evE.eq_1, evE.eq_2, evE.eq_3, evE.eq_4, evE.eq_5, evE.eq_6, ev_and, ev_or, evE.eq_9, evE.eq_10, ev_ite, ev_tup, ev_lst, lineF_ok, ev_comp, evE.eq_15, evE.eq_16, evE.eq_17, evE.eq_18, evE.eq_19, evE.eq_20, evE.eq_21, evE.eq_22, evE.eq_23, evE.eq_24, evE.eq_25, evE.eq_26, evE.eq_27, evE.eq_28, evE.eq_29, evE.eq_30, evE.eq_31, evE.eq_32, evE.eq_33, evE.eq_34, Ok_bind, Ok_fin, evEs, evO, evT, evTs, evI.eq_1, ev_rng1, ev_rng2, evI.eq_4, ev_zip, evC, startE, wipe, lenTs,e1, e2, ix_hr _ hp, ix_hr _ hn, e3]
  by_cases hc : stepC t (gd hs i) p n + sel (gd ws (i + 1)) n < sel (gd ws i) p
  · have hc2 : ¬ (sel (gd ws i) p ≤ stepC t (gd hs i) p n + sel (gd ws (i + 1)) n) := by omega
    simp -implicitDefEqProofs [ev_nil, ev_seq, exS.eq_1, exS.eq_2, exS.eq_3, exS.eq_4, exS.eq_5, ev_ife, ev_loop, ev_whil, exS.eq_9, exS.eq_10, exS.eq_11, exS.eq_12, exS.eq_13, evE.eq_1, evE.eq_2, evE.eq_3, evE.eq_4, evE.eq_5, evE.eq_6, ev_and, ev_or, evE.eq_9, evE.eq_10, ev_ite, ev_tup, ev_lst, lineF_ok, ev_comp, evE.eq_15, evE.eq_16, evE.eq_17, evE.eq_18, evE.eq_19, evE.eq_20, evE.eq_21, evE.eq_22, evE.eq_23, evE.eq_24, evE.eq_25, evE.eq_26, evE.eq_27, evE.eq_28, evE.eq_29, evE.eq_30, evE.eq_31, evE.eq_32, evE.eq_33, evE.eq_34, Ok_bind, Ok_fin, evEs, evO, evT, evTs, evI.eq_1, ev_rng1, ev_rng2, evI.eq_4, ev_zip, evC, startE, wipe, lenTs,hc, hc2]
  · have hc2 : sel (gd ws i) p ≤ stepC t (gd hs i) p n + sel (gd ws (i + 1)) n := by omega
    simp -implicitDefEqProofs [ev_nil, ev_seq, exS.eq_1, exS.eq_2, exS.eq_3, exS.eq_4, exS.eq_5, ev_ife, ev_loop, ev_whil, exS.eq_9, exS.eq_10, exS.eq_11, exS.eq_12, exS.eq_13, evE.eq_1, evE.eq_2, evE.eq_3, evE.eq_4, evE.eq_5, evE.eq_6, ev_and, ev_or, evE.eq_9, evE.eq_10, ev_ite, ev_tup, ev_lst, lineF_ok, ev_comp, evE.eq_15, evE.eq_16, evE.eq_17, evE.eq_18, evE.eq_19, evE.eq_20, evE.eq_21, evE.eq_22, evE.eq_23, evE.eq_24, evE.eq_25, evE.eq_26, evE.eq_27, evE.eq_28, evE.eq_29, evE.eq_30, evE.eq_31, evE.eq_32, evE.eq_33, evE.eq_34, Ok_bind, Ok_fin, evEs, evO, evT, evTs, evI.eq_1, ev_rng1, ev_rng2, evI.eq_4, ev_zip, evC, startE, wipe, lenTs,hc, hc2]
theorem p38_call {ws : List (Int × Int)} (hw : ws.length = hs.length + 1) {i : Nat} (hi : i < hs.length) {p : Int} (hp : p = 0 ∨ p = 1) (a3 a4 a5 : Option D) :
    ∃ a4', bodyF P (callF P (k+1)) (.name 3) p38 (.int p) [some (scrD hs t f), some (hoursD ws), some (.int i), a3, a4, a5] M = .ok (if good2 t hs ws i p then .nx [some (scrD hs t f), some (hoursD ws), some (.int i), some (.int p), a4', a5] else .rt (.bl false)) M := by
  refine ⟨some (.int 1), ?_⟩
  unfold bodyF p38 good2
  simp -implicitDefEqProofs [ev_nil, ev_seq, exS.eq_1, exS.eq_2, exS.eq_3, exS.eq_4, exS.eq_5, ev_ife, ev_loop, ev_whil, exS.eq_9, exS.eq_10, exS.eq_11, exS.eq_12, exS.eq_13, evE.eq_1, evE.eq_2, evE.eq_3, evE.eq_4, evE.eq_5, evE.eq_6, ev_and, ev_or, evE.eq_9, evE.eq_10, ev_ite, ev_tup, ev_lst, lineF_ok, ev_comp, evE.eq_15, evE.eq_16, evE.eq_17, evE.eq_18, evE.eq_19, evE.eq_20, evE.eq_21, evE.eq_22, evE.eq_23, evE.eq_24, evE.eq_25, evE.eq_26, evE.eq_27, evE.eq_28, evE.eq_29, evE.eq_30, evE.eq_31, evE.eq_32, evE.eq_33, evE.eq_34, Ok_bind, Ok_fin, evEs, evO, evT, evTs, evI.eq_1, ev_rng1, ev_rng2, evI.eq_4, ev_zip, evC, startE, wipe, lenTs,forL, q38_call hw hi hp]
  cases goodAt t hs ws i p 0
  · simp -implicitDefEqProofs [ev_nil, ev_seq, exS.eq_1, exS.eq_2, exS.eq_3, exS.eq_4, exS.eq_5, ev_ife, ev_loop, ev_whil, exS.eq_9, exS.eq_10, exS.eq_11, exS.eq_12, exS.eq_13, evE.eq_1, evE.eq_2, evE.eq_3, evE.eq_4, evE.eq_5, evE.eq_6, ev_and, ev_or, evE.eq_9, evE.eq_10, ev_ite, ev_tup, ev_lst, lineF_ok, ev_comp, evE.eq_15, evE.eq_16, evE.eq_17, evE.eq_18, evE.eq_19, evE.eq_20, evE.eq_21, evE.eq_22, evE.eq_23, evE.eq_24, evE.eq_25, evE.eq_26, evE.eq_27, evE.eq_28, evE.eq_29, evE.eq_30, evE.eq_31, evE.eq_32, evE.eq_33, evE.eq_34, Ok_bind, Ok_fin, evEs, evO, evT, evTs, evI.eq_1, ev_rng1, ev_rng2, evI.eq_4, ev_zip, evC, startE, wipe, lenTs,forL]
  · simp -implicitDefEqProofs [ev_nil, ev_seq, exS.eq_1, exS.eq_2, exS.eq_3, exS.eq_4, exS.eq_5, ev_ife, ev_loop, ev_whil, exS.eq_9, exS.eq_10, exS.eq_11, exS.eq_12, exS.eq_13, evE.eq_1, evE.eq_2, evE.eq_3, evE.eq_4, evE.eq_5, evE.eq_6, ev_and, ev_or, evE.eq_9, evE.eq_10, ev_ite, ev_tup, ev_lst, lineF_ok, ev_comp, evE.eq_15, evE.eq_16, evE.eq_17, evE.eq_18, evE.eq_19, evE.eq_20, evE.eq_21, evE.eq_22, evE.eq_23, evE.eq_24, evE.eq_25, evE.eq_26, evE.eq_27, evE.eq_28, evE.eq_29, evE.eq_30, evE.eq_31, evE.eq_32, evE.eq_33, evE.eq_34, Ok_bind, Ok_fin, evEs, evO, evT, evTs, evI.eq_1, ev_rng1, ev_rng2, evI.eq_4, ev_zip, evC, startE, wipe, lenTs,forL, q38_call hw hi hp]
    cases goodAt t hs ws i p 1 <;> simp -implicitDefEqProofs [ev_nil, ev_seq, exS.eq_1, exS.eq_2, exS.eq_3, exS.eq_4, exS.eq_5, ev_ife, ev_loop, ev_whil, exS.eq_9, exS.eq_10, exS.eq_11, exS.eq_12, exS.eq_13, evE.eq_1, evE.eq_2, evE.eq_3, evE.eq_4, evE.eq_5, evE.eq_6, ev_and, ev_or, evE.eq_9, evE.eq_10, ev_ite, ev_tup, ev_lst, lineF_ok, ev_comp, evE.eq_15, evE.eq_16, evE.eq_17, evE.eq_18, evE.eq_19, evE.eq_20, evE.eq_21, evE.eq_22, evE.eq_23, evE.eq_24, evE.eq_25, evE.eq_26, evE.eq_27, evE.eq_28, evE.eq_29, evE.eq_30, evE.eq_31, evE.eq_32, evE.eq_33, evE.eq_34, Ok_bind, Ok_fin, evEs, evO, evT, evTs, evI.eq_1, ev_rng1, ev_rng2, evI.eq_4, ev_zip, evC, startE, wipe, lenTs,forL]
theorem h38_call {ws : List (Int × Int)} (hw : ws.length = hs.length + 1) {i : Nat} (hi : i < hs.length) (a2 a3 a4 a5 : Option D) :
    ∃ a3' a4', bodyF P (callF P (k+1)) (.name 2) (.cons (.loop (.name 3) (.seq (.tup (.cons (.lit (.int 0)) (.cons (.lit (.int 1)) .nil)))) p38) .nil) (.int i) [some (scrD hs t f), some (hoursD ws), a2, a3, a4, a5] M = .ok (if good4 t hs ws i then .nx [some (scrD hs t f), some (hoursD ws), some (.int i), a3', a4', a5] else .rt (.bl false)) M := by
  obtain ⟨b, e1⟩ := p38_call (k := k) (M := M) (t := t) (f := f) hw hi (.inl rfl) a3 a4 a5
  obtain ⟨c, e2⟩ := p38_call (k := k) (M := M) (t := t) (f := f) hw hi (.inr rfl) (some (.int 0)) b a5
  refine ⟨some (.int 1), c, ?_⟩
  unfold bodyF good4
  simp -implicitDefEqProofs [ev_nil, ev_seq, exS.eq_1, exS.eq_2, exS.eq_3, exS.eq_4, exS.eq_5, ev_ife, ev_loop, ev_whil, exS.eq_9, exS.eq_10, exS.eq_11, exS.eq_12, exS.eq_13, evE.eq_1, evE.eq_2, evE.eq_3, evE.eq_4, evE.eq_5, evE.eq_6, ev_and, ev_or, evE.eq_9, evE.eq_10, ev_ite, ev_tup, ev_lst, lineF_ok, ev_comp, evE.eq_15, evE.eq_16, evE.eq_17, evE.eq_18, evE.eq_19, evE.eq_20, evE.eq_21, evE.eq_22, evE.eq_23, evE.eq_24, evE.eq_25, evE.eq_26, evE.eq_27, evE.eq_28, evE.eq_29, evE.eq_30, evE.eq_31, evE.eq_32, evE.eq_33, evE.eq_34, Ok_bind, Ok_fin, evEs, evO, evT, evTs, evI.eq_1, ev_rng1, ev_rng2, evI.eq_4, ev_zip, evC, startE, wipe, lenTs,forL, e1]
  cases good2 t hs ws i 0
  · simp -implicitDefEqProofs [ev_nil, ev_seq, exS.eq_1, exS.eq_2, exS.eq_3, exS.eq_4, exS.eq_5, ev_ife, ev_loop, ev_whil, exS.eq_9, exS.eq_10, exS.eq_11, exS.eq_12, exS.eq_13, evE.eq_1, evE.eq_2, evE.eq_3, evE.eq_4, evE.eq_5, evE.eq_6, ev_and, ev_or, evE.eq_9, evE.eq_10, ev_ite, ev_tup, ev_lst, lineF_ok, ev_comp, evE.eq_15, evE.eq_16, evE.eq_17, evE.eq_18, evE.eq_19, evE.eq_20, evE.eq_21, evE.eq_22, evE.eq_23, evE.eq_24, evE.eq_25, evE.eq_26, evE.eq_27, evE.eq_28, evE.eq_29, evE.eq_30, evE.eq_31, evE.eq_32, evE.eq_33, evE.eq_34, Ok_bind, Ok_fin, evEs, evO, evT, evTs, evI.eq_1, ev_rng1, ev_rng2, evI.eq_4, ev_zip, evC, startE, wipe, lenTs,forL]
  · simp -implicitDefEqProofs [ev_nil, ev_seq, exS.eq_1, exS.eq_2, exS.eq_3, exS.eq_4, exS.eq_5, ev_ife, ev_loop, ev_whil, exS.eq_9, exS.eq_10, exS.eq_11, exS.eq_12, exS.eq_13, evE.eq_1, evE.eq_2, evE.eq_3, evE.eq_4, evE.eq_5, evE.eq_6, ev_and, ev_or, evE.eq_9, evE.eq_10, ev_ite, ev_tup, ev_lst, lineF_ok, ev_comp, evE.eq_15, evE.eq_16, evE.eq_17, evE.eq_18, evE.eq_19, evE.eq_20, evE.eq_21, evE.eq_22, evE.eq_23, evE.eq_24, evE.eq_25, evE.eq_26, evE.eq_27, evE.eq_28, evE.eq_29, evE.eq_30, evE.eq_31, evE.eq_32, evE.eq_33, evE.eq_34, Ok_bind, Ok_fin, evEs, evO, evT, evTs, evI.eq_1, ev_rng1, ev_rng2, evI.eq_4, ev_zip, evC, startE, wipe, lenTs,forL, e2]
    cases good2 t hs ws i 1 <;> simp -implicitDefEqProofs [ev_nil, ev_seq, exS.eq_1, exS.eq_2, exS.eq_3, exS.eq_4, exS.eq_5, ev_ife, ev_loop, ev_whil, exS.eq_9, exS.eq_10, exS.eq_11, exS.eq_12, exS.eq_13, evE.eq_1, evE.eq_2, evE.eq_3, evE.eq_4, evE.eq_5, evE.eq_6, ev_and, ev_or, evE.eq_9, evE.eq_10, ev_ite, ev_tup, ev_lst, lineF_ok, ev_comp, evE.eq_15, evE.eq_16, evE.eq_17, evE.eq_18, evE.eq_19, evE.eq_20, evE.eq_21, evE.eq_22, evE.eq_23, evE.eq_24, evE.eq_25, evE.eq_26, evE.eq_27, evE.eq_28, evE.eq_29, evE.eq_30, evE.eq_31, evE.eq_32, evE.eq_33, evE.eq_34, Ok_bind, Ok_fin, evEs, evO, evT, evTs, evI.eq_1, ev_rng1, ev_rng2, evI.eq_4, ev_zip, evC, startE, wipe, lenTs,forL]
theorem are_worths_call (h : OkT hs t f) {v : D} (hv : flat2 v = true) : callF P (k+4) 38 [scrD hs t f, v] M = .ok (.bl (okW hs t v)) M := by
  have hl := h.l1
  have e1 : ((hs.length : Int) + 1) = ((hs.length + 1 : Nat) : Int) := by omega
  cases hr : rowsOk v hs.length with
  | false =>
    rw [okW_bad hr]
    rw [call_run ⟨2, 6, c38⟩]
    unfold c38
    have hd := flat2_flat hv
    simp -implicitDefEqProofs [ev_nil, ev_seq, exS.eq_1, exS.eq_2, exS.eq_3, exS.eq_4, exS.eq_5, ev_ife, ev_loop, ev_whil, exS.eq_9, exS.eq_10, exS.eq_11, exS.eq_12, exS.eq_13, evE.eq_1, evE.eq_2, evE.eq_3, evE.eq_4, evE.eq_5, evE.eq_6, ev_and, ev_or, evE.eq_9, evE.eq_10, ev_ite, ev_tup, ev_lst, lineF_ok, ev_comp, evE.eq_15, evE.eq_16, evE.eq_17, evE.eq_18, evE.eq_19, evE.eq_20, evE.eq_21, evE.eq_22, evE.eq_23, evE.eq_24, evE.eq_25, evE.eq_26, evE.eq_27, evE.eq_28, evE.eq_29, evE.eq_30, evE.eq_31, evE.eq_32, evE.eq_33, evE.eq_34, Ok_bind, Ok_fin, evEs, evO, evT, evTs, evI.eq_1, ev_rng1, ev_rng2, evI.eq_4, ev_zip, evC, startE, wipe, lenTs,getF, len_hours, is_row_call hd]
    cases hi : isRow v (↑hs.length + 1) with
    | false => simp -implicitDefEqProofs [ev_nil, ev_seq, exS.eq_1, exS.eq_2, exS.eq_3, exS.eq_4, exS.eq_5, ev_ife, ev_loop, ev_whil, exS.eq_9, exS.eq_10, exS.eq_11, exS.eq_12, exS.eq_13, evE.eq_1, evE.eq_2, evE.eq_3, evE.eq_4, evE.eq_5, evE.eq_6, ev_and, ev_or, evE.eq_9, evE.eq_10, ev_ite, ev_tup, ev_lst, lineF_ok, ev_comp, evE.eq_15, evE.eq_16, evE.eq_17, evE.eq_18, evE.eq_19, evE.eq_20, evE.eq_21, evE.eq_22, evE.eq_23, evE.eq_24, evE.eq_25, evE.eq_26, evE.eq_27, evE.eq_28, evE.eq_29, evE.eq_30, evE.eq_31, evE.eq_32, evE.eq_33, evE.eq_34, Ok_bind, Ok_fin, evEs, evO, evT, evTs, evI.eq_1, ev_rng1, ev_rng2, evI.eq_4, ev_zip, evC, startE, wipe, lenTs,hi]
    | true =>
      cases v <;> simp only [isRow] at hi <;> try (cases hi; done)
      rename_i rows
      simp only [rowsOk, hi, Bool.true_and] at hr
      have hln : rows.length ≤ 1000000 := by rw [beq_iff_eq] at hi; omega
      have hcomp := compL_map (f := itemF P (callF P (k + 3)) [5] (CT.name 5) CO.no (CE.call 4 (CEs.cons (CE.var 5) (CEs.cons (CE.lit (D.int 2)) (CEs.cons (CE.lit (D.int 0)) (CEs.cons (CE.glb 3) CEs.nil))))) [some (scrD hs t f), some (.tup rows), none, none, none, none]) (g := fun x => .bl (areNums x 2 0 9999)) (M := M) (ds := rows) (fun x hx => by
        have hf : flat1 x = true := by simp only [flat2, List.all_eq_true] at hv; exact hv x hx
        simp -implicitDefEqProofs [ev_nil, ev_seq, exS.eq_1, exS.eq_2, exS.eq_3, exS.eq_4, exS.eq_5, ev_ife, ev_loop, ev_whil, exS.eq_9, exS.eq_10, exS.eq_11, exS.eq_12, exS.eq_13, evE.eq_1, evE.eq_2, evE.eq_3, evE.eq_4, evE.eq_5, evE.eq_6, ev_and, ev_or, evE.eq_9, evE.eq_10, ev_ite, ev_tup, ev_lst, lineF_ok, ev_comp, evE.eq_15, evE.eq_16, evE.eq_17, evE.eq_18, evE.eq_19, evE.eq_20, evE.eq_21, evE.eq_22, evE.eq_23, evE.eq_24, evE.eq_25, evE.eq_26, evE.eq_27, evE.eq_28, evE.eq_29, evE.eq_30, evE.eq_31, evE.eq_32, evE.eq_33, evE.eq_34, Ok_bind, Ok_fin, evEs, evO, evT, evTs, evI.eq_1, ev_rng1, ev_rng2, evI.eq_4, ev_zip, evC, startE, wipe, lenTs,itemF_of, are_numbers_call hf (show (2 : Int) ≤ 1000000 by decide), calm_ok])
      simp -implicitDefEqProofs [ev_nil, ev_seq, exS.eq_1, exS.eq_2, exS.eq_3, exS.eq_4, exS.eq_5, ev_ife, ev_loop, ev_whil, exS.eq_9, exS.eq_10, exS.eq_11, exS.eq_12, exS.eq_13, evE.eq_1, evE.eq_2, evE.eq_3, evE.eq_4, evE.eq_5, evE.eq_6, ev_and, ev_or, evE.eq_9, evE.eq_10, ev_ite, ev_tup, ev_lst, lineF_ok, ev_comp, evE.eq_15, evE.eq_16, evE.eq_17, evE.eq_18, evE.eq_19, evE.eq_20, evE.eq_21, evE.eq_22, evE.eq_23, evE.eq_24, evE.eq_25, evE.eq_26, evE.eq_27, evE.eq_28, evE.eq_29, evE.eq_30, evE.eq_31, evE.eq_32, evE.eq_33, evE.eq_34, Ok_bind, Ok_fin, evEs, evO, evT, evTs, evI.eq_1, ev_rng1, ev_rng2, evI.eq_4, ev_zip, evC, startE, wipe, lenTs,hi, hln, hcomp, bltD, blsOf_map, List.all_map]
      simp -implicitDefEqProofs [ev_nil, ev_seq, exS.eq_1, exS.eq_2, exS.eq_3, exS.eq_4, exS.eq_5, ev_ife, ev_loop, ev_whil, exS.eq_9, exS.eq_10, exS.eq_11, exS.eq_12, exS.eq_13, evE.eq_1, evE.eq_2, evE.eq_3, evE.eq_4, evE.eq_5, evE.eq_6, ev_and, ev_or, evE.eq_9, evE.eq_10, ev_ite, ev_tup, ev_lst, lineF_ok, ev_comp, evE.eq_15, evE.eq_16, evE.eq_17, evE.eq_18, evE.eq_19, evE.eq_20, evE.eq_21, evE.eq_22, evE.eq_23, evE.eq_24, evE.eq_25, evE.eq_26, evE.eq_27, evE.eq_28, evE.eq_29, evE.eq_30, evE.eq_31, evE.eq_32, evE.eq_33, evE.eq_34, Ok_bind, Ok_fin, evEs, evO, evT, evTs, evI.eq_1, ev_rng1, ev_rng2, evI.eq_4, ev_zip, evC, startE, wipe, lenTs,hr]
  | true =>
    obtain ⟨ws, rfl, hw⟩ := rowsOk_ws hr
    rw [okW_ws hr]
    rw [call_run ⟨2, 6, c38⟩]
    unfold c38
    have hi : isRow (hoursD ws) (↑hs.length + 1) = true := by simp [isRow, hoursD, hw]
    have hln : (ws.map hrD).length ≤ 1000000 := by rw [List.length_map]; omega
    have hA : ∀ x ∈ ws, areNums (hrD x) 2 0 9999 = true := by
      simp only [rowsOk, hoursD, Bool.and_eq_true, List.all_eq_true] at hr
      exact fun x hx => hr.2 _ (List.mem_map_of_mem hx)
    have hcomp : compL (itemF P (callF P (k + 3)) [5] (CT.name 5) CO.no (CE.call 4 (CEs.cons (CE.var 5) (CEs.cons (CE.lit (D.int 2)) (CEs.cons (CE.lit (D.int 0)) (CEs.cons (CE.glb 3) CEs.nil))))) [some (scrD hs t f), some (hoursD ws), none, none, none, none]) (ws.map hrD) M = .ok (ws.map fun _ => .bl true) M := by
      refine compL_on fun x hx => ?_
      have hf : flat1 (hrD x) = true := flat1_data (hrD_data x)
      simp -implicitDefEqProofs [ev_nil, ev_seq, exS.eq_1, exS.eq_2, exS.eq_3, exS.eq_4, exS.eq_5, ev_ife, ev_loop, ev_whil, exS.eq_9, exS.eq_10, exS.eq_11, exS.eq_12, exS.eq_13, evE.eq_1, evE.eq_2, evE.eq_3, evE.eq_4, evE.eq_5, evE.eq_6, ev_and, ev_or, evE.eq_9, evE.eq_10, ev_ite, ev_tup, ev_lst, lineF_ok, ev_comp, evE.eq_15, evE.eq_16, evE.eq_17, evE.eq_18, evE.eq_19, evE.eq_20, evE.eq_21, evE.eq_22, evE.eq_23, evE.eq_24, evE.eq_25, evE.eq_26, evE.eq_27, evE.eq_28, evE.eq_29, evE.eq_30, evE.eq_31, evE.eq_32, evE.eq_33, evE.eq_34, Ok_bind, Ok_fin, evEs, evO, evT, evTs, evI.eq_1, ev_rng1, ev_rng2, evI.eq_4, ev_zip, evC, startE, wipe, lenTs,itemF_of, are_numbers_call hf (show (2 : Int) ≤ 1000000 by decide), calm_ok, hA x hx]
    have hlf : ∀ r : Out D, lineF (ws.map hrD) r = r := lineF_ok hln
    have hall : bltD BI.all [D.lst (List.map (fun _ => D.bl true) ws)] = some (D.bl true) := by rw [all_map (fun _ : Int × Int => true) ws]; simp
    have hd := flat2_flat hv
    have hrn := rngF_nat (n := hs.length) (by omega) M
    simp -implicitDefEqProofs [ev_nil, ev_seq, exS.eq_1, exS.eq_2, exS.eq_3, exS.eq_4, exS.eq_5, ev_ife, ev_loop, ev_whil, exS.eq_9, exS.eq_10, exS.eq_11, exS.eq_12, exS.eq_13, evE.eq_1, evE.eq_2, evE.eq_3, evE.eq_4, evE.eq_5, evE.eq_6, ev_and, ev_or, evE.eq_9, evE.eq_10, ev_ite, ev_tup, ev_lst, lineF_ok, ev_comp, evE.eq_15, evE.eq_16, evE.eq_17, evE.eq_18, evE.eq_19, evE.eq_20, evE.eq_21, evE.eq_22, evE.eq_23, evE.eq_24, evE.eq_25, evE.eq_26, evE.eq_27, evE.eq_28, evE.eq_29, evE.eq_30, evE.eq_31, evE.eq_32, evE.eq_33, evE.eq_34, Ok_bind, Ok_fin, evEs, evO, evT, evTs, evI.eq_1, ev_rng1, ev_rng2, evI.eq_4, ev_zip, evC, startE, wipe, lenTs,getF, len_hours, is_row_call hd, hi, items_hours, hlf, hcomp, hall, ix_last hw, ne_zero2]
    by_cases hz : gd ws hs.length = (0, 0)
    · simp -implicitDefEqProofs [ev_nil, ev_seq, exS.eq_1, exS.eq_2, exS.eq_3, exS.eq_4, exS.eq_5, ev_ife, ev_loop, ev_whil, exS.eq_9, exS.eq_10, exS.eq_11, exS.eq_12, exS.eq_13, evE.eq_1, evE.eq_2, evE.eq_3, evE.eq_4, evE.eq_5, evE.eq_6, ev_and, ev_or, evE.eq_9, evE.eq_10, ev_ite, ev_tup, ev_lst, lineF_ok, ev_comp, evE.eq_15, evE.eq_16, evE.eq_17, evE.eq_18, evE.eq_19, evE.eq_20, evE.eq_21, evE.eq_22, evE.eq_23, evE.eq_24, evE.eq_25, evE.eq_26, evE.eq_27, evE.eq_28, evE.eq_29, evE.eq_30, evE.eq_31, evE.eq_32, evE.eq_33, evE.eq_34, Ok_bind, Ok_fin, evEs, evO, evT, evTs, evI.eq_1, ev_rng1, ev_rng2, evI.eq_4, ev_zip, evC, startE, wipe, lenTs,hz, getF, len_hours, hrn]
      obtain ⟨ρ', ⟨b2, b3, b4, b5, rfl⟩, e⟩ := forL_all (f := bodyF P (callF P (k + 3)) (.name 2) (.cons (.loop (.name 3) (.seq (.tup (.cons (.lit (.int 0)) (.cons (.lit (.int 1)) .nil)))) p38) .nil)) (natP (good4 t hs ws))
        (fun ρ => ∃ b2 b3 b4 b5 : Option D, ρ = [some (scrD hs t f), some (hoursD ws), b2, b3, b4, b5]) (M := M) (r := .bl false) (rngD 0 hs.length) [some (scrD hs t f), some (hoursD ws), none, none, none, none] ⟨none, none, none, none, rfl⟩ (fun d hd ρ ⟨b2, b3, b4, b5, e⟩ => by
          subst e
          obtain ⟨i, rfl, hi⟩ := rngD_mem _ _ _ hd
          obtain ⟨c3, c4, e2⟩ := h38_call (k := k + 2) (M := M) (t := t) (f := f) hw hi b2 b3 b4 b5
          refine ⟨_, ⟨some (.int i), c3, c4, b5, rfl⟩, ?_⟩
          rw [show (0 : Int) + (i : Int) = i by omega]
          exact e2)
      rw [rng_all] at e
      change forL (bodyF P (callF P (k + 3)) _ _) _ _ _ = _ at e
      unfold p38 q38 at e
      unfold okC
      generalize (List.range hs.length).all (good4 t hs ws) = z at e ⊢
      simp -implicitDefEqProofs [ev_nil, ev_seq, exS.eq_1, exS.eq_2, exS.eq_3, exS.eq_4, exS.eq_5, ev_ife, ev_loop, ev_whil, exS.eq_9, exS.eq_10, exS.eq_11, exS.eq_12, exS.eq_13, evE.eq_1, evE.eq_2, evE.eq_3, evE.eq_4, evE.eq_5, evE.eq_6, ev_and, ev_or, evE.eq_9, evE.eq_10, ev_ite, ev_tup, ev_lst, lineF_ok, ev_comp, evE.eq_15, evE.eq_16, evE.eq_17, evE.eq_18, evE.eq_19, evE.eq_20, evE.eq_21, evE.eq_22, evE.eq_23, evE.eq_24, evE.eq_25, evE.eq_26, evE.eq_27, evE.eq_28, evE.eq_29, evE.eq_30, evE.eq_31, evE.eq_32, evE.eq_33, evE.eq_34, Ok_bind, Ok_fin, evEs, evO, evT, evTs, evI.eq_1, ev_rng1, ev_rng2, evI.eq_4, ev_zip, evC, startE, wipe, lenTs,e]
      cases z <;> simp -implicitDefEqProofs [ev_nil, ev_seq, exS.eq_1, exS.eq_2, exS.eq_3, exS.eq_4, exS.eq_5, ev_ife, ev_loop, ev_whil, exS.eq_9, exS.eq_10, exS.eq_11, exS.eq_12, exS.eq_13, evE.eq_1, evE.eq_2, evE.eq_3, evE.eq_4, evE.eq_5, evE.eq_6, ev_and, ev_or, evE.eq_9, evE.eq_10, ev_ite, ev_tup, ev_lst, lineF_ok, ev_comp, evE.eq_15, evE.eq_16, evE.eq_17, evE.eq_18, evE.eq_19, evE.eq_20, evE.eq_21, evE.eq_22, evE.eq_23, evE.eq_24, evE.eq_25, evE.eq_26, evE.eq_27, evE.eq_28, evE.eq_29, evE.eq_30, evE.eq_31, evE.eq_32, evE.eq_33, evE.eq_34, Ok_bind, Ok_fin, evEs, evO, evT, evTs, evI.eq_1, ev_rng1, ev_rng2, evI.eq_4, ev_zip, evC, startE, wipe, lenTs]
    · simp -implicitDefEqProofs [ev_nil, ev_seq, exS.eq_1, exS.eq_2, exS.eq_3, exS.eq_4, exS.eq_5, ev_ife, ev_loop, ev_whil, exS.eq_9, exS.eq_10, exS.eq_11, exS.eq_12, exS.eq_13, evE.eq_1, evE.eq_2, evE.eq_3, evE.eq_4, evE.eq_5, evE.eq_6, ev_and, ev_or, evE.eq_9, evE.eq_10, ev_ite, ev_tup, ev_lst, lineF_ok, ev_comp, evE.eq_15, evE.eq_16, evE.eq_17, evE.eq_18, evE.eq_19, evE.eq_20, evE.eq_21, evE.eq_22, evE.eq_23, evE.eq_24, evE.eq_25, evE.eq_26, evE.eq_27, evE.eq_28, evE.eq_29, evE.eq_30, evE.eq_31, evE.eq_32, evE.eq_33, evE.eq_34, Ok_bind, Ok_fin, evEs, evO, evT, evTs, evI.eq_1, ev_rng1, ev_rng2, evI.eq_4, ev_zip, evC, startE, wipe, lenTs,hz]
/-- what worths tell of the first hour -/
def headW (y : D) (f : Int) : Int := match y with | .tup (.tup [.int a, .int b] :: _) => sel (a, b) f | _ => 0
noncomputable def paperOk (hs : List (Int × Int)) (t f : Int) (v : D) : Bool := match v with
    | .tup [x, y] => areNums x hs.length 0 1 && (okW hs t y && decide (costD hs t f x = headW y f))
    | _ => false
theorem is_paper_call (h : OkT hs t f) {v : D} (hv : data 20 v = true) : callF P (k+6) 40 [scrD hs t f, v] M = .ok (.bl (paperOk hs t f v)) M := by
  unfold paperOk
  rw [call_run ⟨2, 2, c40⟩]
  unfold c40
  have hd := flat_data hv
  simp -implicitDefEqProofs [ev_nil, ev_seq, exS.eq_1, exS.eq_2, exS.eq_3, exS.eq_4, exS.eq_5, ev_ife, ev_loop, ev_whil, exS.eq_9, exS.eq_10, exS.eq_11, exS.eq_12, exS.eq_13, evE.eq_1, evE.eq_2, evE.eq_3, evE.eq_4, evE.eq_5, evE.eq_6, ev_and, ev_or, evE.eq_9, evE.eq_10, ev_ite, ev_tup, ev_lst, lineF_ok, ev_comp, evE.eq_15, evE.eq_16, evE.eq_17, evE.eq_18, evE.eq_19, evE.eq_20, evE.eq_21, evE.eq_22, evE.eq_23, evE.eq_24, evE.eq_25, evE.eq_26, evE.eq_27, evE.eq_28, evE.eq_29, evE.eq_30, evE.eq_31, evE.eq_32, evE.eq_33, evE.eq_34, Ok_bind, Ok_fin, evEs, evO, evT, evTs, evI.eq_1, ev_rng1, ev_rng2, evI.eq_4, ev_zip, evC, startE, wipe, lenTs,is_row_call hd]
  by_cases hr : ∃ x y, v = .tup [x, y]
  · obtain ⟨x, y, rfl⟩ := hr
    have hD : ∀ v ∈ [x, y], data 19 v = true := by simp only [data] at hv; exact dataL_iff.mp hv
    have hx := hD x (by simp)
    have hy := hD y (by simp)
    have hi : isRow (.tup [x, y]) 2 = true := rfl
    simp -implicitDefEqProofs [ev_nil, ev_seq, exS.eq_1, exS.eq_2, exS.eq_3, exS.eq_4, exS.eq_5, ev_ife, ev_loop, ev_whil, exS.eq_9, exS.eq_10, exS.eq_11, exS.eq_12, exS.eq_13, evE.eq_1, evE.eq_2, evE.eq_3, evE.eq_4, evE.eq_5, evE.eq_6, ev_and, ev_or, evE.eq_9, evE.eq_10, ev_ite, ev_tup, ev_lst, lineF_ok, ev_comp, evE.eq_15, evE.eq_16, evE.eq_17, evE.eq_18, evE.eq_19, evE.eq_20, evE.eq_21, evE.eq_22, evE.eq_23, evE.eq_24, evE.eq_25, evE.eq_26, evE.eq_27, evE.eq_28, evE.eq_29, evE.eq_30, evE.eq_31, evE.eq_32, evE.eq_33, evE.eq_34, Ok_bind, Ok_fin, evEs, evO, evT, evTs, evI.eq_1, ev_rng1, ev_rng2, evI.eq_4, ev_zip, evC, startE, wipe, lenTs,hi, ix0, ix1, is_shading_call h (flat1_data hx)]
    cases h1 : areNums x hs.length 0 1 with
    | false => simp -implicitDefEqProofs [ev_nil, ev_seq, exS.eq_1, exS.eq_2, exS.eq_3, exS.eq_4, exS.eq_5, ev_ife, ev_loop, ev_whil, exS.eq_9, exS.eq_10, exS.eq_11, exS.eq_12, exS.eq_13, evE.eq_1, evE.eq_2, evE.eq_3, evE.eq_4, evE.eq_5, evE.eq_6, ev_and, ev_or, evE.eq_9, evE.eq_10, ev_ite, ev_tup, ev_lst, lineF_ok, ev_comp, evE.eq_15, evE.eq_16, evE.eq_17, evE.eq_18, evE.eq_19, evE.eq_20, evE.eq_21, evE.eq_22, evE.eq_23, evE.eq_24, evE.eq_25, evE.eq_26, evE.eq_27, evE.eq_28, evE.eq_29, evE.eq_30, evE.eq_31, evE.eq_32, evE.eq_33, evE.eq_34, Ok_bind, Ok_fin, evEs, evO, evT, evTs, evI.eq_1, ev_rng1, ev_rng2, evI.eq_4, ev_zip, evC, startE, wipe, lenTs,h1]
    | true =>
      simp -implicitDefEqProofs [ev_nil, ev_seq, exS.eq_1, exS.eq_2, exS.eq_3, exS.eq_4, exS.eq_5, ev_ife, ev_loop, ev_whil, exS.eq_9, exS.eq_10, exS.eq_11, exS.eq_12, exS.eq_13, evE.eq_1, evE.eq_2, evE.eq_3, evE.eq_4, evE.eq_5, evE.eq_6, ev_and, ev_or, evE.eq_9, evE.eq_10, ev_ite, ev_tup, ev_lst, lineF_ok, ev_comp, evE.eq_15, evE.eq_16, evE.eq_17, evE.eq_18, evE.eq_19, evE.eq_20, evE.eq_21, evE.eq_22, evE.eq_23, evE.eq_24, evE.eq_25, evE.eq_26, evE.eq_27, evE.eq_28, evE.eq_29, evE.eq_30, evE.eq_31, evE.eq_32, evE.eq_33, evE.eq_34, Ok_bind, Ok_fin, evEs, evO, evT, evTs, evI.eq_1, ev_rng1, ev_rng2, evI.eq_4, ev_zip, evC, startE, wipe, lenTs,h1, are_worths_call h (flat2_data hy), ix1]
      cases h2 : okW hs t y with
      | false => simp -implicitDefEqProofs [ev_nil, ev_seq, exS.eq_1, exS.eq_2, exS.eq_3, exS.eq_4, exS.eq_5, ev_ife, ev_loop, ev_whil, exS.eq_9, exS.eq_10, exS.eq_11, exS.eq_12, exS.eq_13, evE.eq_1, evE.eq_2, evE.eq_3, evE.eq_4, evE.eq_5, evE.eq_6, ev_and, ev_or, evE.eq_9, evE.eq_10, ev_ite, ev_tup, ev_lst, lineF_ok, ev_comp, evE.eq_15, evE.eq_16, evE.eq_17, evE.eq_18, evE.eq_19, evE.eq_20, evE.eq_21, evE.eq_22, evE.eq_23, evE.eq_24, evE.eq_25, evE.eq_26, evE.eq_27, evE.eq_28, evE.eq_29, evE.eq_30, evE.eq_31, evE.eq_32, evE.eq_33, evE.eq_34, Ok_bind, Ok_fin, evEs, evO, evT, evTs, evI.eq_1, ev_rng1, ev_rng2, evI.eq_4, ev_zip, evC, startE, wipe, lenTs,h2]
      | true =>
        have hr : rowsOk y hs.length = true := by
          cases h3 : rowsOk y hs.length with
          | true => rfl
          | false => rw [okW_bad h3] at h2; cases h2
        obtain ⟨ws, rfl, hw⟩ := rowsOk_ws hr
        match ws, hw with
        | w :: ws, hw =>
          have e0 : ixD (hoursD (w :: ws)) (.int 0) = some (hrD w) := ix0 _ _
          simp -implicitDefEqProofs [ev_nil, ev_seq, exS.eq_1, exS.eq_2, exS.eq_3, exS.eq_4, exS.eq_5, ev_ife, ev_loop, ev_whil, exS.eq_9, exS.eq_10, exS.eq_11, exS.eq_12, exS.eq_13, evE.eq_1, evE.eq_2, evE.eq_3, evE.eq_4, evE.eq_5, evE.eq_6, ev_and, ev_or, evE.eq_9, evE.eq_10, ev_ite, ev_tup, ev_lst, lineF_ok, ev_comp, evE.eq_15, evE.eq_16, evE.eq_17, evE.eq_18, evE.eq_19, evE.eq_20, evE.eq_21, evE.eq_22, evE.eq_23, evE.eq_24, evE.eq_25, evE.eq_26, evE.eq_27, evE.eq_28, evE.eq_29, evE.eq_30, evE.eq_31, evE.eq_32, evE.eq_33, evE.eq_34, Ok_bind, Ok_fin, evEs, evO, evT, evTs, evI.eq_1, ev_rng1, ev_rng2, evI.eq_4, ev_zip, evC, startE, wipe, lenTs,ix0, ix1, cost_call h (flat1_data hx), getF, e0, ix_hr w h.f01]
          show (costD hs t f x == sel w f) = (decide (costD hs t f x = sel w f))
          rw [Bool.eq_iff_iff]
          simp
  · have hi : isRow v 2 = false := by
      cases v with
      | tup xs =>
        show ((xs.length : Int) == 2) = false
        rw [beq_eq_false_iff_ne]
        intro h
        match xs, h with
        | [a, b], _ => exact hr ⟨a, b, rfl⟩
        | [], h => simp at h
        | [a], h => simp at h
        | a :: b :: c :: r, h => simp at h; omega
      | _ => rfl
    simp -implicitDefEqProofs [ev_nil, ev_seq, exS.eq_1, exS.eq_2, exS.eq_3, exS.eq_4, exS.eq_5, ev_ife, ev_loop, ev_whil, exS.eq_9, exS.eq_10, exS.eq_11, exS.eq_12, exS.eq_13, evE.eq_1, evE.eq_2, evE.eq_3, evE.eq_4, evE.eq_5, evE.eq_6, ev_and, ev_or, evE.eq_9, evE.eq_10, ev_ite, ev_tup, ev_lst, lineF_ok, ev_comp, evE.eq_15, evE.eq_16, evE.eq_17, evE.eq_18, evE.eq_19, evE.eq_20, evE.eq_21, evE.eq_22, evE.eq_23, evE.eq_24, evE.eq_25, evE.eq_26, evE.eq_27, evE.eq_28, evE.eq_29, evE.eq_30, evE.eq_31, evE.eq_32, evE.eq_33, evE.eq_34, Ok_bind, Ok_fin, evEs, evO, evT, evTs, evI.eq_1, ev_rng1, ev_rng2, evI.eq_4, ev_zip, evC, startE, wipe, lenTs,hi]
    split
    · rename_i x y
      exact absurd ⟨x, y, rfl⟩ hr
    · rfl
end K18

set_option linter.all false
set_option autoImplicit false
set_option maxRecDepth 100000
set_option maxHeartbeats 1000000
namespace K18
open PySem GW
variable {k : Nat} {M : Mem} {hs : List (Int × Int)} {t f : Int}
theorem int_nat {i : Int} (h : 0 ≤ i) : ∃ n : Nat, i = n := ⟨i.toNat, by omega⟩
theorem all2_hours : ∀ {ds xs : List D}, All2 (fun _ x => ∃ p : Int × Int, x = hrD p ∧ okH p = true) ds xs → ∃ hs : List (Int × Int), xs = hs.map hrD ∧ hs.all okH = true ∧ hs.length = ds.length := by
  intro ds xs h
  induction h with
  | nil => exact ⟨[], rfl, rfl, rfl⟩
  | cons hp _ ih =>
    obtain ⟨p, rfl, h1⟩ := hp
    obtain ⟨hs, rfl, h2, h3⟩ := ih
    exact ⟨p :: hs, rfl, by rw [List.all_cons, h1, h2]; rfl, by rw [List.length_cons, List.length_cons, h3]⟩
theorem screens_ok {o : MO} {rest : Mem} {Q : D → Mem → Prop} (ho : RowO o) (hQ : ∀ (hs : List (Int × Int)) (t f : Int) (o' : MO), OkT hs t f → RowO o' → Q (toldD hs t f) (o' :: rest)) : (callF P (k+3) 41 [.ref 0] (o :: rest)).Ok Q := by
  rw [call_run ⟨1, 4, c41⟩]
  unfold c41
  simp -implicitDefEqProofs [ev_nil, ev_seq, exS.eq_1, exS.eq_2, exS.eq_3, exS.eq_4, exS.eq_5, ev_ife, ev_loop, ev_whil, exS.eq_9, exS.eq_10, exS.eq_11, exS.eq_12, exS.eq_13, evE.eq_1, evE.eq_2, evE.eq_3, evE.eq_4, evE.eq_5, evE.eq_6, ev_and, ev_or, evE.eq_9, evE.eq_10, ev_ite, ev_tup, ev_lst, lineF_ok, ev_comp, evE.eq_15, evE.eq_16, evE.eq_17, evE.eq_18, evE.eq_19, evE.eq_20, evE.eq_21, evE.eq_22, evE.eq_23, evE.eq_24, evE.eq_25, evE.eq_26, evE.eq_27, evE.eq_28, evE.eq_29, evE.eq_30, evE.eq_31, evE.eq_32, evE.eq_33, evE.eq_34, Ok_bind, Ok_fin, evEs, evO, evT, evTs, evI.eq_1, ev_rng1, ev_rng2, evI.eq_4, ev_zip, evC, startE, wipe, lenTs]
  refine pick_ok ho (by simp) (by simp) fun w o1 hw ho1 => ?_
  obtain ⟨wi, rfl, hw1, hw2⟩ : ∃ i : Int, w = .int i ∧ 0 < i ∧ i ≤ 100 := by
    simp only [List.mem_cons, List.not_mem_nil, or_false] at hw
    rcases hw with rfl | rfl | rfl
    · exact ⟨3, rfl, by omega, by omega⟩
    · exact ⟨20, rfl, by omega, by omega⟩
    · exact ⟨100, rfl, by omega, by omega⟩
  refine taken_ok ho1 (by omega) (by omega) fun i o2 hi1 hi2 ho2 => ?_
  obtain ⟨n, rfl⟩ := int_nat hi1
  have hr := fun M => rngF_of (i := 1 + (n : Int)) (by omega) (by omega) M
  have hlf : ∀ r : Out D, lineF (rngD 0 (1 + (n : Int)).toNat) r = r := lineF_ok (by rw [rngD_length]; omega)
  simp -implicitDefEqProofs [ev_nil, ev_seq, exS.eq_1, exS.eq_2, exS.eq_3, exS.eq_4, exS.eq_5, ev_ife, ev_loop, ev_whil, exS.eq_9, exS.eq_10, exS.eq_11, exS.eq_12, exS.eq_13, evE.eq_1, evE.eq_2, evE.eq_3, evE.eq_4, evE.eq_5, evE.eq_6, ev_and, ev_or, evE.eq_9, evE.eq_10, ev_ite, ev_tup, ev_lst, lineF_ok, ev_comp, evE.eq_15, evE.eq_16, evE.eq_17, evE.eq_18, evE.eq_19, evE.eq_20, evE.eq_21, evE.eq_22, evE.eq_23, evE.eq_24, evE.eq_25, evE.eq_26, evE.eq_27, evE.eq_28, evE.eq_29, evE.eq_30, evE.eq_31, evE.eq_32, evE.eq_33, evE.eq_34, Ok_bind, Ok_fin, evEs, evO, evT, evTs, evI.eq_1, ev_rng1, ev_rng2, evI.eq_4, ev_zip, evC, startE, wipe, lenTs,hr, hlf]
  refine (compL_ok (fun M => ∃ o', M = o' :: rest ∧ RowO o') (fun _ x => ∃ p : Int × Int, x = hrD p ∧ okH p = true) ⟨o2, rfl, ho2⟩ ?_).imp ?_
  · rintro d hd Z ⟨o3, rfl, ho3⟩
    simp -implicitDefEqProofs [ev_nil, ev_seq, exS.eq_1, exS.eq_2, exS.eq_3, exS.eq_4, exS.eq_5, ev_ife, ev_loop, ev_whil, exS.eq_9, exS.eq_10, exS.eq_11, exS.eq_12, exS.eq_13, evE.eq_1, evE.eq_2, evE.eq_3, evE.eq_4, evE.eq_5, evE.eq_6, ev_and, ev_or, evE.eq_9, evE.eq_10, ev_ite, ev_tup, ev_lst, lineF_ok, ev_comp, evE.eq_15, evE.eq_16, evE.eq_17, evE.eq_18, evE.eq_19, evE.eq_20, evE.eq_21, evE.eq_22, evE.eq_23, evE.eq_24, evE.eq_25, evE.eq_26, evE.eq_27, evE.eq_28, evE.eq_29, evE.eq_30, evE.eq_31, evE.eq_32, evE.eq_33, evE.eq_34, Ok_bind, Ok_fin, evEs, evO, evT, evTs, evI.eq_1, ev_rng1, ev_rng2, evI.eq_4, ev_zip, evC, startE, wipe, lenTs,itemF_of]
    refine taken_ok ho3 (by omega) (by omega) fun a o4 ha1 ha2 ho4 => ?_
    refine taken_ok ho4 (by omega) (by omega) fun b o5 hb1 hb2 ho5 => ?_
    simp -implicitDefEqProofs [ev_nil, ev_seq, exS.eq_1, exS.eq_2, exS.eq_3, exS.eq_4, exS.eq_5, ev_ife, ev_loop, ev_whil, exS.eq_9, exS.eq_10, exS.eq_11, exS.eq_12, exS.eq_13, evE.eq_1, evE.eq_2, evE.eq_3, evE.eq_4, evE.eq_5, evE.eq_6, ev_and, ev_or, evE.eq_9, evE.eq_10, ev_ite, ev_tup, ev_lst, lineF_ok, ev_comp, evE.eq_15, evE.eq_16, evE.eq_17, evE.eq_18, evE.eq_19, evE.eq_20, evE.eq_21, evE.eq_22, evE.eq_23, evE.eq_24, evE.eq_25, evE.eq_26, evE.eq_27, evE.eq_28, evE.eq_29, evE.eq_30, evE.eq_31, evE.eq_32, evE.eq_33, evE.eq_34, Ok_bind, Ok_fin, evEs, evO, evT, evTs, evI.eq_1, ev_rng1, ev_rng2, evI.eq_4, ev_zip, evC, startE, wipe, lenTs]
    exact ⟨ho5, a, b, rfl, by simp only [okH, decide_eq_true_eq]; omega⟩
  · rintro xs Z ⟨⟨o3, rfl, ho3⟩, hall⟩
    obtain ⟨hs, rfl, h1, h2⟩ := all2_hours hall
    rw [rngD_length] at h2
    refine taken_ok ho3 (by omega) (by omega) fun a o4 ha1 ha2 ho4 => ?_
    refine taken_ok ho4 (by omega) (by omega) fun b o5 hb1 hb2 ho5 => ?_
    simp -implicitDefEqProofs [ev_nil, ev_seq, exS.eq_1, exS.eq_2, exS.eq_3, exS.eq_4, exS.eq_5, ev_ife, ev_loop, ev_whil, exS.eq_9, exS.eq_10, exS.eq_11, exS.eq_12, exS.eq_13, evE.eq_1, evE.eq_2, evE.eq_3, evE.eq_4, evE.eq_5, evE.eq_6, ev_and, ev_or, evE.eq_9, evE.eq_10, ev_ite, ev_tup, ev_lst, lineF_ok, ev_comp, evE.eq_15, evE.eq_16, evE.eq_17, evE.eq_18, evE.eq_19, evE.eq_20, evE.eq_21, evE.eq_22, evE.eq_23, evE.eq_24, evE.eq_25, evE.eq_26, evE.eq_27, evE.eq_28, evE.eq_29, evE.eq_30, evE.eq_31, evE.eq_32, evE.eq_33, evE.eq_34, Ok_bind, Ok_fin, evEs, evO, evT, evTs, evI.eq_1, ev_rng1, ev_rng2, evI.eq_4, ev_zip, evC, startE, wipe, lenTs]
    exact hQ hs a b o5 ⟨h1, by omega, by omega, ha1, by omega, hb1, by omega⟩ ho5
/-! ### the law's own least -/
theorem items_01 : True := trivial
def w42 : CSs := (.cons (.exp (.bmt .append (.var 6) (.cons (.blt .min1 (.cons (.comp false [8] (.name 8) (.seq (.lst false (.cons (.lit (.int 0)) (.cons (.lit (.int 1)) .nil)))) (.yes (.cmp .isnot (.ix (.var 1) (.var 8)) (.lit .non))) (.bin .add (.bin .add (.ix (.var 1) (.var 8)) (.ix (.var 2) (.var 7))) (.ite (.cmp .ne (.var 8) (.var 7)) (.var 4) (.lit (.int 0))))) .nil)) .nil))) .nil)
def l42 : CSs := (.cons (.asg (.name 6) (.lst true .nil)) (.cons (.loop (.name 7) (.seq (.lst false (.cons (.lit (.int 0)) (.cons (.lit (.int 1)) .nil)))) w42) (.cons (.asg (.name 1) (.var 6)) .nil)))
theorem isnot_int (i : Int) : cmpD .isnot (.int i) .non = some true := rfl
theorem isnot_non : cmpD .isnot .non .non = some false := rfl
theorem step42 {T : D} {R : D} {a b : Int} {Z : Mem} (hR : ∀ X, rd (Z ++ X) R = .lst [.int a, .int b]) (h : Int × Int) (q2 q5 q6 q7 q8 : Option D) :
    ∃ q7' q8', bodyF P (callF P k) (.name 2) l42 (hrD h) [some T, some R, q2, some (hoursD hs), some (.int t), q5, q6, q7, q8] Z = .ok (.nx [some T, some (.ref Z.length), some (hrD h), some (hoursD hs), some (.int t), q5, some (.ref Z.length), q7', q8']) (Z ++ [.lst [.int (mn (a + sel h 0 + 0) (b + sel h 0 + t)), .int (mn (a + sel h 1 + t) (b + sel h 1 + 0))]]) := by
  refine ⟨some (.int 1), q8, ?_⟩
  unfold bodyF l42 w42
  simp -implicitDefEqProofs [ev_nil, ev_seq, exS.eq_1, exS.eq_2, exS.eq_3, exS.eq_4, exS.eq_5, ev_ife, ev_loop, ev_whil, exS.eq_9, exS.eq_10, exS.eq_11, exS.eq_12, exS.eq_13, evE.eq_1, evE.eq_2, evE.eq_3, evE.eq_4, evE.eq_5, evE.eq_6, ev_and, ev_or, evE.eq_9, evE.eq_10, ev_ite, ev_tup, ev_lst, lineF_ok, ev_comp, evE.eq_15, evE.eq_16, evE.eq_17, evE.eq_18, evE.eq_19, evE.eq_20, evE.eq_21, evE.eq_22, evE.eq_23, evE.eq_24, evE.eq_25, evE.eq_26, evE.eq_27, evE.eq_28, evE.eq_29, evE.eq_30, evE.eq_31, evE.eq_32, evE.eq_33, evE.eq_34, Ok_bind, Ok_fin, evEs, evO, evT, evTs, evI.eq_1, ev_rng1, ev_rng2, evI.eq_4, ev_zip, evC, startE, wipe, lenTs,forL, bodyF, compL, itemF_of, hR, ix0l, ix1l, isnot_int, ix_hr, min_two, recv_last, app_last, calm_ok]
  exact ⟨rfl, rfl⟩
theorem fst42 {T : D} {Z : Mem} (hf : f = 0 ∨ f = 1) (h : Int × Int) (q2 q5 q6 q7 q8 : Option D) :
    ∃ q7' q8' x y, bodyF P (callF P k) (.name 2) l42 (hrD h) [some T, some (.lst [if f = 0 then .int 0 else .non, if f = 1 then .int 0 else .non]), q2, some (hoursD hs), some (.int t), q5, q6, q7, q8] Z = .ok (.nx [some T, some (.ref Z.length), some (hrD h), some (hoursD hs), some (.int t), q5, some (.ref Z.length), q7', q8']) (Z ++ [.lst [.int x, .int y]]) ∧
      ∀ r, fwd t x y r = least t f (h :: r) := by
  rcases hf with rfl | rfl
  · refine ⟨some (.int 1), q8, 0 + sel h 0 + 0, 0 + sel h 1 + t, ?_, fun r => by rfl⟩
    unfold bodyF l42 w42
    simp -implicitDefEqProofs [ev_nil, ev_seq, exS.eq_1, exS.eq_2, exS.eq_3, exS.eq_4, exS.eq_5, ev_ife, ev_loop, ev_whil, exS.eq_9, exS.eq_10, exS.eq_11, exS.eq_12, exS.eq_13, evE.eq_1, evE.eq_2, evE.eq_3, evE.eq_4, evE.eq_5, evE.eq_6, ev_and, ev_or, evE.eq_9, evE.eq_10, ev_ite, ev_tup, ev_lst, lineF_ok, ev_comp, evE.eq_15, evE.eq_16, evE.eq_17, evE.eq_18, evE.eq_19, evE.eq_20, evE.eq_21, evE.eq_22, evE.eq_23, evE.eq_24, evE.eq_25, evE.eq_26, evE.eq_27, evE.eq_28, evE.eq_29, evE.eq_30, evE.eq_31, evE.eq_32, evE.eq_33, evE.eq_34, Ok_bind, Ok_fin, evEs, evO, evT, evTs, evI.eq_1, ev_rng1, ev_rng2, evI.eq_4, ev_zip, evC, startE, wipe, lenTs,forL, bodyF, compL, itemF_of, ix0l, ix1l, isnot_int, isnot_non, ix_hr, min_one, recv_last, app_last, calm_ok]
  · refine ⟨some (.int 1), q8, 0 + sel h 0 + t, 0 + sel h 1 + 0, ?_, fun r => by rfl⟩
    unfold bodyF l42 w42
    simp -implicitDefEqProofs [ev_nil, ev_seq, exS.eq_1, exS.eq_2, exS.eq_3, exS.eq_4, exS.eq_5, ev_ife, ev_loop, ev_whil, exS.eq_9, exS.eq_10, exS.eq_11, exS.eq_12, exS.eq_13, evE.eq_1, evE.eq_2, evE.eq_3, evE.eq_4, evE.eq_5, evE.eq_6, ev_and, ev_or, evE.eq_9, evE.eq_10, ev_ite, ev_tup, ev_lst, lineF_ok, ev_comp, evE.eq_15, evE.eq_16, evE.eq_17, evE.eq_18, evE.eq_19, evE.eq_20, evE.eq_21, evE.eq_22, evE.eq_23, evE.eq_24, evE.eq_25, evE.eq_26, evE.eq_27, evE.eq_28, evE.eq_29, evE.eq_30, evE.eq_31, evE.eq_32, evE.eq_33, evE.eq_34, Ok_bind, Ok_fin, evEs, evO, evT, evTs, evI.eq_1, ev_rng1, ev_rng2, evI.eq_4, ev_zip, evC, startE, wipe, lenTs,forL, bodyF, compL, itemF_of, ix0l, ix1l, isnot_int, isnot_non, ix_hr, min_one, recv_last, app_last, calm_ok]
theorem least_law_call (h : OkT hs t f) : callF P (k+1) 42 [toldD hs t f] M = .ok (.int (least t f hs)) M := by
  rw [call_run ⟨1, 9, c42⟩]
  unfold c42
  refine Ok_eq ?_
  have ht : ∀ d, d = toldD hs t f → itemsT d = some [hoursD hs, .int t, .int f] := fun d e => by subst e; rfl
  have ht2 := ht _ rfl
  have hc : (if f = 0 then (D.int 0) else .non) = if f = 0 then .int 0 else .non := rfl
  have key : ∀ q6 q7 q8 : Option D, (exSs P (callF P k) (.cons (.loop (.name 2) (.seq (.var 3)) l42) (.cons (.ret (.blt .min1 (.cons (.var 1) .nil))) .nil)) [some (toldD hs t f), some (.lst [if f = 0 then .int 0 else .non, if f = 1 then .int 0 else .non]), none, some (hoursD hs), some (.int t), some (.int f), q6, q7, q8] M).Ok (finQ M fun x M' => x = .int (least t f hs) ∧ M' = M) := by
    intro q6 q7 q8
    match hs, h with
    | [], h => exact absurd h.l0 (by simp)
    | h0 :: r, h =>
      simp -implicitDefEqProofs [ev_nil, ev_seq, exS.eq_1, exS.eq_2, exS.eq_3, exS.eq_4, exS.eq_5, ev_ife, ev_loop, ev_whil, exS.eq_9, exS.eq_10, exS.eq_11, exS.eq_12, exS.eq_13, evE.eq_1, evE.eq_2, evE.eq_3, evE.eq_4, evE.eq_5, evE.eq_6, ev_and, ev_or, evE.eq_9, evE.eq_10, ev_ite, ev_tup, ev_lst, lineF_ok, ev_comp, evE.eq_15, evE.eq_16, evE.eq_17, evE.eq_18, evE.eq_19, evE.eq_20, evE.eq_21, evE.eq_22, evE.eq_23, evE.eq_24, evE.eq_25, evE.eq_26, evE.eq_27, evE.eq_28, evE.eq_29, evE.eq_30, evE.eq_31, evE.eq_32, evE.eq_33, evE.eq_34, Ok_bind, Ok_fin, evEs, evO, evT, evTs, evI.eq_1, ev_rng1, ev_rng2, evI.eq_4, ev_zip, evC, startE, wipe, lenTs,items_hours]
      obtain ⟨q7', q8', x, y, e, hL⟩ := fst42 (k := k) (hs := h0 :: r) (t := t) (T := toldD (h0 :: r) t f) (Z := M) h.f01 h0 none (some (.int f)) q6 q7 q8
      rw [forL, e, bind_ok]
      dsimp only
      rw [← hL]
      clear e hL
      refine forL_ok (fun n ρ M' => (∃ X, M' = M ++ X) ∧ ∃ (R : D) (a b : Int) (q2 q6 q7 q8 : Option D), (∀ X, rd (M' ++ X) R = .lst [.int a, .int b]) ∧ fwd t a b (r.drop n) = fwd t x y r ∧ ρ = [some (toldD (h0 :: r) t f), some R, q2, some (hoursD (h0 :: r)), some (.int t), some (.int f), q6, q7, q8]) _ 0 _ _ ?_ ?_ ?_
      · exact ⟨⟨_, rfl⟩, .ref M.length, x, y, _, _, _, _, fun X => by simp [rd], by rw [List.drop_zero], rfl⟩
      · rintro i d ρ Z hd ⟨⟨X, hX⟩, R, a, b, q2, q6, q7, q8, hR, hfw, rfl⟩
        rw [List.getElem?_map] at hd
        obtain ⟨h1, hd1, rfl⟩ := Option.map_eq_some_iff.mp hd
        obtain ⟨c7, c8, e⟩ := step42 (k := k) (hs := h0 :: r) (t := t) (T := toldD (h0 :: r) t f) hR h1 q2 (some (.int f)) q6 q7 q8
        rw [e]
        rw [Nat.zero_add] at hfw ⊢
        have hi : i < r.length := (List.getElem?_eq_some_iff.mp hd1).1
        have e2 : r.drop i = h1 :: r.drop (i + 1) := by
          rw [List.drop_eq_getElem_cons hi]
          congr 1
          exact (List.getElem?_eq_some_iff.mp hd1).2
        rw [e2, fwd] at hfw
        rw [Ok_ok]
        exact ⟨⟨X ++ _, by rw [hX, List.append_assoc]⟩, _, _, _, _, _, _, _, fun Y => by simp [rd], hfw, rfl⟩
      · rintro ρ Z ⟨⟨X, hX⟩, R, a, b, q2, q6, q7, q8, hR, hfw, rfl⟩
        rw [List.length_map, Nat.zero_add, List.drop_length] at hfw
        have h2 := hR []
        rw [List.append_nil] at h2
        simp -implicitDefEqProofs [ev_nil, ev_seq, exS.eq_1, exS.eq_2, exS.eq_3, exS.eq_4, exS.eq_5, ev_ife, ev_loop, ev_whil, exS.eq_9, exS.eq_10, exS.eq_11, exS.eq_12, exS.eq_13, evE.eq_1, evE.eq_2, evE.eq_3, evE.eq_4, evE.eq_5, evE.eq_6, ev_and, ev_or, evE.eq_9, evE.eq_10, ev_ite, ev_tup, ev_lst, lineF_ok, ev_comp, evE.eq_15, evE.eq_16, evE.eq_17, evE.eq_18, evE.eq_19, evE.eq_20, evE.eq_21, evE.eq_22, evE.eq_23, evE.eq_24, evE.eq_25, evE.eq_26, evE.eq_27, evE.eq_28, evE.eq_29, evE.eq_30, evE.eq_31, evE.eq_32, evE.eq_33, evE.eq_34, Ok_bind, Ok_fin, evEs, evO, evT, evTs, evI.eq_1, ev_rng1, ev_rng2, evI.eq_4, ev_zip, evC, startE, wipe, lenTs,h2, min_two]
        rw [fwd] at hfw
        have hcl : ∀ i : Int, closedL M.length [D.int i] = true := fun i => rfl
        exact ⟨hfw, by rw [hX]; exact shrink_app X (hcl _)⟩
  have k2 := key none none none
  unfold l42 w42 at k2
  rcases h.f01 with rfl | rfl
  · simp -implicitDefEqProofs [ev_nil, ev_seq, exS.eq_1, exS.eq_2, exS.eq_3, exS.eq_4, exS.eq_5, ev_ife, ev_loop, ev_whil, exS.eq_9, exS.eq_10, exS.eq_11, exS.eq_12, exS.eq_13, evE.eq_1, evE.eq_2, evE.eq_3, evE.eq_4, evE.eq_5, evE.eq_6, ev_and, ev_or, evE.eq_9, evE.eq_10, ev_ite, ev_tup, ev_lst, lineF_ok, ev_comp, evE.eq_15, evE.eq_16, evE.eq_17, evE.eq_18, evE.eq_19, evE.eq_20, evE.eq_21, evE.eq_22, evE.eq_23, evE.eq_24, evE.eq_25, evE.eq_26, evE.eq_27, evE.eq_28, evE.eq_29, evE.eq_30, evE.eq_31, evE.eq_32, evE.eq_33, evE.eq_34, Ok_bind, Ok_fin, evEs, evO, evT, evTs, evI.eq_1, ev_rng1, ev_rng2, evI.eq_4, ev_zip, evC, startE, wipe, lenTs,items_hours] at k2
    simp -implicitDefEqProofs [ev_nil, ev_seq, exS.eq_1, exS.eq_2, exS.eq_3, exS.eq_4, exS.eq_5, ev_ife, ev_loop, ev_whil, exS.eq_9, exS.eq_10, exS.eq_11, exS.eq_12, exS.eq_13, evE.eq_1, evE.eq_2, evE.eq_3, evE.eq_4, evE.eq_5, evE.eq_6, ev_and, ev_or, evE.eq_9, evE.eq_10, ev_ite, ev_tup, ev_lst, lineF_ok, ev_comp, evE.eq_15, evE.eq_16, evE.eq_17, evE.eq_18, evE.eq_19, evE.eq_20, evE.eq_21, evE.eq_22, evE.eq_23, evE.eq_24, evE.eq_25, evE.eq_26, evE.eq_27, evE.eq_28, evE.eq_29, evE.eq_30, evE.eq_31, evE.eq_32, evE.eq_33, evE.eq_34, Ok_bind, Ok_fin, evEs, evO, evT, evTs, evI.eq_1, ev_rng1, ev_rng2, evI.eq_4, ev_zip, evC, startE, wipe, lenTs,ht2, items_hours]
    exact k2
  · simp -implicitDefEqProofs [ev_nil, ev_seq, exS.eq_1, exS.eq_2, exS.eq_3, exS.eq_4, exS.eq_5, ev_ife, ev_loop, ev_whil, exS.eq_9, exS.eq_10, exS.eq_11, exS.eq_12, exS.eq_13, evE.eq_1, evE.eq_2, evE.eq_3, evE.eq_4, evE.eq_5, evE.eq_6, ev_and, ev_or, evE.eq_9, evE.eq_10, ev_ite, ev_tup, ev_lst, lineF_ok, ev_comp, evE.eq_15, evE.eq_16, evE.eq_17, evE.eq_18, evE.eq_19, evE.eq_20, evE.eq_21, evE.eq_22, evE.eq_23, evE.eq_24, evE.eq_25, evE.eq_26, evE.eq_27, evE.eq_28, evE.eq_29, evE.eq_30, evE.eq_31, evE.eq_32, evE.eq_33, evE.eq_34, Ok_bind, Ok_fin, evEs, evO, evT, evTs, evI.eq_1, ev_rng1, ev_rng2, evI.eq_4, ev_zip, evC, startE, wipe, lenTs,items_hours] at k2
    simp -implicitDefEqProofs [ev_nil, ev_seq, exS.eq_1, exS.eq_2, exS.eq_3, exS.eq_4, exS.eq_5, ev_ife, ev_loop, ev_whil, exS.eq_9, exS.eq_10, exS.eq_11, exS.eq_12, exS.eq_13, evE.eq_1, evE.eq_2, evE.eq_3, evE.eq_4, evE.eq_5, evE.eq_6, ev_and, ev_or, evE.eq_9, evE.eq_10, ev_ite, ev_tup, ev_lst, lineF_ok, ev_comp, evE.eq_15, evE.eq_16, evE.eq_17, evE.eq_18, evE.eq_19, evE.eq_20, evE.eq_21, evE.eq_22, evE.eq_23, evE.eq_24, evE.eq_25, evE.eq_26, evE.eq_27, evE.eq_28, evE.eq_29, evE.eq_30, evE.eq_31, evE.eq_32, evE.eq_33, evE.eq_34, Ok_bind, Ok_fin, evEs, evO, evT, evTs, evI.eq_1, ev_rng1, ev_rng2, evI.eq_4, ev_zip, evC, startE, wipe, lenTs,ht2, items_hours]
    exact k2
end K18

set_option linter.all false
set_option autoImplicit false
set_option maxRecDepth 100000
set_option maxHeartbeats 1000000
namespace K18
open PySem GW
variable {k : Nat} {M : Mem} {hs : List (Int × Int)} {t f : Int}
theorem ne_nil {n : Nat} (hn : n ≤ 40) {xs : List D} (h : dataL n xs = true) : cmpD .ne (.lst xs) (.lst []) = some (!xs.isEmpty) := by
  have h2 : data 60 (.lst xs) = true := by simp only [data]; exact dataL_iff.mpr fun d hd => data_mono (dataL_iff.mp h d hd) (by omega)
  have h3 : data 60 (.lst []) = true := rfl
  have e : eqB (.lst xs) (.lst []) = xs.isEmpty := by cases xs <;> simp [eqB, eqL]
  have e1 : cmpD .ne (.lst xs) (.lst []) = (eqD (.lst xs) (.lst [])).map not := by simp only [cmpD]
  rw [e1, eqD, h2, h3, e]; rfl
theorem filter_isEmpty {α : Type} (p : α → Bool) : ∀ xs : List α, (xs.filter p).isEmpty = xs.all fun x => !p x
  | [] => rfl
  | x :: xs => by
    rw [List.filter_cons, List.all_cons, ← filter_isEmpty p xs]
    cases p x <;> rfl
theorem rngD_range (n : Nat) : rngD 0 n = (List.range n).map fun i : Nat => .int (i : Int) := by
  have key : ∀ (n a : Nat), rngD (a : Int) n = (List.range' a n).map fun i : Nat => .int (i : Int) := by
    intro n
    induction n with
    | zero => intro a; rfl
    | succ n ih =>
      intro a
      rw [rngD, List.range'_succ, List.map_cons]
      have := ih (a + 1)
      rw [show ((a + 1 : Nat) : Int) = (a : Int) + 1 by omega] at this
      rw [this]
  have := key n 0
  rw [List.range_eq_range']
  exact this
/-- the member at a place -/
def gI (vs : List Int) (i : Nat) : Int := List.getD vs i 0
theorem cost_range (t : Int) : ∀ (hs : List (Int × Int)) (vs : List Int) (p : Int), vs.length = hs.length →
    ((List.range hs.length).map fun i => sel (gd hs i) (gI vs i) + if gI (p :: vs) i = gI vs i then 0 else t).sum = cost t p hs vs
  | [], vs, p, h => by
    have : vs = [] := List.eq_nil_of_length_eq_zero h
    subst this
    simp [cost]
  | h :: hs, [], p, hl => by simp at hl
  | h :: hs, v :: vs, p, hl => by
    have ih := cost_range t hs vs v (by simpa using hl)
    rw [List.length_cons, List.range_succ_eq_map, List.map_cons, List.sum_cons, List.map_map]
    simp only [cost, stepC]
    rw [← ih]
    congr 1
theorem len_ne (xs : List D) (n : Nat) : cmpD .ne (.int xs.length) (.int n) = some (!((xs.length : Int) == n)) := rfl
theorem items_t (d : D) (h : d = toldD hs t f) : itemsT d = some [hoursD hs, .int t, .int f] := by subst h; rfl
theorem shaded_call (h : OkT hs t f) {v : D} (hv : data 20 v = true) : callF P (k+1) 43 [toldD hs t f, v] M = .ok (.int (costD hs t f v)) M := by
  rw [call_run ⟨2, 8, c43⟩]
  unfold c43
  have hf := flat_data hv
  have hl := h.l1
  have ht := items_t (hs := hs) (t := t) (f := f) _ rfl
  cases v <;> first | (cases hf; done) | (simp -implicitDefEqProofs [ev_nil, ev_seq, exS.eq_1, exS.eq_2, exS.eq_3, exS.eq_4, exS.eq_5, ev_ife, ev_loop, ev_whil, exS.eq_9, exS.eq_10, exS.eq_11, exS.eq_12, exS.eq_13, evE.eq_1, evE.eq_2, evE.eq_3, evE.eq_4, evE.eq_5, evE.eq_6, ev_and, ev_or, evE.eq_9, evE.eq_10, ev_ite, ev_tup, ev_lst, lineF_ok, ev_comp, evE.eq_15, evE.eq_16, evE.eq_17, evE.eq_18, evE.eq_19, evE.eq_20, evE.eq_21, evE.eq_22, evE.eq_23, evE.eq_24, evE.eq_25, evE.eq_26, evE.eq_27, evE.eq_28, evE.eq_29, evE.eq_30, evE.eq_31, evE.eq_32, evE.eq_33, evE.eq_34, Ok_bind, Ok_fin, evEs, evO, evT, evTs, evI.eq_1, ev_rng1, ev_rng2, evI.eq_4, ev_zip, evC, startE, wipe, lenTs,ht, isAny, isTy, okTy, costD, areNums]; done) | skip
  rename_i xs
  simp -implicitDefEqProofs [ev_nil, ev_seq, exS.eq_1, exS.eq_2, exS.eq_3, exS.eq_4, exS.eq_5, ev_ife, ev_loop, ev_whil, exS.eq_9, exS.eq_10, exS.eq_11, exS.eq_12, exS.eq_13, evE.eq_1, evE.eq_2, evE.eq_3, evE.eq_4, evE.eq_5, evE.eq_6, ev_and, ev_or, evE.eq_9, evE.eq_10, ev_ite, ev_tup, ev_lst, lineF_ok, ev_comp, evE.eq_15, evE.eq_16, evE.eq_17, evE.eq_18, evE.eq_19, evE.eq_20, evE.eq_21, evE.eq_22, evE.eq_23, evE.eq_24, evE.eq_25, evE.eq_26, evE.eq_27, evE.eq_28, evE.eq_29, evE.eq_30, evE.eq_31, evE.eq_32, evE.eq_33, evE.eq_34, Ok_bind, Ok_fin, evEs, evO, evT, evTs, evI.eq_1, ev_rng1, ev_rng2, evI.eq_4, ev_zip, evC, startE, wipe, lenTs,ht, isAny, isTy, okTy, len_hours]
  by_cases hlen : xs.length = hs.length
  case neg =>
    have hb : ((xs.length : Int) == hs.length) = false := by rw [beq_eq_false_iff_ne]; omega
    simp -implicitDefEqProofs [ev_nil, ev_seq, exS.eq_1, exS.eq_2, exS.eq_3, exS.eq_4, exS.eq_5, ev_ife, ev_loop, ev_whil, exS.eq_9, exS.eq_10, exS.eq_11, exS.eq_12, exS.eq_13, evE.eq_1, evE.eq_2, evE.eq_3, evE.eq_4, evE.eq_5, evE.eq_6, ev_and, ev_or, evE.eq_9, evE.eq_10, ev_ite, ev_tup, ev_lst, lineF_ok, ev_comp, evE.eq_15, evE.eq_16, evE.eq_17, evE.eq_18, evE.eq_19, evE.eq_20, evE.eq_21, evE.eq_22, evE.eq_23, evE.eq_24, evE.eq_25, evE.eq_26, evE.eq_27, evE.eq_28, evE.eq_29, evE.eq_30, evE.eq_31, evE.eq_32, evE.eq_33, evE.eq_34, Ok_bind, Ok_fin, evEs, evO, evT, evTs, evI.eq_1, ev_rng1, ev_rng2, evI.eq_4, ev_zip, evC, startE, wipe, lenTs,hb, hlen, costD, areNums]
  have hdl : dataL 19 xs = true := by simpa only [data] using hv
  have hlf : ∀ r : Out D, lineF xs r = r := lineF_ok (by omega)
  have hcomp : compL (itemF P (callF P k) [6] (.name 6) (.yes (.or (.not (.isi (.var 6) [.int])) (.or (.isi (.var 6) [.bool]) (.not (.cmp2 .le .le (.lit (.int 0)) (.var 6) (.lit (.int 1))))))) (.var 6) [some (toldD hs t f), some (.tup xs), none, some (hoursD hs), some (.int t), some (.int f), none, none]) xs M = .ok (xs.filter fun x => !within x 0 1) M := by
    refine compL_filter fun x hx => ?_
    have hx2 := flat_data (dataL_iff.mp hdl x hx)
    cases x <;> first | (cases hx2; done) | (simp -implicitDefEqProofs [ev_nil, ev_seq, exS.eq_1, exS.eq_2, exS.eq_3, exS.eq_4, exS.eq_5, ev_ife, ev_loop, ev_whil, exS.eq_9, exS.eq_10, exS.eq_11, exS.eq_12, exS.eq_13, evE.eq_1, evE.eq_2, evE.eq_3, evE.eq_4, evE.eq_5, evE.eq_6, ev_and, ev_or, evE.eq_9, evE.eq_10, ev_ite, ev_tup, ev_lst, lineF_ok, ev_comp, evE.eq_15, evE.eq_16, evE.eq_17, evE.eq_18, evE.eq_19, evE.eq_20, evE.eq_21, evE.eq_22, evE.eq_23, evE.eq_24, evE.eq_25, evE.eq_26, evE.eq_27, evE.eq_28, evE.eq_29, evE.eq_30, evE.eq_31, evE.eq_32, evE.eq_33, evE.eq_34, Ok_bind, Ok_fin, evEs, evO, evT, evTs, evI.eq_1, ev_rng1, ev_rng2, evI.eq_4, ev_zip, evC, startE, wipe, lenTs,itemF_of, isAny, isTy, okTy, within, calm_ok]; done) | skip
    rename_i i
    by_cases h0 : (0 : Int) ≤ i
    · by_cases h1 : i ≤ 1
      · simp -implicitDefEqProofs [ev_nil, ev_seq, exS.eq_1, exS.eq_2, exS.eq_3, exS.eq_4, exS.eq_5, ev_ife, ev_loop, ev_whil, exS.eq_9, exS.eq_10, exS.eq_11, exS.eq_12, exS.eq_13, evE.eq_1, evE.eq_2, evE.eq_3, evE.eq_4, evE.eq_5, evE.eq_6, ev_and, ev_or, evE.eq_9, evE.eq_10, ev_ite, ev_tup, ev_lst, lineF_ok, ev_comp, evE.eq_15, evE.eq_16, evE.eq_17, evE.eq_18, evE.eq_19, evE.eq_20, evE.eq_21, evE.eq_22, evE.eq_23, evE.eq_24, evE.eq_25, evE.eq_26, evE.eq_27, evE.eq_28, evE.eq_29, evE.eq_30, evE.eq_31, evE.eq_32, evE.eq_33, evE.eq_34, Ok_bind, Ok_fin, evEs, evO, evT, evTs, evI.eq_1, ev_rng1, ev_rng2, evI.eq_4, ev_zip, evC, startE, wipe, lenTs,itemF_of, isAny, isTy, okTy, within, calm_ok, h0, h1]
      · simp -implicitDefEqProofs [ev_nil, ev_seq, exS.eq_1, exS.eq_2, exS.eq_3, exS.eq_4, exS.eq_5, ev_ife, ev_loop, ev_whil, exS.eq_9, exS.eq_10, exS.eq_11, exS.eq_12, exS.eq_13, evE.eq_1, evE.eq_2, evE.eq_3, evE.eq_4, evE.eq_5, evE.eq_6, ev_and, ev_or, evE.eq_9, evE.eq_10, ev_ite, ev_tup, ev_lst, lineF_ok, ev_comp, evE.eq_15, evE.eq_16, evE.eq_17, evE.eq_18, evE.eq_19, evE.eq_20, evE.eq_21, evE.eq_22, evE.eq_23, evE.eq_24, evE.eq_25, evE.eq_26, evE.eq_27, evE.eq_28, evE.eq_29, evE.eq_30, evE.eq_31, evE.eq_32, evE.eq_33, evE.eq_34, Ok_bind, Ok_fin, evEs, evO, evT, evTs, evI.eq_1, ev_rng1, ev_rng2, evI.eq_4, ev_zip, evC, startE, wipe, lenTs,itemF_of, isAny, isTy, okTy, within, calm_ok, h0, h1]
    · simp -implicitDefEqProofs [ev_nil, ev_seq, exS.eq_1, exS.eq_2, exS.eq_3, exS.eq_4, exS.eq_5, ev_ife, ev_loop, ev_whil, exS.eq_9, exS.eq_10, exS.eq_11, exS.eq_12, exS.eq_13, evE.eq_1, evE.eq_2, evE.eq_3, evE.eq_4, evE.eq_5, evE.eq_6, ev_and, ev_or, evE.eq_9, evE.eq_10, ev_ite, ev_tup, ev_lst, lineF_ok, ev_comp, evE.eq_15, evE.eq_16, evE.eq_17, evE.eq_18, evE.eq_19, evE.eq_20, evE.eq_21, evE.eq_22, evE.eq_23, evE.eq_24, evE.eq_25, evE.eq_26, evE.eq_27, evE.eq_28, evE.eq_29, evE.eq_30, evE.eq_31, evE.eq_32, evE.eq_33, evE.eq_34, Ok_bind, Ok_fin, evEs, evO, evT, evTs, evI.eq_1, ev_rng1, ev_rng2, evI.eq_4, ev_zip, evC, startE, wipe, lenTs,itemF_of, isAny, isTy, okTy, within, calm_ok, h0]
  have hfl : dataL 19 (xs.filter fun x => !within x 0 1) = true := dataL_iff.mpr fun d hd => dataL_iff.mp hdl d (List.mem_filter.mp hd).1
  have hne := ne_nil (by omega) hfl
  rw [filter_isEmpty] at hne
  simp only [Bool.not_not] at hne
  have hA : areNums (.tup xs) hs.length 0 1 = xs.all fun x => within x 0 1 := by simp [areNums, hlen]
  simp -implicitDefEqProofs [ev_nil, ev_seq, exS.eq_1, exS.eq_2, exS.eq_3, exS.eq_4, exS.eq_5, ev_ife, ev_loop, ev_whil, exS.eq_9, exS.eq_10, exS.eq_11, exS.eq_12, exS.eq_13, evE.eq_1, evE.eq_2, evE.eq_3, evE.eq_4, evE.eq_5, evE.eq_6, ev_and, ev_or, evE.eq_9, evE.eq_10, ev_ite, ev_tup, ev_lst, lineF_ok, ev_comp, evE.eq_15, evE.eq_16, evE.eq_17, evE.eq_18, evE.eq_19, evE.eq_20, evE.eq_21, evE.eq_22, evE.eq_23, evE.eq_24, evE.eq_25, evE.eq_26, evE.eq_27, evE.eq_28, evE.eq_29, evE.eq_30, evE.eq_31, evE.eq_32, evE.eq_33, evE.eq_34, Ok_bind, Ok_fin, evEs, evO, evT, evTs, evI.eq_1, ev_rng1, ev_rng2, evI.eq_4, ev_zip, evC, startE, wipe, lenTs,hlen, hlf, hcomp, hne]
  cases hall : (xs.all fun x => within x 0 1) with
  | false =>
    simp -implicitDefEqProofs [ev_nil, ev_seq, exS.eq_1, exS.eq_2, exS.eq_3, exS.eq_4, exS.eq_5, ev_ife, ev_loop, ev_whil, exS.eq_9, exS.eq_10, exS.eq_11, exS.eq_12, exS.eq_13, evE.eq_1, evE.eq_2, evE.eq_3, evE.eq_4, evE.eq_5, evE.eq_6, ev_and, ev_or, evE.eq_9, evE.eq_10, ev_ite, ev_tup, ev_lst, lineF_ok, ev_comp, evE.eq_15, evE.eq_16, evE.eq_17, evE.eq_18, evE.eq_19, evE.eq_20, evE.eq_21, evE.eq_22, evE.eq_23, evE.eq_24, evE.eq_25, evE.eq_26, evE.eq_27, evE.eq_28, evE.eq_29, evE.eq_30, evE.eq_31, evE.eq_32, evE.eq_33, evE.eq_34, Ok_bind, Ok_fin, evEs, evO, evT, evTs, evI.eq_1, ev_rng1, ev_rng2, evI.eq_4, ev_zip, evC, startE, wipe, lenTs,hall, costD, hA]
  | true =>
    obtain ⟨vs, hv2, hvl, h01⟩ := areNums_01 (hA.trans hall)
    rw [hv2]
    rw [costD_vD hvl h01, ← cost_range t hs vs f hvl]
    have hc := cat_tup (xs := [.int f]) (ys := vs.map .int) (by rw [List.length_map, List.length_singleton]; omega)
    have hrr : ∀ M, rd M (vD vs) = vD vs := fun M => rfl
    replace hc : binD .add (.tup [.int f]) (vD vs) = some (.tup (.int f :: vs.map .int)) := hc
    have hrn := rngF_nat (n := hs.length) (by omega) M
    have hlf2 : ∀ r : Out D, lineF (rngD 0 hs.length) r = r := lineF_ok (by rw [rngD_length]; omega)
    have hc2 : ∀ R : D, R = .tup (.int f :: vs.map .int) → compL (itemF P (callF P k) [7] (.name 7) .no (.bin .add (.ix (.ix (.var 3) (.var 7)) (.ix (.var 1) (.var 7))) (.ite (.cmp .ne (.ix (.var 2) (.var 7)) (.ix (.var 2) (.bin .add (.var 7) (.lit (.int 1))))) (.var 4) (.lit (.int 0)))) [some (toldD hs t f), some (vD vs), some R, some (hoursD hs), some (.int t), some (.int f), none, none]) (rngD 0 hs.length) M = .ok ((List.range hs.length).map fun i : Nat => .int (sel (gd hs i) (gI vs i) + if gI (f :: vs) i = gI vs i then 0 else t)) M := by
      intro R hR
      rw [rngD_range]
      refine compL_on fun i hi => ?_
      have hi : i < hs.length := by simpa using hi
      have e1 := ix_hours hi
      rw [gd_get] at e1
      have e2 := vals_num (vs := vs) (i := i) (by omega)
      have e3 : ixD R (.int i) = some (.int (gI (f :: vs) i)) := by
        have := vals_num (vs := f :: vs) (i := i) (by rw [List.length_cons]; omega)
        rw [hR]
        rw [gI, List.getD_eq_getElem?_getD, List.getElem?_eq_getElem (by rw [List.length_cons]; omega)]
        exact this
      have e4 : ixD R (.int ((i : Int) + 1)) = some (.int (gI vs i)) := by
        have := vals_num (vs := f :: vs) (i := i + 1) (by rw [List.length_cons]; omega)
        rw [hR]
        rw [gI, List.getD_eq_getElem?_getD, List.getElem?_eq_getElem (by omega)]
        exact this
      have hv0 : vs[i] = gI vs i := by rw [gI, List.getD_eq_getElem?_getD, List.getElem?_eq_getElem (by omega)]; rfl
      have h01i := h01 vs[i] (List.getElem_mem _)
      rw [hv0] at e2 h01i
      have hRR : ∀ M, rd M R = R := fun M => by rw [hR]; rfl
      generalize gI (f :: vs) i = u at e3 ⊢
      generalize gI vs i = w at e2 e4 h01i ⊢
      by_cases huw : u = w
      · subst huw
        simp -implicitDefEqProofs [ev_nil, ev_seq, exS.eq_1, exS.eq_2, exS.eq_3, exS.eq_4, exS.eq_5, ev_ife, ev_loop, ev_whil, exS.eq_9, exS.eq_10, exS.eq_11, exS.eq_12, exS.eq_13, evE.eq_1, evE.eq_2, evE.eq_3, evE.eq_4, evE.eq_5, evE.eq_6, ev_and, ev_or, evE.eq_9, evE.eq_10, ev_ite, ev_tup, ev_lst, lineF_ok, ev_comp, evE.eq_15, evE.eq_16, evE.eq_17, evE.eq_18, evE.eq_19, evE.eq_20, evE.eq_21, evE.eq_22, evE.eq_23, evE.eq_24, evE.eq_25, evE.eq_26, evE.eq_27, evE.eq_28, evE.eq_29, evE.eq_30, evE.eq_31, evE.eq_32, evE.eq_33, evE.eq_34, Ok_bind, Ok_fin, evEs, evO, evT, evTs, evI.eq_1, ev_rng1, ev_rng2, evI.eq_4, ev_zip, evC, startE, wipe, lenTs,itemF_of, e1, e2, e3, e4, hRR, hrr, ix_hr _ h01i, calm_ok]
      · have hb : (u == w) = false := by rw [beq_eq_false_iff_ne]; exact huw
        simp -implicitDefEqProofs [ev_nil, ev_seq, exS.eq_1, exS.eq_2, exS.eq_3, exS.eq_4, exS.eq_5, ev_ife, ev_loop, ev_whil, exS.eq_9, exS.eq_10, exS.eq_11, exS.eq_12, exS.eq_13, evE.eq_1, evE.eq_2, evE.eq_3, evE.eq_4, evE.eq_5, evE.eq_6, ev_and, ev_or, evE.eq_9, evE.eq_10, ev_ite, ev_tup, ev_lst, lineF_ok, ev_comp, evE.eq_15, evE.eq_16, evE.eq_17, evE.eq_18, evE.eq_19, evE.eq_20, evE.eq_21, evE.eq_22, evE.eq_23, evE.eq_24, evE.eq_25, evE.eq_26, evE.eq_27, evE.eq_28, evE.eq_29, evE.eq_30, evE.eq_31, evE.eq_32, evE.eq_33, evE.eq_34, Ok_bind, Ok_fin, evEs, evO, evT, evTs, evI.eq_1, ev_rng1, ev_rng2, evI.eq_4, ev_zip, evC, startE, wipe, lenTs,itemF_of, e1, e2, e3, e4, hRR, hrr, ix_hr _ h01i, calm_ok, hb, huw]
    have hs1 := sum_map (fun i : Nat => sel (gd hs i) (gI vs i) + if gI (f :: vs) i = gI vs i then 0 else t) (List.range hs.length)
    have hc3 := hc2 _ rfl
    simp -implicitDefEqProofs [ev_nil, ev_seq, exS.eq_1, exS.eq_2, exS.eq_3, exS.eq_4, exS.eq_5, ev_ife, ev_loop, ev_whil, exS.eq_9, exS.eq_10, exS.eq_11, exS.eq_12, exS.eq_13, evE.eq_1, evE.eq_2, evE.eq_3, evE.eq_4, evE.eq_5, evE.eq_6, ev_and, ev_or, evE.eq_9, evE.eq_10, ev_ite, ev_tup, ev_lst, lineF_ok, ev_comp, evE.eq_15, evE.eq_16, evE.eq_17, evE.eq_18, evE.eq_19, evE.eq_20, evE.eq_21, evE.eq_22, evE.eq_23, evE.eq_24, evE.eq_25, evE.eq_26, evE.eq_27, evE.eq_28, evE.eq_29, evE.eq_30, evE.eq_31, evE.eq_32, evE.eq_33, evE.eq_34, Ok_bind, Ok_fin, evEs, evO, evT, evTs, evI.eq_1, ev_rng1, ev_rng2, evI.eq_4, ev_zip, evC, startE, wipe, lenTs,hrr, hc, len_hours, hrn, hlf2]
    simp -implicitDefEqProofs [ev_nil, ev_seq, exS.eq_1, exS.eq_2, exS.eq_3, exS.eq_4, exS.eq_5, ev_ife, ev_loop, ev_whil, exS.eq_9, exS.eq_10, exS.eq_11, exS.eq_12, exS.eq_13, evE.eq_1, evE.eq_2, evE.eq_3, evE.eq_4, evE.eq_5, evE.eq_6, ev_and, ev_or, evE.eq_9, evE.eq_10, ev_ite, ev_tup, ev_lst, lineF_ok, ev_comp, evE.eq_15, evE.eq_16, evE.eq_17, evE.eq_18, evE.eq_19, evE.eq_20, evE.eq_21, evE.eq_22, evE.eq_23, evE.eq_24, evE.eq_25, evE.eq_26, evE.eq_27, evE.eq_28, evE.eq_29, evE.eq_30, evE.eq_31, evE.eq_32, evE.eq_33, evE.eq_34, Ok_bind, Ok_fin, evEs, evO, evT, evTs, evI.eq_1, ev_rng1, ev_rng2, evI.eq_4, ev_zip, evC, startE, wipe, lenTs,hc3, hs1]
end K18

set_option linter.all false
set_option autoImplicit false
set_option maxRecDepth 100000
set_option maxHeartbeats 1000000
namespace K18
open PySem GW
variable {k : Nat} {M : Mem} {hs : List (Int × Int)} {t f : Int}
def prD (p : D × D) : D := .tup [p.1, p.2]
def flatP : List (D × D) → List D
  | [] => []
  | p :: ps => p.1 :: p.2 :: flatP ps
theorem flatP_app : ∀ ps qs, flatP (ps ++ qs) = flatP ps ++ flatP qs
  | [], qs => rfl
  | p :: ps, qs => by simp only [List.cons_append, flatP, flatP_app ps qs]
theorem flatP_len : ∀ ps, (flatP ps).length = 2 * ps.length
  | [] => rfl
  | p :: ps => by simp only [flatP, List.length_cons, flatP_len ps]; omega
theorem flat_call {ps : List (D × D)} (hp : ps.length ≤ 100) : callF P (k+1) 44 [.tup (ps.map prD)] M = .ok (.lst (flatP ps)) M := by
  rw [call_run ⟨1, 3, c44⟩]
  unfold c44
  refine Ok_eq ?_
  simp -implicitDefEqProofs [ev_nil, ev_seq, exS.eq_1, exS.eq_2, exS.eq_3, exS.eq_4, exS.eq_5, ev_ife, ev_loop, ev_whil, exS.eq_9, exS.eq_10, exS.eq_11, exS.eq_12, exS.eq_13, evE.eq_1, evE.eq_2, evE.eq_3, evE.eq_4, evE.eq_5, evE.eq_6, ev_and, ev_or, evE.eq_9, evE.eq_10, ev_ite, ev_tup, ev_lst, lineF_ok, ev_comp, evE.eq_15, evE.eq_16, evE.eq_17, evE.eq_18, evE.eq_19, evE.eq_20, evE.eq_21, evE.eq_22, evE.eq_23, evE.eq_24, evE.eq_25, evE.eq_26, evE.eq_27, evE.eq_28, evE.eq_29, evE.eq_30, evE.eq_31, evE.eq_32, evE.eq_33, evE.eq_34, Ok_bind, Ok_fin, evEs, evO, evT, evTs, evI.eq_1, ev_rng1, ev_rng2, evI.eq_4, ev_zip, evC, startE, wipe, lenTs]
  refine forL_ok (fun n ρ M' => M' = M ∧ ∃ q2 : Option D, ρ = [some (.tup (ps.map prD)), some (.lst (flatP (ps.take n))), q2]) _ 0 _ _ ?_ ?_ ?_
  · exact ⟨rfl, none, by rw [List.take_zero]; rfl⟩
  · rintro i d ρ Z hd ⟨rfl, q2, rfl⟩
    rw [List.getElem?_map] at hd
    obtain ⟨p, hd1, rfl⟩ := Option.map_eq_some_iff.mp hd
    rw [Nat.zero_add]
    have e : ps.take (i + 1) = ps.take i ++ [p] := by
      rw [List.take_add_one, hd1]; rfl
    have hc := cat_lst (xs := flatP (ps.take i)) (ys := [p.1, p.2]) (by rw [flatP_len, List.length_take]; simp only [List.length_cons, List.length_nil]; omega)
    rw [e, flatP_app]
    unfold bodyF prD
    simp -implicitDefEqProofs [ev_nil, ev_seq, exS.eq_1, exS.eq_2, exS.eq_3, exS.eq_4, exS.eq_5, ev_ife, ev_loop, ev_whil, exS.eq_9, exS.eq_10, exS.eq_11, exS.eq_12, exS.eq_13, evE.eq_1, evE.eq_2, evE.eq_3, evE.eq_4, evE.eq_5, evE.eq_6, ev_and, ev_or, evE.eq_9, evE.eq_10, ev_ite, ev_tup, ev_lst, lineF_ok, ev_comp, evE.eq_15, evE.eq_16, evE.eq_17, evE.eq_18, evE.eq_19, evE.eq_20, evE.eq_21, evE.eq_22, evE.eq_23, evE.eq_24, evE.eq_25, evE.eq_26, evE.eq_27, evE.eq_28, evE.eq_29, evE.eq_30, evE.eq_31, evE.eq_32, evE.eq_33, evE.eq_34, Ok_bind, Ok_fin, evEs, evO, evT, evTs, evI.eq_1, ev_rng1, ev_rng2, evI.eq_4, ev_zip, evC, startE, wipe, lenTs,hc, flatP]
  · rintro ρ Z ⟨rfl, q2, rfl⟩
    rw [List.length_map, Nat.zero_add, List.take_length]
    simp -implicitDefEqProofs [ev_nil, ev_seq, exS.eq_1, exS.eq_2, exS.eq_3, exS.eq_4, exS.eq_5, ev_ife, ev_loop, ev_whil, exS.eq_9, exS.eq_10, exS.eq_11, exS.eq_12, exS.eq_13, evE.eq_1, evE.eq_2, evE.eq_3, evE.eq_4, evE.eq_5, evE.eq_6, ev_and, ev_or, evE.eq_9, evE.eq_10, ev_ite, ev_tup, ev_lst, lineF_ok, ev_comp, evE.eq_15, evE.eq_16, evE.eq_17, evE.eq_18, evE.eq_19, evE.eq_20, evE.eq_21, evE.eq_22, evE.eq_23, evE.eq_24, evE.eq_25, evE.eq_26, evE.eq_27, evE.eq_28, evE.eq_29, evE.eq_30, evE.eq_31, evE.eq_32, evE.eq_33, evE.eq_34, Ok_bind, Ok_fin, evEs, evO, evT, evTs, evI.eq_1, ev_rng1, ev_rng2, evI.eq_4, ev_zip, evC, startE, wipe, lenTs]
theorem isRow2 {d : D} (h : isRow d 2 = true) : ∃ p, d = prD p := by
  cases d <;> simp only [isRow] at h <;> try (cases h; done)
  rename_i xs
  rw [beq_iff_eq] at h
  match xs, h with
  | [x, y], _ => exact ⟨(x, y), rfl⟩
  | [], h => simp at h
  | [x], h => simp at h
  | x :: y :: z :: r, h => simp at h; omega
theorem isRow2_all : ∀ {xs : List D}, (xs.all fun x => isRow x 2) = true → ∃ ps : List (D × D), xs = ps.map prD
  | [], _ => ⟨[], rfl⟩
  | x :: xs, h => by
    simp only [List.all_cons, Bool.and_eq_true] at h
    obtain ⟨p, rfl⟩ := isRow2 h.1
    obtain ⟨ps, rfl⟩ := isRow2_all h.2
    exact ⟨p :: ps, rfl⟩
theorem areNums_pr (p : D × D) : areNums (prD p) 2 0 9999 = (within p.1 0 9999 && within p.2 0 9999) := by
  simp [areNums, prD]
theorem nums_flat : ∀ ps : List (D × D), ((ps.map prD).all fun x => areNums x 2 0 9999) = (flatP ps).all fun x => within x 0 9999
  | [] => rfl
  | p :: ps => by rw [List.map_cons, List.all_cons, areNums_pr, nums_flat ps, flatP, List.all_cons, List.all_cons, Bool.and_assoc]
theorem areNums_isRow {x : D} {a b : Int} (h : areNums x 2 a b = true) : isRow x 2 = true := by
  obtain ⟨p, rfl⟩ := areNums_2 h
  rfl
theorem fm_isEmpty (p : D → Bool) : ∀ xs : List D, (xs.filterMap fun x => if p x then none else some (D.int 1)).isEmpty = xs.all p
  | [] => rfl
  | x :: xs => by
    rw [List.filterMap_cons, List.all_cons, ← fm_isEmpty p xs]
    cases p x <;> rfl
theorem fm_data (p : D → Bool) : ∀ xs : List D, dataL 19 (xs.filterMap fun x => if p x then none else some (D.int 1)) = true
  | [] => rfl
  | x :: xs => by
    rw [List.filterMap_cons]
    cases p x
    · simp only [Bool.false_eq_true, if_false, dataL, fm_data p xs, data, Bool.and_self]
    · simp only [if_true, fm_data p xs]
def z45 : CSs := (.cons (.ife (.cmp .ne (.comp false [9] (.name 9) (.seq (.lst false (.cons (.lit (.int 0)) (.cons (.lit (.int 1)) .nil)))) (.yes (.cmp .gt (.ix (.ix (.var 1) (.var 2)) (.var 6)) (.bin .add (.bin .add (.ix (.ix (.var 3) (.var 2)) (.var 9)) (.ite (.cmp .ne (.var 9) (.var 6)) (.var 4) (.lit (.int 0)))) (.ix (.ix (.var 1) (.bin .add (.var 2) (.lit (.int 1)))) (.var 9))))) (.var 9)) (.lst false .nil)) (.cons (.ret (.lit (.bl false))) .nil) .nil) .nil)
theorem z45_call {ws : List (Int × Int)} (hw : ws.length = hs.length + 1) {i : Nat} (hi : i < hs.length) {p : Int} (hp : p = 0 ∨ p = 1) (T : D) (a5 a6 a7 a8 a9 : Option D) :
    bodyF P (callF P k) (.name 6) z45 (.int p) [some T, some (hoursD ws), some (.int i), some (hoursD hs), some (.int t), a5, a6, a7, a8, a9] M = .ok (if good2 t hs ws i p then .nx [some T, some (hoursD ws), some (.int i), some (hoursD hs), some (.int t), a5, some (.int p), a7, a8, a9] else .rt (.bl false)) M := by
  have e1 := ix_hours (hs := ws) (i := i) (by omega)
  have e2 := ix_hours (hs := ws) (i := i + 1) (by omega)
  rw [gd_get] at e1 e2
  rw [show ((i + 1 : Nat) : Int) = (i : Int) + 1 by omega] at e2
  have e3 := ix_hours hi
  rw [gd_get] at e3
  have item : ∀ n : Int, n = 0 ∨ n = 1 → itemF P (callF P k) [9] (.name 9) (.yes (.cmp .gt (.ix (.ix (.var 1) (.var 2)) (.var 6)) (.bin .add (.bin .add (.ix (.ix (.var 3) (.var 2)) (.var 9)) (.ite (.cmp .ne (.var 9) (.var 6)) (.var 4) (.lit (.int 0)))) (.ix (.ix (.var 1) (.bin .add (.var 2) (.lit (.int 1)))) (.var 9))))) (.var 9) [some T, some (hoursD ws), some (.int i), some (hoursD hs), some (.int t), a5, some (.int p), a7, a8, a9] (.int n) M =
      .ok (if goodAt t hs ws i p n then none else some (.int n)) M := by
    intro n hn
    have key : goodAt t hs ws i p n = !decide (stepC t (gd hs i) p n + sel (gd ws (i + 1)) n < sel (gd ws i) p) := by
      unfold goodAt
      rw [Bool.eq_iff_iff]
      simp
    rw [key]
    by_cases hpn : n = p
    · subst hpn
      simp -implicitDefEqProofs [ev_nil, ev_seq, exS.eq_1, exS.eq_2, exS.eq_3, exS.eq_4, exS.eq_5, ev_ife, ev_loop, ev_whil, exS.eq_9, exS.eq_10, exS.eq_11, exS.eq_12, exS.eq_13, evE.eq_1, evE.eq_2, evE.eq_3, evE.eq_4, evE.eq_5, evE.eq_6, ev_and, ev_or, evE.eq_9, evE.eq_10, ev_ite, ev_tup, ev_lst, lineF_ok, ev_comp, evE.eq_15, evE.eq_16, evE.eq_17, evE.eq_18, evE.eq_19, evE.eq_20, evE.eq_21, evE.eq_22, evE.eq_23, evE.eq_24, evE.eq_25, evE.eq_26, evE.eq_27, evE.eq_28, evE.eq_29, evE.eq_30, evE.eq_31, evE.eq_32, evE.eq_33, evE.eq_34, Ok_bind, Ok_fin, evEs, evO, evT, evTs, evI.eq_1, ev_rng1, ev_rng2, evI.eq_4, ev_zip, evC, startE, wipe, lenTs,itemF_of, e1, e2, e3, ix_hr _ hp]
      have s0 : stepC t (gd hs i) n n = sel (gd hs i) n + 0 := by simp [stepC]
      rw [Int.add_zero] at s0
      rw [s0]
      by_cases hc : sel (gd hs i) n + sel (gd ws (i + 1)) n < sel (gd ws i) n <;> simp -implicitDefEqProofs [ev_nil, ev_seq, exS.eq_1, exS.eq_2, exS.eq_3, exS.eq_4, exS.eq_5, ev_ife, ev_loop, ev_whil, exS.eq_9, exS.eq_10, exS.eq_11, exS.eq_12, exS.eq_13, evE.eq_1, evE.eq_2, evE.eq_3, evE.eq_4, evE.eq_5, evE.eq_6, ev_and, ev_or, evE.eq_9, evE.eq_10, ev_ite, ev_tup, ev_lst, lineF_ok, ev_comp, evE.eq_15, evE.eq_16, evE.eq_17, evE.eq_18, evE.eq_19, evE.eq_20, evE.eq_21, evE.eq_22, evE.eq_23, evE.eq_24, evE.eq_25, evE.eq_26, evE.eq_27, evE.eq_28, evE.eq_29, evE.eq_30, evE.eq_31, evE.eq_32, evE.eq_33, evE.eq_34, Ok_bind, Ok_fin, evEs, evO, evT, evTs, evI.eq_1, ev_rng1, ev_rng2, evI.eq_4, ev_zip, evC, startE, wipe, lenTs,hc, calm_ok]
    · have hb : (n == p) = false := by rw [beq_eq_false_iff_ne]; exact hpn
      simp -implicitDefEqProofs [ev_nil, ev_seq, exS.eq_1, exS.eq_2, exS.eq_3, exS.eq_4, exS.eq_5, ev_ife, ev_loop, ev_whil, exS.eq_9, exS.eq_10, exS.eq_11, exS.eq_12, exS.eq_13, evE.eq_1, evE.eq_2, evE.eq_3, evE.eq_4, evE.eq_5, evE.eq_6, ev_and, ev_or, evE.eq_9, evE.eq_10, ev_ite, ev_tup, ev_lst, lineF_ok, ev_comp, evE.eq_15, evE.eq_16, evE.eq_17, evE.eq_18, evE.eq_19, evE.eq_20, evE.eq_21, evE.eq_22, evE.eq_23, evE.eq_24, evE.eq_25, evE.eq_26, evE.eq_27, evE.eq_28, evE.eq_29, evE.eq_30, evE.eq_31, evE.eq_32, evE.eq_33, evE.eq_34, Ok_bind, Ok_fin, evEs, evO, evT, evTs, evI.eq_1, ev_rng1, ev_rng2, evI.eq_4, ev_zip, evC, startE, wipe, lenTs,itemF_of, e1, e2, e3, ix_hr _ hp, ix_hr _ hn, hb]
      have s0 : stepC t (gd hs i) p n = sel (gd hs i) n + t := by simp [stepC, Ne.symm hpn]
      rw [s0]
      by_cases hc : sel (gd hs i) n + t + sel (gd ws (i + 1)) n < sel (gd ws i) p <;> simp -implicitDefEqProofs [ev_nil, ev_seq, exS.eq_1, exS.eq_2, exS.eq_3, exS.eq_4, exS.eq_5, ev_ife, ev_loop, ev_whil, exS.eq_9, exS.eq_10, exS.eq_11, exS.eq_12, exS.eq_13, evE.eq_1, evE.eq_2, evE.eq_3, evE.eq_4, evE.eq_5, evE.eq_6, ev_and, ev_or, evE.eq_9, evE.eq_10, ev_ite, ev_tup, ev_lst, lineF_ok, ev_comp, evE.eq_15, evE.eq_16, evE.eq_17, evE.eq_18, evE.eq_19, evE.eq_20, evE.eq_21, evE.eq_22, evE.eq_23, evE.eq_24, evE.eq_25, evE.eq_26, evE.eq_27, evE.eq_28, evE.eq_29, evE.eq_30, evE.eq_31, evE.eq_32, evE.eq_33, evE.eq_34, Ok_bind, Ok_fin, evEs, evO, evT, evTs, evI.eq_1, ev_rng1, ev_rng2, evI.eq_4, ev_zip, evC, startE, wipe, lenTs,hc, calm_ok]
  have n1 : cmpD .ne (.lst []) (.lst []) = some false := rfl
  have n2 : ∀ a : Int, cmpD .ne (.lst [.int a]) (.lst []) = some true := fun a => rfl
  have n3 : ∀ a b : Int, cmpD .ne (.lst [.int a, .int b]) (.lst []) = some true := fun a b => rfl
  unfold bodyF z45
  simp -implicitDefEqProofs [ev_nil, ev_seq, exS.eq_1, exS.eq_2, exS.eq_3, exS.eq_4, exS.eq_5, ev_ife, ev_loop, ev_whil, exS.eq_9, exS.eq_10, exS.eq_11, exS.eq_12, exS.eq_13, evE.eq_1, evE.eq_2, evE.eq_3, evE.eq_4, evE.eq_5, evE.eq_6, ev_and, ev_or, evE.eq_9, evE.eq_10, ev_ite, ev_tup, ev_lst, lineF_ok, ev_comp, evE.eq_15, evE.eq_16, evE.eq_17, evE.eq_18, evE.eq_19, evE.eq_20, evE.eq_21, evE.eq_22, evE.eq_23, evE.eq_24, evE.eq_25, evE.eq_26, evE.eq_27, evE.eq_28, evE.eq_29, evE.eq_30, evE.eq_31, evE.eq_32, evE.eq_33, evE.eq_34, Ok_bind, Ok_fin, evEs, evO, evT, evTs, evI.eq_1, ev_rng1, ev_rng2, evI.eq_4, ev_zip, evC, startE, wipe, lenTs,compL, item]
  unfold good2
  cases goodAt t hs ws i p 0 <;> cases goodAt t hs ws i p 1 <;> simp -implicitDefEqProofs [ev_nil, ev_seq, exS.eq_1, exS.eq_2, exS.eq_3, exS.eq_4, exS.eq_5, ev_ife, ev_loop, ev_whil, exS.eq_9, exS.eq_10, exS.eq_11, exS.eq_12, exS.eq_13, evE.eq_1, evE.eq_2, evE.eq_3, evE.eq_4, evE.eq_5, evE.eq_6, ev_and, ev_or, evE.eq_9, evE.eq_10, ev_ite, ev_tup, ev_lst, lineF_ok, ev_comp, evE.eq_15, evE.eq_16, evE.eq_17, evE.eq_18, evE.eq_19, evE.eq_20, evE.eq_21, evE.eq_22, evE.eq_23, evE.eq_24, evE.eq_25, evE.eq_26, evE.eq_27, evE.eq_28, evE.eq_29, evE.eq_30, evE.eq_31, evE.eq_32, evE.eq_33, evE.eq_34, Ok_bind, Ok_fin, evEs, evO, evT, evTs, evI.eq_1, ev_rng1, ev_rng2, evI.eq_4, ev_zip, evC, startE, wipe, lenTs,n1, n2, n3]
theorem h45_call {ws : List (Int × Int)} (hw : ws.length = hs.length + 1) {i : Nat} (hi : i < hs.length) (T : D) (a2 a5 a6 a7 a8 a9 : Option D) :
    ∃ a6', bodyF P (callF P k) (.name 2) (.cons (.loop (.name 6) (.seq (.lst false (.cons (.lit (.int 0)) (.cons (.lit (.int 1)) .nil)))) z45) .nil) (.int i) [some T, some (hoursD ws), a2, some (hoursD hs), some (.int t), a5, a6, a7, a8, a9] M = .ok (if good4 t hs ws i then .nx [some T, some (hoursD ws), some (.int i), some (hoursD hs), some (.int t), a5, a6', a7, a8, a9] else .rt (.bl false)) M := by
  refine ⟨some (.int 1), ?_⟩
  unfold bodyF good4
  simp -implicitDefEqProofs [ev_nil, ev_seq, exS.eq_1, exS.eq_2, exS.eq_3, exS.eq_4, exS.eq_5, ev_ife, ev_loop, ev_whil, exS.eq_9, exS.eq_10, exS.eq_11, exS.eq_12, exS.eq_13, evE.eq_1, evE.eq_2, evE.eq_3, evE.eq_4, evE.eq_5, evE.eq_6, ev_and, ev_or, evE.eq_9, evE.eq_10, ev_ite, ev_tup, ev_lst, lineF_ok, ev_comp, evE.eq_15, evE.eq_16, evE.eq_17, evE.eq_18, evE.eq_19, evE.eq_20, evE.eq_21, evE.eq_22, evE.eq_23, evE.eq_24, evE.eq_25, evE.eq_26, evE.eq_27, evE.eq_28, evE.eq_29, evE.eq_30, evE.eq_31, evE.eq_32, evE.eq_33, evE.eq_34, Ok_bind, Ok_fin, evEs, evO, evT, evTs, evI.eq_1, ev_rng1, ev_rng2, evI.eq_4, ev_zip, evC, startE, wipe, lenTs,forL, z45_call hw hi]
  cases good2 t hs ws i 0
  · simp -implicitDefEqProofs [ev_nil, ev_seq, exS.eq_1, exS.eq_2, exS.eq_3, exS.eq_4, exS.eq_5, ev_ife, ev_loop, ev_whil, exS.eq_9, exS.eq_10, exS.eq_11, exS.eq_12, exS.eq_13, evE.eq_1, evE.eq_2, evE.eq_3, evE.eq_4, evE.eq_5, evE.eq_6, ev_and, ev_or, evE.eq_9, evE.eq_10, ev_ite, ev_tup, ev_lst, lineF_ok, ev_comp, evE.eq_15, evE.eq_16, evE.eq_17, evE.eq_18, evE.eq_19, evE.eq_20, evE.eq_21, evE.eq_22, evE.eq_23, evE.eq_24, evE.eq_25, evE.eq_26, evE.eq_27, evE.eq_28, evE.eq_29, evE.eq_30, evE.eq_31, evE.eq_32, evE.eq_33, evE.eq_34, Ok_bind, Ok_fin, evEs, evO, evT, evTs, evI.eq_1, ev_rng1, ev_rng2, evI.eq_4, ev_zip, evC, startE, wipe, lenTs,forL]
  · simp -implicitDefEqProofs [ev_nil, ev_seq, exS.eq_1, exS.eq_2, exS.eq_3, exS.eq_4, exS.eq_5, ev_ife, ev_loop, ev_whil, exS.eq_9, exS.eq_10, exS.eq_11, exS.eq_12, exS.eq_13, evE.eq_1, evE.eq_2, evE.eq_3, evE.eq_4, evE.eq_5, evE.eq_6, ev_and, ev_or, evE.eq_9, evE.eq_10, ev_ite, ev_tup, ev_lst, lineF_ok, ev_comp, evE.eq_15, evE.eq_16, evE.eq_17, evE.eq_18, evE.eq_19, evE.eq_20, evE.eq_21, evE.eq_22, evE.eq_23, evE.eq_24, evE.eq_25, evE.eq_26, evE.eq_27, evE.eq_28, evE.eq_29, evE.eq_30, evE.eq_31, evE.eq_32, evE.eq_33, evE.eq_34, Ok_bind, Ok_fin, evEs, evO, evT, evTs, evI.eq_1, ev_rng1, ev_rng2, evI.eq_4, ev_zip, evC, startE, wipe, lenTs,forL, z45_call hw hi]
    cases good2 t hs ws i 1 <;> simp -implicitDefEqProofs [ev_nil, ev_seq, exS.eq_1, exS.eq_2, exS.eq_3, exS.eq_4, exS.eq_5, ev_ife, ev_loop, ev_whil, exS.eq_9, exS.eq_10, exS.eq_11, exS.eq_12, exS.eq_13, evE.eq_1, evE.eq_2, evE.eq_3, evE.eq_4, evE.eq_5, evE.eq_6, ev_and, ev_or, evE.eq_9, evE.eq_10, ev_ite, ev_tup, ev_lst, lineF_ok, ev_comp, evE.eq_15, evE.eq_16, evE.eq_17, evE.eq_18, evE.eq_19, evE.eq_20, evE.eq_21, evE.eq_22, evE.eq_23, evE.eq_24, evE.eq_25, evE.eq_26, evE.eq_27, evE.eq_28, evE.eq_29, evE.eq_30, evE.eq_31, evE.eq_32, evE.eq_33, evE.eq_34, Ok_bind, Ok_fin, evEs, evO, evT, evTs, evI.eq_1, ev_rng1, ev_rng2, evI.eq_4, ev_zip, evC, startE, wipe, lenTs,forL]
theorem items_0 (d : D) : True := trivial
theorem okW_notup {v : D} (h : ∀ xs, v ≠ .tup xs) : okW hs t v = false := by
  refine okW_bad ?_
  cases v <;> first | rfl | exact absurd rfl (h _)
theorem ix_end {ws : List (Int × Int)} {n : Nat} (h : ws.length = n + 1) : ixD (hoursD ws) (.int n) = some (hrD (gd ws n)) := by
  have := ix_hours (hs := ws) (i := n) (by omega)
  rw [gd_get] at this
  exact this
theorem right_call (h : OkT hs t f) {v : D} (hv : data 20 v = true) : callF P (k+2) 45 [toldD hs t f, v] M = .ok (.bl (okW hs t v)) M := by
  rw [call_run ⟨2, 10, c45⟩]
  unfold c45
  have hf := flat_data hv
  have hl := h.l1
  have ht := items_t (hs := hs) (t := t) (f := f) _ rfl
  by_cases htp : ∃ xs, v = .tup xs
  case neg =>
    rw [okW_notup fun xs e => htp ⟨xs, e⟩]
    cases v <;> first | (cases hf; done) | (exact absurd ⟨_, rfl⟩ htp) | simp -implicitDefEqProofs [ev_nil, ev_seq, exS.eq_1, exS.eq_2, exS.eq_3, exS.eq_4, exS.eq_5, ev_ife, ev_loop, ev_whil, exS.eq_9, exS.eq_10, exS.eq_11, exS.eq_12, exS.eq_13, evE.eq_1, evE.eq_2, evE.eq_3, evE.eq_4, evE.eq_5, evE.eq_6, ev_and, ev_or, evE.eq_9, evE.eq_10, ev_ite, ev_tup, ev_lst, lineF_ok, ev_comp, evE.eq_15, evE.eq_16, evE.eq_17, evE.eq_18, evE.eq_19, evE.eq_20, evE.eq_21, evE.eq_22, evE.eq_23, evE.eq_24, evE.eq_25, evE.eq_26, evE.eq_27, evE.eq_28, evE.eq_29, evE.eq_30, evE.eq_31, evE.eq_32, evE.eq_33, evE.eq_34, Ok_bind, Ok_fin, evEs, evO, evT, evTs, evI.eq_1, ev_rng1, ev_rng2, evI.eq_4, ev_zip, evC, startE, wipe, lenTs,ht, isAny, isTy, okTy]
  obtain ⟨xs, rfl⟩ := htp
  simp -implicitDefEqProofs [ev_nil, ev_seq, exS.eq_1, exS.eq_2, exS.eq_3, exS.eq_4, exS.eq_5, ev_ife, ev_loop, ev_whil, exS.eq_9, exS.eq_10, exS.eq_11, exS.eq_12, exS.eq_13, evE.eq_1, evE.eq_2, evE.eq_3, evE.eq_4, evE.eq_5, evE.eq_6, ev_and, ev_or, evE.eq_9, evE.eq_10, ev_ite, ev_tup, ev_lst, lineF_ok, ev_comp, evE.eq_15, evE.eq_16, evE.eq_17, evE.eq_18, evE.eq_19, evE.eq_20, evE.eq_21, evE.eq_22, evE.eq_23, evE.eq_24, evE.eq_25, evE.eq_26, evE.eq_27, evE.eq_28, evE.eq_29, evE.eq_30, evE.eq_31, evE.eq_32, evE.eq_33, evE.eq_34, Ok_bind, Ok_fin, evEs, evO, evT, evTs, evI.eq_1, ev_rng1, ev_rng2, evI.eq_4, ev_zip, evC, startE, wipe, lenTs,ht, isAny, isTy, okTy, len_hours]
  by_cases hlen : (xs.length : Int) = hs.length + 1
  case neg =>
    have hb : ((xs.length : Int) == (hs.length : Int) + 1) = false := by rw [beq_eq_false_iff_ne]; exact hlen
    rw [okW_bad (by simp only [rowsOk, hb, Bool.false_and])]
    simp -implicitDefEqProofs [ev_nil, ev_seq, exS.eq_1, exS.eq_2, exS.eq_3, exS.eq_4, exS.eq_5, ev_ife, ev_loop, ev_whil, exS.eq_9, exS.eq_10, exS.eq_11, exS.eq_12, exS.eq_13, evE.eq_1, evE.eq_2, evE.eq_3, evE.eq_4, evE.eq_5, evE.eq_6, ev_and, ev_or, evE.eq_9, evE.eq_10, ev_ite, ev_tup, ev_lst, lineF_ok, ev_comp, evE.eq_15, evE.eq_16, evE.eq_17, evE.eq_18, evE.eq_19, evE.eq_20, evE.eq_21, evE.eq_22, evE.eq_23, evE.eq_24, evE.eq_25, evE.eq_26, evE.eq_27, evE.eq_28, evE.eq_29, evE.eq_30, evE.eq_31, evE.eq_32, evE.eq_33, evE.eq_34, Ok_bind, Ok_fin, evEs, evO, evT, evTs, evI.eq_1, ev_rng1, ev_rng2, evI.eq_4, ev_zip, evC, startE, wipe, lenTs,hb]
  have hb : ((xs.length : Int) == (hs.length : Int) + 1) = true := by rw [beq_iff_eq]; exact hlen
  have hdl : dataL 19 xs = true := by simpa only [data] using hv
  have hlf : ∀ r : Out D, lineF xs r = r := lineF_ok (by omega)
  have hcomp : ∀ q2 q3 q4 q5 q6 q7 q8 q9 : Option D, compL (itemF P (callF P (k+1)) [7] (.name 7) (.yes (.or (.not (.isi (.var 7) [.tuple])) (.cmp .ne (.blt .len (.cons (.var 7) .nil)) (.lit (.int 2))))) (.var 7) [some (toldD hs t f), some (.tup xs), q2, q3, q4, q5, q6, q7, q8, q9]) xs M = .ok (xs.filter fun x => !isRow x 2) M := by
    intro q2 q3 q4 q5 q6 q7 q8 q9
    refine compL_filter fun x hx => ?_
    have hx2 := flat_data (dataL_iff.mp hdl x hx)
    cases x <;> first | (cases hx2; done) | (simp -implicitDefEqProofs [ev_nil, ev_seq, exS.eq_1, exS.eq_2, exS.eq_3, exS.eq_4, exS.eq_5, ev_ife, ev_loop, ev_whil, exS.eq_9, exS.eq_10, exS.eq_11, exS.eq_12, exS.eq_13, evE.eq_1, evE.eq_2, evE.eq_3, evE.eq_4, evE.eq_5, evE.eq_6, ev_and, ev_or, evE.eq_9, evE.eq_10, ev_ite, ev_tup, ev_lst, lineF_ok, ev_comp, evE.eq_15, evE.eq_16, evE.eq_17, evE.eq_18, evE.eq_19, evE.eq_20, evE.eq_21, evE.eq_22, evE.eq_23, evE.eq_24, evE.eq_25, evE.eq_26, evE.eq_27, evE.eq_28, evE.eq_29, evE.eq_30, evE.eq_31, evE.eq_32, evE.eq_33, evE.eq_34, Ok_bind, Ok_fin, evEs, evO, evT, evTs, evI.eq_1, ev_rng1, ev_rng2, evI.eq_4, ev_zip, evC, startE, wipe, lenTs,itemF_of, isAny, isTy, okTy, isRow, calm_ok]; done)
  have hfl : dataL 19 (xs.filter fun x => !isRow x 2) = true := dataL_iff.mpr fun d hd => dataL_iff.mp hdl d (List.mem_filter.mp hd).1
  have hne := ne_nil (by omega) hfl
  rw [filter_isEmpty] at hne
  simp only [Bool.not_not] at hne
  simp -implicitDefEqProofs [ev_nil, ev_seq, exS.eq_1, exS.eq_2, exS.eq_3, exS.eq_4, exS.eq_5, ev_ife, ev_loop, ev_whil, exS.eq_9, exS.eq_10, exS.eq_11, exS.eq_12, exS.eq_13, evE.eq_1, evE.eq_2, evE.eq_3, evE.eq_4, evE.eq_5, evE.eq_6, ev_and, ev_or, evE.eq_9, evE.eq_10, ev_ite, ev_tup, ev_lst, lineF_ok, ev_comp, evE.eq_15, evE.eq_16, evE.eq_17, evE.eq_18, evE.eq_19, evE.eq_20, evE.eq_21, evE.eq_22, evE.eq_23, evE.eq_24, evE.eq_25, evE.eq_26, evE.eq_27, evE.eq_28, evE.eq_29, evE.eq_30, evE.eq_31, evE.eq_32, evE.eq_33, evE.eq_34, Ok_bind, Ok_fin, evEs, evO, evT, evTs, evI.eq_1, ev_rng1, ev_rng2, evI.eq_4, ev_zip, evC, startE, wipe, lenTs,hb, hlf, hcomp, hne]
  cases hrow : (xs.all fun x => isRow x 2) with
  | false =>
    have hbad : okW hs t (.tup xs) = false := by
      refine okW_bad ?_
      simp only [rowsOk, hb, Bool.true_and]
      cases hA : (xs.all fun x => areNums x 2 0 9999) with
      | false => rfl
      | true =>
        rw [← hrow, List.all_eq_true.mpr]
        exact fun x hx => areNums_isRow (List.all_eq_true.mp hA x hx)
    rw [hbad]
    simp -implicitDefEqProofs [ev_nil, ev_seq, exS.eq_1, exS.eq_2, exS.eq_3, exS.eq_4, exS.eq_5, ev_ife, ev_loop, ev_whil, exS.eq_9, exS.eq_10, exS.eq_11, exS.eq_12, exS.eq_13, evE.eq_1, evE.eq_2, evE.eq_3, evE.eq_4, evE.eq_5, evE.eq_6, ev_and, ev_or, evE.eq_9, evE.eq_10, ev_ite, ev_tup, ev_lst, lineF_ok, ev_comp, evE.eq_15, evE.eq_16, evE.eq_17, evE.eq_18, evE.eq_19, evE.eq_20, evE.eq_21, evE.eq_22, evE.eq_23, evE.eq_24, evE.eq_25, evE.eq_26, evE.eq_27, evE.eq_28, evE.eq_29, evE.eq_30, evE.eq_31, evE.eq_32, evE.eq_33, evE.eq_34, Ok_bind, Ok_fin, evEs, evO, evT, evTs, evI.eq_1, ev_rng1, ev_rng2, evI.eq_4, ev_zip, evC, startE, wipe, lenTs,hrow]
  | true =>
    obtain ⟨ps, rfl⟩ := isRow2_all hrow
    have hpl : ps.length ≤ 100 := by rw [List.length_map] at hlen; omega
    have hfd : dataL 18 (flatP ps) = true := by
      clear hcomp hfl hne hrow hb hlen hlf hpl hf hv
      induction ps with
      | nil => rfl
      | cons p ps ih =>
        simp only [List.map_cons, dataL, Bool.and_eq_true] at hdl
        simp only [prD, data, dataL, Bool.and_true, Bool.and_eq_true] at hdl
        simp only [flatP, dataL, Bool.and_eq_true]
        exact ⟨hdl.1.1, hdl.1.2, ih hdl.2⟩
    have hlf2 : ∀ r : Out D, lineF (flatP ps) r = r := lineF_ok (by rw [flatP_len]; omega)
    have hcomp2 : ∀ q2 q3 q4 q5 q6 q7 q8 q9 : Option D, compL (itemF P (callF P (k+1)) [8] (.name 8) (.yes (.or (.isi (.var 8) [.bool]) (.or (.not (.isi (.var 8) [.int])) (.not (.cmp2 .le .le (.lit (.int 0)) (.var 8) (.lit (.int 9999))))))) (.lit (.int 1)) [some (toldD hs t f), some (.tup (ps.map prD)), q2, q3, q4, q5, q6, q7, q8, q9]) (flatP ps) M = .ok ((flatP ps).filterMap fun x => if within x 0 9999 then none else some (.int 1)) M := by
      intro q2 q3 q4 q5 q6 q7 q8 q9
      refine compL_pure fun x hx => ?_
      have hx2 := flat_data (dataL_iff.mp hfd x hx)
      cases x <;> first | (cases hx2; done) | (simp -implicitDefEqProofs [ev_nil, ev_seq, exS.eq_1, exS.eq_2, exS.eq_3, exS.eq_4, exS.eq_5, ev_ife, ev_loop, ev_whil, exS.eq_9, exS.eq_10, exS.eq_11, exS.eq_12, exS.eq_13, evE.eq_1, evE.eq_2, evE.eq_3, evE.eq_4, evE.eq_5, evE.eq_6, ev_and, ev_or, evE.eq_9, evE.eq_10, ev_ite, ev_tup, ev_lst, lineF_ok, ev_comp, evE.eq_15, evE.eq_16, evE.eq_17, evE.eq_18, evE.eq_19, evE.eq_20, evE.eq_21, evE.eq_22, evE.eq_23, evE.eq_24, evE.eq_25, evE.eq_26, evE.eq_27, evE.eq_28, evE.eq_29, evE.eq_30, evE.eq_31, evE.eq_32, evE.eq_33, evE.eq_34, Ok_bind, Ok_fin, evEs, evO, evT, evTs, evI.eq_1, ev_rng1, ev_rng2, evI.eq_4, ev_zip, evC, startE, wipe, lenTs,itemF_of, isAny, isTy, okTy, within, calm_ok]; done) | skip
      rename_i i
      by_cases h0 : (0 : Int) ≤ i
      · by_cases h1 : i ≤ 9999
        · simp -implicitDefEqProofs [ev_nil, ev_seq, exS.eq_1, exS.eq_2, exS.eq_3, exS.eq_4, exS.eq_5, ev_ife, ev_loop, ev_whil, exS.eq_9, exS.eq_10, exS.eq_11, exS.eq_12, exS.eq_13, evE.eq_1, evE.eq_2, evE.eq_3, evE.eq_4, evE.eq_5, evE.eq_6, ev_and, ev_or, evE.eq_9, evE.eq_10, ev_ite, ev_tup, ev_lst, lineF_ok, ev_comp, evE.eq_15, evE.eq_16, evE.eq_17, evE.eq_18, evE.eq_19, evE.eq_20, evE.eq_21, evE.eq_22, evE.eq_23, evE.eq_24, evE.eq_25, evE.eq_26, evE.eq_27, evE.eq_28, evE.eq_29, evE.eq_30, evE.eq_31, evE.eq_32, evE.eq_33, evE.eq_34, Ok_bind, Ok_fin, evEs, evO, evT, evTs, evI.eq_1, ev_rng1, ev_rng2, evI.eq_4, ev_zip, evC, startE, wipe, lenTs,itemF_of, isAny, isTy, okTy, within, calm_ok, h0, h1]
        · simp -implicitDefEqProofs [ev_nil, ev_seq, exS.eq_1, exS.eq_2, exS.eq_3, exS.eq_4, exS.eq_5, ev_ife, ev_loop, ev_whil, exS.eq_9, exS.eq_10, exS.eq_11, exS.eq_12, exS.eq_13, evE.eq_1, evE.eq_2, evE.eq_3, evE.eq_4, evE.eq_5, evE.eq_6, ev_and, ev_or, evE.eq_9, evE.eq_10, ev_ite, ev_tup, ev_lst, lineF_ok, ev_comp, evE.eq_15, evE.eq_16, evE.eq_17, evE.eq_18, evE.eq_19, evE.eq_20, evE.eq_21, evE.eq_22, evE.eq_23, evE.eq_24, evE.eq_25, evE.eq_26, evE.eq_27, evE.eq_28, evE.eq_29, evE.eq_30, evE.eq_31, evE.eq_32, evE.eq_33, evE.eq_34, Ok_bind, Ok_fin, evEs, evO, evT, evTs, evI.eq_1, ev_rng1, ev_rng2, evI.eq_4, ev_zip, evC, startE, wipe, lenTs,itemF_of, isAny, isTy, okTy, within, calm_ok, h0, h1]
      · simp -implicitDefEqProofs [ev_nil, ev_seq, exS.eq_1, exS.eq_2, exS.eq_3, exS.eq_4, exS.eq_5, ev_ife, ev_loop, ev_whil, exS.eq_9, exS.eq_10, exS.eq_11, exS.eq_12, exS.eq_13, evE.eq_1, evE.eq_2, evE.eq_3, evE.eq_4, evE.eq_5, evE.eq_6, ev_and, ev_or, evE.eq_9, evE.eq_10, ev_ite, ev_tup, ev_lst, lineF_ok, ev_comp, evE.eq_15, evE.eq_16, evE.eq_17, evE.eq_18, evE.eq_19, evE.eq_20, evE.eq_21, evE.eq_22, evE.eq_23, evE.eq_24, evE.eq_25, evE.eq_26, evE.eq_27, evE.eq_28, evE.eq_29, evE.eq_30, evE.eq_31, evE.eq_32, evE.eq_33, evE.eq_34, Ok_bind, Ok_fin, evEs, evO, evT, evTs, evI.eq_1, ev_rng1, ev_rng2, evI.eq_4, ev_zip, evC, startE, wipe, lenTs,itemF_of, isAny, isTy, okTy, within, calm_ok, h0]
    have hne2 := ne_nil (by omega) (fm_data (within · 0 9999) (flatP ps))
    rw [fm_isEmpty] at hne2
    simp -implicitDefEqProofs [ev_nil, ev_seq, exS.eq_1, exS.eq_2, exS.eq_3, exS.eq_4, exS.eq_5, ev_ife, ev_loop, ev_whil, exS.eq_9, exS.eq_10, exS.eq_11, exS.eq_12, exS.eq_13, evE.eq_1, evE.eq_2, evE.eq_3, evE.eq_4, evE.eq_5, evE.eq_6, ev_and, ev_or, evE.eq_9, evE.eq_10, ev_ite, ev_tup, ev_lst, lineF_ok, ev_comp, evE.eq_15, evE.eq_16, evE.eq_17, evE.eq_18, evE.eq_19, evE.eq_20, evE.eq_21, evE.eq_22, evE.eq_23, evE.eq_24, evE.eq_25, evE.eq_26, evE.eq_27, evE.eq_28, evE.eq_29, evE.eq_30, evE.eq_31, evE.eq_32, evE.eq_33, evE.eq_34, Ok_bind, Ok_fin, evEs, evO, evT, evTs, evI.eq_1, ev_rng1, ev_rng2, evI.eq_4, ev_zip, evC, startE, wipe, lenTs,hrow, flat_call hpl, hlf2, hcomp2, hne2]
    have hrows : rowsOk (.tup (ps.map prD)) hs.length = (flatP ps).all fun x => within x 0 9999 := by
      simp only [rowsOk, hb, Bool.true_and, nums_flat]
    cases hn : ((flatP ps).all fun x => within x 0 9999) with
    | false =>
      rw [hn] at hrows
      rw [okW_bad hrows]
      simp -implicitDefEqProofs [ev_nil, ev_seq, exS.eq_1, exS.eq_2, exS.eq_3, exS.eq_4, exS.eq_5, ev_ife, ev_loop, ev_whil, exS.eq_9, exS.eq_10, exS.eq_11, exS.eq_12, exS.eq_13, evE.eq_1, evE.eq_2, evE.eq_3, evE.eq_4, evE.eq_5, evE.eq_6, ev_and, ev_or, evE.eq_9, evE.eq_10, ev_ite, ev_tup, ev_lst, lineF_ok, ev_comp, evE.eq_15, evE.eq_16, evE.eq_17, evE.eq_18, evE.eq_19, evE.eq_20, evE.eq_21, evE.eq_22, evE.eq_23, evE.eq_24, evE.eq_25, evE.eq_26, evE.eq_27, evE.eq_28, evE.eq_29, evE.eq_30, evE.eq_31, evE.eq_32, evE.eq_33, evE.eq_34, Ok_bind, Ok_fin, evEs, evO, evT, evTs, evI.eq_1, ev_rng1, ev_rng2, evI.eq_4, ev_zip, evC, startE, wipe, lenTs,hn]
    | true =>
      rw [hn] at hrows
      obtain ⟨ws, hw1, hw⟩ := rowsOk_ws hrows
      rw [hw1] at hrows ⊢
      rw [okW_ws hrows]
      have hrn := rngF_nat (n := hs.length) (by omega) M
      simp -implicitDefEqProofs [ev_nil, ev_seq, exS.eq_1, exS.eq_2, exS.eq_3, exS.eq_4, exS.eq_5, ev_ife, ev_loop, ev_whil, exS.eq_9, exS.eq_10, exS.eq_11, exS.eq_12, exS.eq_13, evE.eq_1, evE.eq_2, evE.eq_3, evE.eq_4, evE.eq_5, evE.eq_6, ev_and, ev_or, evE.eq_9, evE.eq_10, ev_ite, ev_tup, ev_lst, lineF_ok, ev_comp, evE.eq_15, evE.eq_16, evE.eq_17, evE.eq_18, evE.eq_19, evE.eq_20, evE.eq_21, evE.eq_22, evE.eq_23, evE.eq_24, evE.eq_25, evE.eq_26, evE.eq_27, evE.eq_28, evE.eq_29, evE.eq_30, evE.eq_31, evE.eq_32, evE.eq_33, evE.eq_34, Ok_bind, Ok_fin, evEs, evO, evT, evTs, evI.eq_1, ev_rng1, ev_rng2, evI.eq_4, ev_zip, evC, startE, wipe, lenTs,hn, len_hours, ix_end hw, ne_zero2]
      by_cases hz : gd ws hs.length = (0, 0)
      · simp -implicitDefEqProofs [ev_nil, ev_seq, exS.eq_1, exS.eq_2, exS.eq_3, exS.eq_4, exS.eq_5, ev_ife, ev_loop, ev_whil, exS.eq_9, exS.eq_10, exS.eq_11, exS.eq_12, exS.eq_13, evE.eq_1, evE.eq_2, evE.eq_3, evE.eq_4, evE.eq_5, evE.eq_6, ev_and, ev_or, evE.eq_9, evE.eq_10, ev_ite, ev_tup, ev_lst, lineF_ok, ev_comp, evE.eq_15, evE.eq_16, evE.eq_17, evE.eq_18, evE.eq_19, evE.eq_20, evE.eq_21, evE.eq_22, evE.eq_23, evE.eq_24, evE.eq_25, evE.eq_26, evE.eq_27, evE.eq_28, evE.eq_29, evE.eq_30, evE.eq_31, evE.eq_32, evE.eq_33, evE.eq_34, Ok_bind, Ok_fin, evEs, evO, evT, evTs, evI.eq_1, ev_rng1, ev_rng2, evI.eq_4, ev_zip, evC, startE, wipe, lenTs,hz, len_hours, hrn]
        unfold okC
        obtain ⟨ρ', ⟨b2, b6, b7, b8, b9, rfl⟩, e⟩ := forL_all (f := bodyF P (callF P (k + 1)) (.name 2) (.cons (.loop (.name 6) (.seq (.lst false (.cons (.lit (.int 0)) (.cons (.lit (.int 1)) .nil)))) z45) .nil)) (natP (good4 t hs ws))
          (fun ρ => ∃ b2 b6 b7 b8 b9 : Option D, ρ = [some (toldD hs t f), some (hoursD ws), b2, some (hoursD hs), some (.int t), some (.int f), b6, b7, b8, b9]) (M := M) (r := .bl false) (rngD 0 hs.length) [some (toldD hs t f), some (hoursD ws), none, some (hoursD hs), some (.int t), some (.int f), none, none, none, none] ⟨none, none, none, none, none, rfl⟩ (fun d hd ρ ⟨b2, b6, b7, b8, b9, e⟩ => by
            subst e
            obtain ⟨i, rfl, hi⟩ := rngD_mem _ _ _ hd
            obtain ⟨c6, e2⟩ := h45_call (k := k + 1) (M := M) (t := t) hw hi (toldD hs t f) b2 (some (.int f)) b6 b7 b8 b9
            refine ⟨_, ⟨some (.int i), c6, b7, b8, b9, rfl⟩, ?_⟩
            rw [show (0 : Int) + (i : Int) = i by omega]
            exact e2)
        rw [rng_all] at e
        unfold z45 at e
        generalize (List.range hs.length).all (good4 t hs ws) = z at e ⊢
        simp -implicitDefEqProofs [ev_nil, ev_seq, exS.eq_1, exS.eq_2, exS.eq_3, exS.eq_4, exS.eq_5, ev_ife, ev_loop, ev_whil, exS.eq_9, exS.eq_10, exS.eq_11, exS.eq_12, exS.eq_13, evE.eq_1, evE.eq_2, evE.eq_3, evE.eq_4, evE.eq_5, evE.eq_6, ev_and, ev_or, evE.eq_9, evE.eq_10, ev_ite, ev_tup, ev_lst, lineF_ok, ev_comp, evE.eq_15, evE.eq_16, evE.eq_17, evE.eq_18, evE.eq_19, evE.eq_20, evE.eq_21, evE.eq_22, evE.eq_23, evE.eq_24, evE.eq_25, evE.eq_26, evE.eq_27, evE.eq_28, evE.eq_29, evE.eq_30, evE.eq_31, evE.eq_32, evE.eq_33, evE.eq_34, Ok_bind, Ok_fin, evEs, evO, evT, evTs, evI.eq_1, ev_rng1, ev_rng2, evI.eq_4, ev_zip, evC, startE, wipe, lenTs,e]
        cases z <;> simp -implicitDefEqProofs [ev_nil, ev_seq, exS.eq_1, exS.eq_2, exS.eq_3, exS.eq_4, exS.eq_5, ev_ife, ev_loop, ev_whil, exS.eq_9, exS.eq_10, exS.eq_11, exS.eq_12, exS.eq_13, evE.eq_1, evE.eq_2, evE.eq_3, evE.eq_4, evE.eq_5, evE.eq_6, ev_and, ev_or, evE.eq_9, evE.eq_10, ev_ite, ev_tup, ev_lst, lineF_ok, ev_comp, evE.eq_15, evE.eq_16, evE.eq_17, evE.eq_18, evE.eq_19, evE.eq_20, evE.eq_21, evE.eq_22, evE.eq_23, evE.eq_24, evE.eq_25, evE.eq_26, evE.eq_27, evE.eq_28, evE.eq_29, evE.eq_30, evE.eq_31, evE.eq_32, evE.eq_33, evE.eq_34, Ok_bind, Ok_fin, evEs, evO, evT, evTs, evI.eq_1, ev_rng1, ev_rng2, evI.eq_4, ev_zip, evC, startE, wipe, lenTs]
      · simp -implicitDefEqProofs [ev_nil, ev_seq, exS.eq_1, exS.eq_2, exS.eq_3, exS.eq_4, exS.eq_5, ev_ife, ev_loop, ev_whil, exS.eq_9, exS.eq_10, exS.eq_11, exS.eq_12, exS.eq_13, evE.eq_1, evE.eq_2, evE.eq_3, evE.eq_4, evE.eq_5, evE.eq_6, ev_and, ev_or, evE.eq_9, evE.eq_10, ev_ite, ev_tup, ev_lst, lineF_ok, ev_comp, evE.eq_15, evE.eq_16, evE.eq_17, evE.eq_18, evE.eq_19, evE.eq_20, evE.eq_21, evE.eq_22, evE.eq_23, evE.eq_24, evE.eq_25, evE.eq_26, evE.eq_27, evE.eq_28, evE.eq_29, evE.eq_30, evE.eq_31, evE.eq_32, evE.eq_33, evE.eq_34, Ok_bind, Ok_fin, evEs, evO, evT, evTs, evI.eq_1, ev_rng1, ev_rng2, evI.eq_4, ev_zip, evC, startE, wipe, lenTs,hz]
end K18

set_option linter.all false
set_option autoImplicit false
set_option maxRecDepth 100000
set_option maxHeartbeats 1000000
namespace K18
open PySem GW
variable {k : Nat} {M : Mem} {hs : List (Int × Int)} {t f : Int}
theorem firstBad_at {hs : List (Int × Int)} (h : hs.all okH = true) {bad : D} (hb : areNums bad 2 0 99 = false) (xs r : List D) : ∀ i, firstBad JH xs (hs.map hrD ++ bad :: r) i = .int ((i + hs.length : Nat) : Int) := by
  induction hs with
  | nil =>
    intro i
    show (if areNums bad 2 0 99 = true then _ else _) = _
    rw [hb]; rfl
  | cons p hs ih =>
    intro i
    simp only [List.all_cons, Bool.and_eq_true] at h
    rw [List.map_cons, List.cons_append, firstBad]
    show (if areNums (hrD p) 2 0 99 = true then _ else _) = _
    rw [areNums_hr h.1, if_pos rfl, ih h.2]
    congr 2
    rw [List.length_cons]; omega
theorem newO_0 {x y z : D} {i : Int} (h : firstWrong x 1 24 JH = .int i) : newO (.tup [x, y, z]) M = .exc 1 [.str "hours", plD (.int i)] (M ++ [.ins 11 [] []]) := by
  unfold newO
  dsimp only
  have e : wrongP [x, y, z] 0 = .int i := h
  simp only [wsP, reqW, e]
theorem newO_1 {x y z : D} {i : Int} (h : firstWrong x 1 24 JH = .non) (h1 : wrongN y 0 99 = .int i) : newO (.tup [x, y, z]) M = .exc 1 [.str "turn", plD (.int i)] (M ++ [.ins 11 [] []]) := by
  unfold newO
  dsimp only
  have e : wrongP [x, y, z] 0 = .non := h
  have e1 : wrongP [x, y, z] 1 = .int i := h1
  simp only [wsP, reqW, e, e1]
theorem newO_2 {x y z : D} {i : Int} (h : firstWrong x 1 24 JH = .non) (h1 : wrongN y 0 99 = .non) (h2 : wrongN z 0 1 = .int i) : newO (.tup [x, y, z]) M = .exc 1 [.str "first", plD (.int i)] (M ++ [.ins 11 [] []]) := by
  unfold newO
  dsimp only
  have e : wrongP [x, y, z] 0 = .non := h
  have e1 : wrongP [x, y, z] 1 = .non := h1
  have e2 : wrongP [x, y, z] 2 = .int i := h2
  simp only [wsP, reqW, e, e1, e2]
theorem wrongN_bad {d : D} {a b : Int} (h : within d a b = false) : wrongN d a b = .int (-1) := by simp [wrongN, h]
theorem pl_m1 : plD (.int (-1)) = .non := rfl
theorem pl_nat (n : Nat) : plD (.int n) = .int n := by
  simp only [plD]
  rw [if_neg (by omega)]
/-! ### other parts -/
def callO (d : D) (M : Mem) : Out D := match d with
  | .tup [x, y, z] => match reqW (wrongP [x, y, z]) wsP 0 with
    | none => .ok (.ins 11 [10, 9, 8, 7] [.tup [x, y, z], x, y, z]) M
    | some (w, p) => .exc 1 [w, p] M
  | _ => .exc 1 [.str "screens", .non] M
theorem reqW_closed {ps : List D} {w p : D} (m : Nat) (h : reqW (wrongP ps) wsP 0 = some (w, p)) : closedL m [w, p] = true := by
  have hp : ∀ d, isPl d = true → closed m (plD d) = true := by
    intro d hd
    cases d <;> first | (cases hd; done) | rfl | skip
    rename_i i
    show closed m (if i = -1 then D.non else .int i) = true
    split <;> rfl
  have key : ∀ (ws : List D) (i : Nat), (∀ w ∈ ws, closed m w = true) → reqW (wrongP ps) ws i = some (w, p) → closedL m [w, p] = true := by
    intro ws
    induction ws with
    | nil => intro i _ h; cases h
    | cons w0 ws ih =>
      intro i hw h
      unfold reqW at h
      split at h
      · rename_i j hj
        cases h
        have := hp _ (wrongP_pl ps i)
        rw [hj] at this
        simp only [closedL, hw _ List.mem_cons_self, this, Bool.and_self]
      · exact ih (i + 1) (fun x hx => hw x (List.mem_cons_of_mem _ hx)) h
  exact key wsP 0 (fun w hw => by simp only [wsP, List.mem_cons, List.not_mem_nil, or_false] at hw; rcases hw with rfl | rfl | rfl <;> rfl) h
theorem newO_fin {d : D} (cf : Calls) : finC M (((newO d M).bind fun x M1 => .ok (.rt x) M1).bind (seqF P cf .nil)) = callO d M := by
  unfold newO callO
  split
  · rename_i x y z
    cases hq : reqW (wrongP [x, y, z]) wsP 0 with
    | none => simp [hq]
    | some p =>
      obtain ⟨w, p⟩ := p
      simp [shrink_app _ (reqW_closed M.length hq), hq]
  · simp only [bind_exc, finC_exc]
    congr 1
    exact shrink_app _ rfl
theorem callO_fin {d : D} (cf : Calls) : finC M (((callO d M).bind fun x M1 => .ok (.rt x) M1).bind (seqF P cf .nil)) = callO d M := by
  unfold callO
  split
  · rename_i x y z
    cases hq : reqW (wrongP [x, y, z]) wsP 0 with
    | none => simp
    | some p => obtain ⟨w, p⟩ := p; simp
  · simp
@[simp] theorem mthS11 (vs : List D) : mthOf P 11 (.ins 11 [10, 9, 8, 7] vs) = some 28 := id rfl
@[simp] theorem mthS12 (vs : List D) : mthOf P 12 (.ins 11 [10, 9, 8, 7] vs) = some 29 := id rfl
@[simp] theorem mthS5 (vs : List D) : mthOf P 5 (.ins 11 [10, 9, 8, 7] vs) = some 30 := id rfl
theorem indexS_hours : indexS "hours" wsP = some 0 := by decide +kernel
theorem indexS_first : indexS "first" wsP = some 2 := by decide +kernel
theorem wsP_data : dataL 50 wsP = true := by decide +kernel
theorem with_first (h : OkT hs t f) {v : D} (hv : data 15 v = true) : callF P (k+9) 28 [scrD hs t f, .str "first", v] M = callO (.tup [hoursD hs, .int t, v]) M := by
  rw [call_run ⟨3, 3, c28⟩]
  unfold c28
  have e1 : callF P (k+8) 11 [.tupk [.str "hours", .str "turn", .str "first"], .str "first", .str "screens"] M = .ok (.int 2) M := place_of_call (ws := wsP) (j := 2) (by decide +kernel) wsP_data indexS_first (by decide +kernel)
  have e2 : callF P (k+8) 10 [toldD hs t f, .int 2, v] M = .ok (.tup [hoursD hs, .int t, v]) M := replaced_call (xs := [hoursD hs, .int t, .int f]) (i := 2) (by simp)
  have hd : data 20 (.tup [hoursD hs, .int t, v]) = true := by
    simp only [data, dataL, data_mono (hoursD_data hs) (show 2 ≤ 19 by omega), data_mono hv (show 15 ≤ 19 by omega), Bool.and_self]
  have e3 := new_call (k := k) (M := M) hd
  simp -implicitDefEqProofs [ev_nil, ev_seq, exS.eq_1, exS.eq_2, exS.eq_3, exS.eq_4, exS.eq_5, ev_ife, ev_loop, ev_whil, exS.eq_9, exS.eq_10, exS.eq_11, exS.eq_12, exS.eq_13, evE.eq_1, evE.eq_2, evE.eq_3, evE.eq_4, evE.eq_5, evE.eq_6, ev_and, ev_or, evE.eq_9, evE.eq_10, ev_ite, ev_tup, ev_lst, lineF_ok, ev_comp, evE.eq_15, evE.eq_16, evE.eq_17, evE.eq_18, evE.eq_19, evE.eq_20, evE.eq_21, evE.eq_22, evE.eq_23, evE.eq_24, evE.eq_25, evE.eq_26, evE.eq_27, evE.eq_28, evE.eq_29, evE.eq_30, evE.eq_31, evE.eq_32, evE.eq_33, evE.eq_34, Ok_bind, Ok_fin, evEs, evO, evT, evTs, evI.eq_1, ev_rng1, ev_rng2, evI.eq_4, ev_zip, evC, startE, wipe, lenTs,getF, e1, e2, e3]
  exact newO_fin _
theorem with_hours {w : D} (h : OkT hs t f) (hw : data 15 w = true) : callF P (k+9) 28 [scrD hs t f, .str "hours", w] M = callO (.tup [w, .int t, .int f]) M := by
  rw [call_run ⟨3, 3, c28⟩]
  unfold c28
  have e1 : callF P (k+8) 11 [.tupk [.str "hours", .str "turn", .str "first"], .str "hours", .str "screens"] M = .ok (.int 0) M := place_of_call (ws := wsP) (j := 0) (by decide +kernel) wsP_data indexS_hours (by decide +kernel)
  have e2 : callF P (k+8) 10 [toldD hs t f, .int 0, w] M = .ok (.tup [w, .int t, .int f]) M := replaced_call (xs := [hoursD hs, .int t, .int f]) (i := 0) (by simp)
  have hd : data 20 (.tup [w, .int t, .int f]) = true := by
    simp only [data, dataL, data_mono hw (show 15 ≤ 19 by omega), Bool.and_self]
  have e3 := new_call (k := k) (M := M) hd
  simp -implicitDefEqProofs [ev_nil, ev_seq, exS.eq_1, exS.eq_2, exS.eq_3, exS.eq_4, exS.eq_5, ev_ife, ev_loop, ev_whil, exS.eq_9, exS.eq_10, exS.eq_11, exS.eq_12, exS.eq_13, evE.eq_1, evE.eq_2, evE.eq_3, evE.eq_4, evE.eq_5, evE.eq_6, ev_and, ev_or, evE.eq_9, evE.eq_10, ev_ite, ev_tup, ev_lst, lineF_ok, ev_comp, evE.eq_15, evE.eq_16, evE.eq_17, evE.eq_18, evE.eq_19, evE.eq_20, evE.eq_21, evE.eq_22, evE.eq_23, evE.eq_24, evE.eq_25, evE.eq_26, evE.eq_27, evE.eq_28, evE.eq_29, evE.eq_30, evE.eq_31, evE.eq_32, evE.eq_33, evE.eq_34, Ok_bind, Ok_fin, evEs, evO, evT, evTs, evI.eq_1, ev_rng1, ev_rng2, evI.eq_4, ev_zip, evC, startE, wipe, lenTs,getF, e1, e2, e3]
  exact newO_fin _
theorem with_last {v : D} : callF P (k+9) 28 [scrD hs t f, .str "last", v] M = .exc 1 [.str "screens", .non] M := by
  rw [call_run ⟨3, 3, c28⟩]
  unfold c28
  have e1 : callF P (k+8) 11 [.tupk [.str "hours", .str "turn", .str "first"], .str "last", .str "screens"] M = .exc 1 [.str "screens", .non] M := place_of_bad (ws := wsP) (by decide +kernel) wsP_data (by decide +kernel)
  simp -implicitDefEqProofs [ev_nil, ev_seq, exS.eq_1, exS.eq_2, exS.eq_3, exS.eq_4, exS.eq_5, ev_ife, ev_loop, ev_whil, exS.eq_9, exS.eq_10, exS.eq_11, exS.eq_12, exS.eq_13, evE.eq_1, evE.eq_2, evE.eq_3, evE.eq_4, evE.eq_5, evE.eq_6, ev_and, ev_or, evE.eq_9, evE.eq_10, ev_ite, ev_tup, ev_lst, lineF_ok, ev_comp, evE.eq_15, evE.eq_16, evE.eq_17, evE.eq_18, evE.eq_19, evE.eq_20, evE.eq_21, evE.eq_22, evE.eq_23, evE.eq_24, evE.eq_25, evE.eq_26, evE.eq_27, evE.eq_28, evE.eq_29, evE.eq_30, evE.eq_31, evE.eq_32, evE.eq_33, evE.eq_34, Ok_bind, Ok_fin, evEs, evO, evT, evTs, evI.eq_1, ev_rng1, ev_rng2, evI.eq_4, ev_zip, evC, startE, wipe, lenTs,getF, e1]
theorem flat_int (i : Int) : flat (.int i) = true := rfl
theorem with_hour_far (h : OkT hs t f) {a b : D} : callF P (k+10) 29 [scrD hs t f, .int (hs.length + 1), a, b] M = .exc 3 [.int (hs.length + 1)] M := by
  rw [call_run ⟨4, 4, c29⟩]
  unfold c29
  have e1 : within (.int ((hs.length : Int) + 1)) 1 hs.length = false := by simp [within]; omega
  simp -implicitDefEqProofs [ev_nil, ev_seq, exS.eq_1, exS.eq_2, exS.eq_3, exS.eq_4, exS.eq_5, ev_ife, ev_loop, ev_whil, exS.eq_9, exS.eq_10, exS.eq_11, exS.eq_12, exS.eq_13, evE.eq_1, evE.eq_2, evE.eq_3, evE.eq_4, evE.eq_5, evE.eq_6, ev_and, ev_or, evE.eq_9, evE.eq_10, ev_ite, ev_tup, ev_lst, lineF_ok, ev_comp, evE.eq_15, evE.eq_16, evE.eq_17, evE.eq_18, evE.eq_19, evE.eq_20, evE.eq_21, evE.eq_22, evE.eq_23, evE.eq_24, evE.eq_25, evE.eq_26, evE.eq_27, evE.eq_28, evE.eq_29, evE.eq_30, evE.eq_31, evE.eq_32, evE.eq_33, evE.eq_34, Ok_bind, Ok_fin, evEs, evO, evT, evTs, evI.eq_1, ev_rng1, ev_rng2, evI.eq_4, ev_zip, evC, startE, wipe, lenTs,getF, len_hours, is_within_call, flat_int, e1]
theorem with_hour_1 (h : OkT hs t f) {a b : Int} : callF P (k+10) 29 [scrD hs t f, .int 1, .int a, .int b] M = callO (.tup [.tup (hrD (a, b) :: (hs.map hrD).tail), .int t, .int f]) M := by
  rw [call_run ⟨4, 4, c29⟩]
  unfold c29
  have h0 := h.l0
  have hl := h.l1
  have e1 : within (.int 1) 1 hs.length = true := by simp [within]; omega
  have e2 : callF P (k+9) 10 [hoursD hs, .int 0, .tup [.int a, .int b]] M = .ok (.tup (hrD (a, b) :: (hs.map hrD).tail)) M := by
    have := replaced_call (Γ := P) (k := k + 8) (M := M) (xs := hs.map hrD) (i := 0) (v := .tup [.int a, .int b]) (by rw [List.length_map]; omega)
    rw [show (hs.map hrD).take 0 ++ D.tup [.int a, .int b] :: (hs.map hrD).drop (0 + 1) = hrD (a, b) :: (hs.map hrD).tail by simp [hrD]] at this
    exact this
  have hd : data 15 (.tup (hrD (a, b) :: (hs.map hrD).tail)) = true := by
    rw [← List.map_tail]
    exact data_mono (n := 2) (hoursD_data ((a, b) :: hs.tail)) (by omega)
  have e3 := with_hours (k := k) (M := M) h hd
  simp -implicitDefEqProofs [ev_nil, ev_seq, exS.eq_1, exS.eq_2, exS.eq_3, exS.eq_4, exS.eq_5, ev_ife, ev_loop, ev_whil, exS.eq_9, exS.eq_10, exS.eq_11, exS.eq_12, exS.eq_13, evE.eq_1, evE.eq_2, evE.eq_3, evE.eq_4, evE.eq_5, evE.eq_6, ev_and, ev_or, evE.eq_9, evE.eq_10, ev_ite, ev_tup, ev_lst, lineF_ok, ev_comp, evE.eq_15, evE.eq_16, evE.eq_17, evE.eq_18, evE.eq_19, evE.eq_20, evE.eq_21, evE.eq_22, evE.eq_23, evE.eq_24, evE.eq_25, evE.eq_26, evE.eq_27, evE.eq_28, evE.eq_29, evE.eq_30, evE.eq_31, evE.eq_32, evE.eq_33, evE.eq_34, Ok_bind, Ok_fin, evEs, evO, evT, evTs, evI.eq_1, ev_rng1, ev_rng2, evI.eq_4, ev_zip, evC, startE, wipe, lenTs,getF, len_hours, is_within_call, flat_int, e1, e2, e3]
  exact callO_fin _
/-! ### equality -/
theorem eq_scr {hs' : List (Int × Int)} {t' f' : Int} : callF P (k+1) 30 [scrD hs t f, scrD hs' t' f'] M = .ok (.bl (eqB (toldD hs t f) (toldD hs' t' f'))) M := by
  rw [call_run ⟨2, 2, c30⟩]
  unfold c30
  have e : cmpD .eq (toldD hs t f) (toldD hs' t' f') = some (eqB (toldD hs t f) (toldD hs' t' f')) := by
    simp only [cmpD, eqD, data_mono (toldD_data hs t f) (show 3 ≤ 60 by omega), data_mono (toldD_data hs' t' f') (show 3 ≤ 60 by omega), Bool.and_self, if_true]
  simp -implicitDefEqProofs [ev_nil, ev_seq, exS.eq_1, exS.eq_2, exS.eq_3, exS.eq_4, exS.eq_5, ev_ife, ev_loop, ev_whil, exS.eq_9, exS.eq_10, exS.eq_11, exS.eq_12, exS.eq_13, evE.eq_1, evE.eq_2, evE.eq_3, evE.eq_4, evE.eq_5, evE.eq_6, ev_and, ev_or, evE.eq_9, evE.eq_10, ev_ite, ev_tup, ev_lst, lineF_ok, ev_comp, evE.eq_15, evE.eq_16, evE.eq_17, evE.eq_18, evE.eq_19, evE.eq_20, evE.eq_21, evE.eq_22, evE.eq_23, evE.eq_24, evE.eq_25, evE.eq_26, evE.eq_27, evE.eq_28, evE.eq_29, evE.eq_30, evE.eq_31, evE.eq_32, evE.eq_33, evE.eq_34, Ok_bind, Ok_fin, evEs, evO, evT, evTs, evI.eq_1, ev_rng1, ev_rng2, evI.eq_4, ev_zip, evC, startE, wipe, lenTs,isAny, isTy, okTy, getF, e]
theorem eq_scr_told {hs' : List (Int × Int)} {t' f' : Int} : callF P (k+1) 30 [scrD hs t f, toldD hs' t' f'] M = .ok (.bl false) M := by
  rw [call_run ⟨2, 2, c30⟩]
  unfold c30
  have e : isTy P (toldD hs' t' f') (.cls 11) = some false := rfl
  simp -implicitDefEqProofs [ev_nil, ev_seq, exS.eq_1, exS.eq_2, exS.eq_3, exS.eq_4, exS.eq_5, ev_ife, ev_loop, ev_whil, exS.eq_9, exS.eq_10, exS.eq_11, exS.eq_12, exS.eq_13, evE.eq_1, evE.eq_2, evE.eq_3, evE.eq_4, evE.eq_5, evE.eq_6, ev_and, ev_or, evE.eq_9, evE.eq_10, ev_ite, ev_tup, ev_lst, lineF_ok, ev_comp, evE.eq_15, evE.eq_16, evE.eq_17, evE.eq_18, evE.eq_19, evE.eq_20, evE.eq_21, evE.eq_22, evE.eq_23, evE.eq_24, evE.eq_25, evE.eq_26, evE.eq_27, evE.eq_28, evE.eq_29, evE.eq_30, evE.eq_31, evE.eq_32, evE.eq_33, evE.eq_34, Ok_bind, Ok_fin, evEs, evO, evT, evTs, evI.eq_1, ev_rng1, ev_rng2, evI.eq_4, ev_zip, evC, startE, wipe, lenTs,isAny, okTy, e]
theorem eqB_hr (p q : Int × Int) : eqB (hrD p) (hrD q) = decide (p = q) := by
  obtain ⟨a, b⟩ := p
  obtain ⟨c, d⟩ := q
  rw [Bool.eq_iff_iff]
  simp [hrD, eqB, eqL]
theorem eqB_hours : ∀ hs hs' : List (Int × Int), eqL (hs.map hrD) (hs'.map hrD) = decide (hs = hs')
  | [], [] => rfl
  | [], _ :: _ => rfl
  | _ :: _, [] => by simp [eqL]
  | p :: hs, q :: hs' => by
    rw [List.map_cons, List.map_cons, eqL, eqB_hr, eqB_hours hs hs', Bool.eq_iff_iff]
    simp
theorem eqB_told {hs' : List (Int × Int)} {t' f' : Int} : eqB (toldD hs t f) (toldD hs' t' f') = (decide (hs = hs') && (t == t' && f == f')) := by
  show eqL [hoursD hs, .int t, .int f] [hoursD hs', .int t', .int f'] = _
  simp only [eqL, eqB, hoursD, eqB_hours, Bool.and_true]
end K18

set_option linter.all false
set_option autoImplicit false
set_option maxRecDepth 100000
set_option maxHeartbeats 400000
namespace K18
open PySem GW
variable {k : Nat} {M : Mem} {hs : List (Int × Int)} {t f : Int}
@[simp] theorem xcl1 : P.xcl 1 = true := id rfl
@[simp] theorem xcl3 : P.xcl 3 = true := id rfl
@[simp] theorem rfd1 (a b : D) : P.rfd 1 [a, b] = some (.tup [.str "BadPart", a, b]) := id rfl
@[simp] theorem rfd3 (a : D) : P.rfd 3 [a] = some (.tup [.str "Unknown", a]) := id rfl
theorem cl_exc1 (a b : D) (h : closedL 0 [a, b] = true) : (P.xcl 1 && closedL 0 [a, b]) = true := by rw [h]; rfl
theorem new_bad_hour (h : OkT hs t f) {n : Nat} (hn : n ≤ hs.length) {bad : D} (hd : data 15 bad = true) (hb : areNums bad 2 0 99 = false) :
    newD P (callF P (k+8)) 11 [.tup [.tup ((hs.map hrD).take n ++ [bad] ++ (hs.map hrD).drop n), .int t, .int f]] M = .exc 1 [.str "hours", .int n] (M ++ [.ins 11 [] []]) := by
  have hl := h.l1
  have hD : dataL 18 ((hs.map hrD).take n ++ [bad] ++ (hs.map hrD).drop n) = true := dataL_iff.mpr fun d hd2 => by
    rcases List.mem_append.mp hd2 with q | q
    · rcases List.mem_append.mp q with q | q
      · obtain ⟨p, _, rfl⟩ := List.mem_map.mp (List.mem_of_mem_take q)
        exact data_mono (hrD_data p) (by omega)
      · simp at q; subst q; exact data_mono hd (by omega)
    · obtain ⟨p, _, rfl⟩ := List.mem_map.mp (List.mem_of_mem_drop q)
      exact data_mono (hrD_data p) (by omega)
  rw [new_call (by simp only [data, dataL, hD, Bool.and_self])]
  have hfw : firstWrong (.tup ((hs.map hrD).take n ++ [bad] ++ (hs.map hrD).drop n)) 1 24 JH = .int n := by
    unfold firstWrong
    dsimp only
    rw [if_pos (by rw [List.length_append, List.length_append, List.length_take, List.length_drop, List.length_map, List.length_singleton]; omega)]
    rw [List.append_assoc, ← List.map_take]
    show firstBad JH _ ((hs.take n).map hrD ++ bad :: (hs.map hrD).drop n) 0 = _
    rw [firstBad_at (List.all_eq_true.mpr fun x hx => List.all_eq_true.mp h.h x (List.mem_of_mem_take hx)) hb]
    rw [List.length_take, Nat.zero_add, Nat.min_eq_left hn]
  rw [newO_0 hfw, pl_nat]
theorem new_bad_lot (h : OkT hs t f) {lot : D} (hd : data 15 lot = true) (hb : firstWrong lot 1 24 JH = .int (-1)) :
    newD P (callF P (k+8)) 11 [.tup [lot, .int t, .int f]] M = .exc 1 [.str "hours", .non] (M ++ [.ins 11 [] []]) := by
  rw [new_call (by simp only [data, dataL, data_mono hd (show 15 ≤ 19 by omega), Bool.and_self]), newO_0 hb, pl_m1]
theorem new_bad_turn (h : OkT hs t f) {w : D} (hd : data 15 w = true) (hb : within w 0 99 = false) :
    newD P (callF P (k+8)) 11 [.tup [hoursD hs, w, .int f]] M = .exc 1 [.str "turn", .non] (M ++ [.ins 11 [] []]) := by
  rw [new_call (by simp only [data, dataL, data_mono hd (show 15 ≤ 19 by omega), data_mono (hoursD_data hs) (show 2 ≤ 19 by omega), Bool.and_self]), newO_1 (firstWrong_ok h.h h.l0 (by have := h.l1; omega)) (wrongN_bad hb), pl_m1]
theorem first_bad (h : OkT hs t f) {w : D} (hd : data 15 w = true) (hb : within w 0 1 = false) : callF P (k+9) 28 [scrD hs t f, .str "first", w] M = .exc 1 [.str "first", .non] M := by
  rw [with_first h hd]
  unfold callO
  dsimp only
  have e0 : wrongP [hoursD hs, .int t, w] 0 = .non := firstWrong_ok h.h h.l0 (by have := h.l1; omega)
  have e1 : wrongP [hoursD hs, .int t, w] 1 = .non := wrongN_ok h.t0 h.t1
  have e2 : wrongP [hoursD hs, .int t, w] 2 = .int (-1) := wrongN_bad hb
  simp only [wsP, reqW, e0, e1, e2, pl_m1]
theorem hour_bad (h : OkT hs t f) : callF P (k+10) 29 [scrD hs t f, .int 1, .int 1, .int 100] M = .exc 1 [.str "hours", .int 0] M := by
  rw [with_hour_1 h]
  have e0 : wrongP [.tup (hrD (1, 100) :: (hs.map hrD).tail), .int t, .int f] 0 = .int 0 := by
    show firstWrong (.tup (hrD (1, 100) :: (hs.map hrD).tail)) 1 24 JH = .int 0
    unfold firstWrong
    dsimp only
    have hl := h.l1
    rw [if_pos (by rw [List.length_cons, List.length_tail, List.length_map]; omega)]
    exact firstBad_at (hs := []) rfl (bad := hrD (1, 100)) (by decide +kernel) _ _ 0
  unfold callO
  dsimp only
  simp only [wsP, reqW, e0]
  rfl
theorem hour_ok (h : OkT hs t f) : callF P (k+10) 29 [scrD hs t f, .int 1, .int 99, .int 98] M = .ok (scrD ((99, 98) :: hs.tail) t f) M := by
  rw [with_hour_1 h, ← List.map_tail]
  have h2 : ((99, 98) :: hs.tail).all okH = true := by
    rw [List.all_cons, List.all_eq_true.mpr fun x hx => List.all_eq_true.mp h.h x (List.mem_of_mem_tail hx)]
    decide
  have hl := h.l1
  have e0 : wrongP [.tup (hrD (99, 98) :: hs.tail.map hrD), .int t, .int f] 0 = .non := firstWrong_ok (hs := (99, 98) :: hs.tail) h2 (by rw [List.length_cons]; omega) (by rw [List.length_cons, List.length_tail]; omega)
  have e1 : wrongP [.tup (hrD (99, 98) :: hs.tail.map hrD), .int t, .int f] 1 = .non := wrongN_ok h.t0 h.t1
  have e2 : wrongP [.tup (hrD (99, 98) :: hs.tail.map hrD), .int t, .int f] 2 = .non := wrongN_ok h.f0 h.f1
  unfold callO
  dsimp only
  simp only [wsP, reqW, e0, e1, e2]
  rfl
theorem new_list (h : OkT hs t f) : newD P (callF P (k+8)) 11 [.lst [hoursD hs, .int t, .int f]] M = .exc 1 [.str "screens", .non] (M ++ [.ins 11 [] []]) := by
  rw [new_call (by simp only [data, dataL, data_mono (hoursD_data hs) (show 2 ≤ 19 by omega), Bool.and_self])]
  rfl
theorem tail_ok (h : OkT hs t f) : OkT ((99, 98) :: hs.tail) t f := by
  refine ⟨?_, by rw [List.length_cons]; omega, by have := h.l0; have := h.l1; rw [List.length_cons, List.length_tail]; omega, h.t0, h.t1, h.f0, h.f1⟩
  rw [List.all_cons, List.all_eq_true.mpr fun x hx => List.all_eq_true.mp h.h x (List.mem_of_mem_tail hx)]
  decide
theorem refused_ok (h : OkT hs t f) {o : MO} {rest : Mem} {Q : D → Mem → Prop} (ho : RowO o) (hQ : ∀ M', Q (.bl true) M') : (callF P (k+12) 46 [.ref 0, toldD hs t f, scrD hs t f] (o :: rest)).Ok Q := by
  rw [call_run ⟨3, 14, c46⟩]
  unfold c46
  have hl := h.l1
  have h0 := h.l0
  have ht := items_t (hs := hs) (t := t) (f := f) _ rfl
  have b1 : bltD .list [hoursD hs] = some (.lst (hs.map hrD)) := rfl
  have b2 : binD .mul (.tup [.tup [.int 1, .int 1]]) (.int 25) = some (.tup (List.replicate 25 (.tup [.int 1, .int 1]))) := rfl
  have b3 : bltD .list [toldD hs t f] = some (.lst [hoursD hs, .int t, .int f]) := rfl
  simp -implicitDefEqProofs [ev_nil, ev_seq, exS.eq_1, exS.eq_2, exS.eq_3, exS.eq_4, exS.eq_5, ev_ife, ev_loop, ev_whil, exS.eq_9, exS.eq_10, exS.eq_11, exS.eq_12, exS.eq_13, evE.eq_1, evE.eq_2, evE.eq_3, evE.eq_4, evE.eq_5, evE.eq_6, ev_and, ev_or, evE.eq_9, evE.eq_10, ev_ite, ev_tup, ev_lst, lineF_ok, ev_comp, evE.eq_15, evE.eq_16, evE.eq_17, evE.eq_18, evE.eq_19, evE.eq_20, evE.eq_21, evE.eq_22, evE.eq_23, evE.eq_24, evE.eq_25, evE.eq_26, evE.eq_27, evE.eq_28, evE.eq_29, evE.eq_30, evE.eq_31, evE.eq_32, evE.eq_33, evE.eq_34, Ok_bind, Ok_fin, evEs, evO, evT, evTs, evI.eq_1, ev_rng1, ev_rng2, evI.eq_4, ev_zip, evC, startE, wipe, lenTs,ht, len_hours, b1, b2, b3]
  refine taken_ok ho (by omega) (by omega) fun at_ o1 ha1 ha2 ho1 => ?_
  obtain ⟨n, rfl⟩ := int_nat ha1
  refine pick_ok ho1 (by simp) (by simp) fun bad o2 hbad ho2 => ?_
  refine pick_ok ho2 (by simp) (by simp) fun lot o3 hlot ho3 => ?_
  refine pick_ok ho3 (by simp) (by simp) fun weak o4 hweak ho4 => ?_
  refine pick_ok ho4 (by simp) (by simp) fun more o5 hmore ho5 => ?_
  have hbad2 : data 15 bad = true ∧ areNums bad 2 0 99 = false := by
    simp only [List.mem_cons, List.not_mem_nil, or_false] at hbad
    rcases hbad with rfl | rfl | rfl | rfl | rfl | rfl <;> exact ⟨by decide +kernel, by decide +kernel⟩
  have hlot2 : data 15 lot = true ∧ firstWrong lot 1 24 JH = .int (-1) := by
    simp only [List.mem_cons, List.not_mem_nil, or_false] at hlot
    rcases hlot with rfl | rfl | rfl | rfl
    · exact ⟨rfl, rfl⟩
    · refine ⟨?_, rfl⟩
      simp only [data]
      exact dataL_iff.mpr fun d hd => by obtain ⟨p, _, rfl⟩ := List.mem_map.mp hd; exact data_mono (hrD_data p) (by omega)
    · exact ⟨by decide +kernel, rfl⟩
    · exact ⟨rfl, rfl⟩
  have hweak2 : data 15 weak = true ∧ within weak 0 99 = false := by
    simp only [List.mem_cons, List.not_mem_nil, or_false] at hweak
    rcases hweak with rfl | rfl | rfl | rfl <;> exact ⟨by decide +kernel, by decide +kernel⟩
  have hmore2 : data 15 more = true ∧ within more 0 1 = false := by
    simp only [List.mem_cons, List.not_mem_nil, or_false] at hmore
    rcases hmore with rfl | rfl | rfl | rfl <;> exact ⟨by decide +kernel, by decide +kernel⟩
  have s1 : slcD (hoursD hs) none (some (n : Int)) = some (.tup ((hs.map hrD).take n)) := slcD_take _ _
  have s2 : slcD (hoursD hs) (some (n : Int)) none = some (.tup ((hs.map hrD).drop n)) := slcD_drop _ _
  have c1 := cat_tup (xs := (hs.map hrD).take n) (ys := [bad]) (by rw [List.length_take, List.length_map, List.length_singleton]; omega)
  have c2 := cat_tup (xs := (hs.map hrD).take n ++ [bad]) (ys := (hs.map hrD).drop n) (by rw [List.length_append, List.length_take, List.length_drop, List.length_map, List.length_singleton]; omega)
  have n1 := fun M => new_bad_hour (k := k + 3) (M := M) h (n := n) (by omega) hbad2.1 hbad2.2
  simp only [List.append_assoc, List.singleton_append] at n1
  generalize hX : (hs.map hrD).take n = X1 at s1 c1 c2 n1
  generalize hY : (hs.map hrD).drop n = X2 at s2 c2 n1
  clear hX hY hbad hlot hweak hmore
  simp -implicitDefEqProofs [ev_nil, ev_seq, exS.eq_1, exS.eq_2, exS.eq_3, exS.eq_4, exS.eq_5, ev_ife, ev_loop, ev_whil, exS.eq_9, exS.eq_10, exS.eq_11, exS.eq_12, exS.eq_13, evE.eq_1, evE.eq_2, evE.eq_3, evE.eq_4, evE.eq_5, evE.eq_6, ev_and, ev_or, evE.eq_9, evE.eq_10, ev_ite, ev_tup, ev_lst, lineF_ok, ev_comp, evE.eq_15, evE.eq_16, evE.eq_17, evE.eq_18, evE.eq_19, evE.eq_20, evE.eq_21, evE.eq_22, evE.eq_23, evE.eq_24, evE.eq_25, evE.eq_26, evE.eq_27, evE.eq_28, evE.eq_29, evE.eq_30, evE.eq_31, evE.eq_32, evE.eq_33, evE.eq_34, Ok_bind, Ok_fin, evEs, evO, evT, evTs, evI.eq_1, ev_rng1, ev_rng2, evI.eq_4, ev_zip, evC, startE, wipe, lenTs,partI, s1, s2, c1, c2, n1, fun M => new_bad_lot (k := k + 3) (M := M) h hlot2.1 hlot2.2, fun M => new_bad_turn (k := k + 3) (M := M) h hweak2.1 hweak2.2, fun M => first_bad (k := k + 2) (M := M) h hmore2.1 hmore2.2, fun M => new_list (k := k + 3) (M := M) h,
    with_last, with_hour_far h, hour_bad h, hour_ok h, closedL, closed, cat_lst]
  have q1 : (Str.ofString "BadPart").cps.all (· < 0x110000) = true := by decide +kernel
  have q2 : (Str.ofString "hours").cps.all (· < 0x110000) = true := by decide +kernel
  have q3 : (Str.ofString "turn").cps.all (· < 0x110000) = true := by decide +kernel
  have q4 : (Str.ofString "first").cps.all (· < 0x110000) = true := by decide +kernel
  have q5 : (Str.ofString "screens").cps.all (· < 0x110000) = true := by decide +kernel
  have q6 : (Str.ofString "Unknown").cps.all (· < 0x110000) = true := by decide +kernel
  have r1 : (Str.ofString "BadPart").length = 7 := by decide +kernel
  have r2 : (Str.ofString "hours").length = 5 := by decide +kernel
  have r3 : (Str.ofString "turn").length = 4 := by decide +kernel
  have r4 : (Str.ofString "first").length = 5 := by decide +kernel
  have r5 : (Str.ofString "screens").length = 7 := by decide +kernel
  have r6 : (Str.ofString "Unknown").length = 7 := by decide +kernel
  have w1 : wtD (.int n) = 1016 := wt_int (by omega) (by omega)
  have w2 : wtD (.int (hs.length + 1)) = 1016 := wt_int (by omega) (by omega)
  have w3 : wtD (.int 0) = 1016 := wt_int (by omega) (by omega)
  have hsame := fun (M : Mem) (d : D) (h1 : data 50 d = true) (h2 : wtD d ≤ 1000000) => same_call (Γ := P) (k := k + 10) (M := M) h1 h2
  rw [hsame _ _ (by simp [data, dataL, q1, q2, q3, q4, q5, q6]) (by simp [wt_tup, wt_lst, wt_str, wt_non, wt_cons, wt_nil, r1, r2, r3, r4, r5, r6, w1, w2, w3])]
  have m1 : ∀ vs vs', eqmD P 5 (.ins 11 [10, 9, 8, 7] vs) (.ins 11 [10, 9, 8, 7] vs') = some 30 := fun _ _ => rfl
  have m2 : ∀ vs, eqmD P 5 (.ins 11 [10, 9, 8, 7] vs) (toldD hs t f) = some 30 := fun _ => rfl
  have sl : slcD (hoursD hs) (some 1) none = some (.tup (hs.map hrD).tail) := by
    have := slcD_drop1 (hs.map hrD)
    rw [List.drop_one] at this
    exact this
  have c3 := cat_tup (xs := [.tup [.int 99, .int 98]]) (ys := (hs.map hrD).tail) (by rw [List.length_tail, List.length_map, List.length_singleton]; omega)
  have hnew : ∀ M, newD P (callF P (k+11)) 11 [.tup [.tup (.tup [.int 99, .int 98] :: (hs.map hrD).tail), .int t, .int f]] M = .ok (scrD ((99, 98) :: hs.tail) t f) M := fun M => by
    rw [← List.map_tail]
    have e : D.tup [.tup (.tup [.int 99, .int 98] :: hs.tail.map hrD), .int t, .int f] = toldD ((99, 98) :: hs.tail) t f := rfl
    rw [e]
    have := new_ok (k := k + 3) (M := M) (tail_ok h)
    rw [Nat.add_assoc] at this
    exact this
  simp -implicitDefEqProofs [ev_nil, ev_seq, exS.eq_1, exS.eq_2, exS.eq_3, exS.eq_4, exS.eq_5, ev_ife, ev_loop, ev_whil, exS.eq_9, exS.eq_10, exS.eq_11, exS.eq_12, exS.eq_13, evE.eq_1, evE.eq_2, evE.eq_3, evE.eq_4, evE.eq_5, evE.eq_6, ev_and, ev_or, evE.eq_9, evE.eq_10, ev_ite, ev_tup, ev_lst, lineF_ok, ev_comp, evE.eq_15, evE.eq_16, evE.eq_17, evE.eq_18, evE.eq_19, evE.eq_20, evE.eq_21, evE.eq_22, evE.eq_23, evE.eq_24, evE.eq_25, evE.eq_26, evE.eq_27, evE.eq_28, evE.eq_29, evE.eq_30, evE.eq_31, evE.eq_32, evE.eq_33, evE.eq_34, Ok_bind, Ok_fin, evEs, evO, evT, evTs, evI.eq_1, ev_rng1, ev_rng2, evI.eq_4, ev_zip, evC, startE, wipe, lenTs,partI, sl, c3, hnew, m1, m2, eq_scr, eq_scr_told, eqB_told, new_ok h]
  have e9 : ixD (hoursD hs) (.int 0) = some (hrD (gd hs 0)) := by
    have := ix_hours (hs := hs) (i := 0) (by omega)
    rw [gd_get] at this
    exact this
  have e10 : cmpD .eq (hrD (gd hs 0)) (.tup [.int 99, .int 98]) = some (decide (gd hs 0 = (99, 98))) := by
    have e : cmpD .eq (hrD (gd hs 0)) (.tup [.int 99, .int 98]) = some (eqB (hrD (gd hs 0)) (hrD (99, 98))) := by simp [cmpD, eqD, hrD, data, dataL]
    rw [e, eqB_hr]
  have e11 : decide ((99, 98) :: hs.tail = hs) = decide (gd hs 0 = (99, 98)) := by
    refine decide_eq_decide.mpr ?_
    match hs, h0 with
    | p :: r, _ => simp [gd, eq_comm]
  have e12 : cmpD .is (.bl (decide (gd hs 0 = (99, 98)))) (.bl (decide (gd hs 0 = (99, 98)))) = some true := by simp only [cmpD, decide_true]
  rw [e11]
  simp -implicitDefEqProofs [ev_nil, ev_seq, exS.eq_1, exS.eq_2, exS.eq_3, exS.eq_4, exS.eq_5, ev_ife, ev_loop, ev_whil, exS.eq_9, exS.eq_10, exS.eq_11, exS.eq_12, exS.eq_13, evE.eq_1, evE.eq_2, evE.eq_3, evE.eq_4, evE.eq_5, evE.eq_6, ev_and, ev_or, evE.eq_9, evE.eq_10, ev_ite, ev_tup, ev_lst, lineF_ok, ev_comp, evE.eq_15, evE.eq_16, evE.eq_17, evE.eq_18, evE.eq_19, evE.eq_20, evE.eq_21, evE.eq_22, evE.eq_23, evE.eq_24, evE.eq_25, evE.eq_26, evE.eq_27, evE.eq_28, evE.eq_29, evE.eq_30, evE.eq_31, evE.eq_32, evE.eq_33, evE.eq_34, Ok_bind, Ok_fin, evEs, evO, evT, evTs, evI.eq_1, ev_rng1, ev_rng2, evI.eq_4, ev_zip, evC, startE, wipe, lenTs,e9, e10, e12, m1, m2, eq_scr, eq_scr_told, eqB_told, new_ok h]
  exact hQ _
end K18

set_option linter.all false
set_option autoImplicit false
set_option maxRecDepth 100000
set_option maxHeartbeats 400000
namespace K18
open PySem GW
variable {k : Nat} {M : Mem} {hs : List (Int × Int)} {t f : Int}
theorem W_bounds (t : Int) (h0 : 0 ≤ t) (h1 : t ≤ 99) : ∀ hs : List (Int × Int), hs.all okH = true → ∀ p ∈ W t hs, 0 ≤ p.1 ∧ p.1 ≤ 198 * hs.length ∧ 0 ≤ p.2 ∧ p.2 ≤ 198 * hs.length
  | [], _, p, hp => by simp [W] at hp; subst hp; simp
  | h :: r, hh, p, hp => by
    simp only [List.all_cons, Bool.and_eq_true] at hh
    have ih := W_bounds t h0 h1 r hh.2
    obtain ⟨r2, e⟩ := W_cons t r
    have hb := ih ((W t r).headD (0, 0)) (by rw [e]; simp)
    have hk := hh.1
    simp only [okH, decide_eq_true_eq] at hk
    simp only [W, List.mem_cons] at hp
    rw [List.length_cons]
    generalize (W t r).headD (0, 0) = b at hb hp
    rcases hp with rfl | hp
    · simp only [best, mn, stepC, sel]
      simp
      repeat' split
      all_goals omega
    · have := ih p hp
      omega
theorem W_gd (t : Int) : ∀ (hs : List (Int × Int)) (i : Nat), i < hs.length → gd (W t hs) i = best t (gd hs i) (gd (W t hs) (i + 1))
  | [], i, h => by simp at h
  | h :: r, 0, _ => by
    obtain ⟨r2, e⟩ := W_cons t r
    show best t h ((W t r).headD (0, 0)) = best t h (gd (W t r) 0)
    congr 1
    generalize (W t r).headD (0, 0) = b at e
    rw [e]; rfl
  | h :: r, i + 1, hi => W_gd t r i (by simpa using hi)
theorem W_last (t : Int) : ∀ hs : List (Int × Int), gd (W t hs) hs.length = (0, 0)
  | [] => rfl
  | h :: r => W_last t r
theorem okW_W (h : OkT hs t f) : okW hs t (wD t hs) = true := by
  have hr : rowsOk (hoursD (W t hs)) hs.length = true := by
    simp only [rowsOk, hoursD, List.length_map, W_len, Bool.and_eq_true, List.all_eq_true, beq_iff_eq]
    refine ⟨by omega, fun x hx => ?_⟩
    obtain ⟨p, hp, rfl⟩ := List.mem_map.mp hx
    have := W_bounds t h.t0 h.t1 hs h.h p hp
    have hl := h.l1
    simp only [areNums, hrD, within, List.all_cons, List.all_nil, Bool.and_true, Bool.and_eq_true, decide_eq_true_eq, beq_iff_eq]
    refine ⟨by simp, ⟨by omega, by omega⟩, by omega, by omega⟩
  rw [wD_W, okW_ws hr, W_last]
  simp only [decide_true, Bool.true_and, okC, List.all_eq_true, List.mem_range]
  intro i hi
  have e := W_gd t hs i hi
  simp only [good4, good2, goodAt, Bool.and_eq_true, decide_eq_true_eq, e]
  generalize gd hs i = a
  generalize gd (W t hs) (i + 1) = b
  simp only [best, sel, mn]
  simp
  refine ⟨⟨?_, ?_⟩, ?_, ?_⟩ <;> split <;> omega
theorem cost_nonneg (t : Int) (h0 : 0 ≤ t) : ∀ (hs : List (Int × Int)) (vs : List Int) (p : Int), hs.all okH = true → 0 ≤ cost t p hs vs
  | [], vs, p, _ => by cases vs <;> simp [cost]
  | h :: hs, [], p, _ => by simp [cost]
  | h :: hs, v :: vs, p, hh => by
    simp only [List.all_cons, Bool.and_eq_true] at hh
    have ih := cost_nonneg t h0 hs vs v hh.2
    have hk := hh.1
    simp only [okH, decide_eq_true_eq] at hk
    simp only [cost, stepC, sel]
    split <;> split <;> omega
theorem costD_ge (h : OkT hs t f) (v : D) : decide (0 ≤ costD hs t f v) = areNums v hs.length 0 1 := by
  cases hb : areNums v hs.length 0 1 with
  | false =>
    unfold costD
    rw [hb]
    simp
  | true =>
    obtain ⟨vs, rfl, hl, h01⟩ := areNums_01 hb
    rw [costD_vD hl h01]
    simpa using cost_nonneg t h.t0 hs vs f h.h
theorem costD_shad (h : OkT hs t f) : costD hs t f (vD (shad t f hs)) = sel ((W t hs).headD (0, 0)) f := by
  rw [costD_vD (shad_len t hs f) (shad_01 t hs f), shad_cost t hs f h.f01]
theorem areNums_shad (h : OkT hs t f) : areNums (vD (shad t f hs)) hs.length 0 1 = true := by
  have := areNums_vD (shad_01 t hs f)
  rw [shad_len] at this
  exact this
theorem headW_ws {w : Int × Int} {ws : List (Int × Int)} : headW (hoursD (w :: ws)) f = sel w f := rfl
theorem headW_W : headW (wD t hs) f = sel ((W t hs).headD (0, 0)) f := by
  obtain ⟨r, e⟩ := W_cons t hs
  generalize (W t hs).headD (0, 0) = b at e
  unfold wD
  rw [e]
  rfl
theorem paperOk_best (h : OkT hs t f) : paperOk hs t f (.tup [vD (shad t f hs), wD t hs]) = true := by
  simp only [paperOk, areNums_shad h, okW_W h, costD_shad h, headW_W, Bool.true_and, decide_true]
theorem vD_Dat {vs : List Int} {m : Nat} (h : vs.length ≤ m) : Dat m 1 (vD vs) := ⟨by rw [List.length_map]; exact h, fun x hx => by obtain ⟨i, _, rfl⟩ := List.mem_map.mp hx; trivial⟩
theorem hoursD_Dat {ws : List (Int × Int)} {m : Nat} (h : ws.length ≤ m) (hm : 2 ≤ m) : Dat m 2 (hoursD ws) := ⟨by rw [List.length_map]; exact h, fun x hx => by
  obtain ⟨p, _, rfl⟩ := List.mem_map.mp hx
  exact ⟨by simpa using hm, fun y hy => by simp only [List.mem_cons, List.not_mem_nil, or_false] at hy; rcases hy with rfl | rfl <;> trivial⟩⟩
theorem toldD_Dat (h : OkT hs t f) : Dat 20 3 (toldD hs t f) := ⟨by simp, fun x hx => by
  have hl := h.l1
  simp only [List.mem_cons, List.not_mem_nil, or_false] at hx
  rcases hx with rfl | rfl | rfl
  · exact hoursD_Dat (by omega) (by omega)
  · trivial
  · trivial⟩
theorem is_paper_odd {v : D} (hf : flat v = true) (ht : ∀ xs, v ≠ .tup xs) : callF P (k+6) 40 [scrD hs t f, v] M = .ok (.bl false) M := by
  rw [call_run ⟨2, 2, c40⟩]
  unfold c40
  have hi : isRow v 2 = false := by cases v <;> first | rfl | exact absurd rfl (ht _)
  simp -implicitDefEqProofs [ev_nil, ev_seq, exS.eq_1, exS.eq_2, exS.eq_3, exS.eq_4, exS.eq_5, ev_ife, ev_loop, ev_whil, exS.eq_9, exS.eq_10, exS.eq_11, exS.eq_12, exS.eq_13, evE.eq_1, evE.eq_2, evE.eq_3, evE.eq_4, evE.eq_5, evE.eq_6, ev_and, ev_or, evE.eq_9, evE.eq_10, ev_ite, ev_tup, ev_lst, lineF_ok, ev_comp, evE.eq_15, evE.eq_16, evE.eq_17, evE.eq_18, evE.eq_19, evE.eq_20, evE.eq_21, evE.eq_22, evE.eq_23, evE.eq_24, evE.eq_25, evE.eq_26, evE.eq_27, evE.eq_28, evE.eq_29, evE.eq_30, evE.eq_31, evE.eq_32, evE.eq_33, evE.eq_34, Ok_bind, Ok_fin, evEs, evO, evT, evTs, evI.eq_1, ev_rng1, ev_rng2, evI.eq_4, ev_zip, evC, startE, wipe, lenTs,is_row_call hf, hi]
theorem odd_facts {v : D} (h : v ∈ oddL) : flat v = true ∧ flat1 v = true ∧ flat2 v = true ∧ (∀ xs, v ≠ .tup xs) := by
  simp only [oddL, List.mem_cons, List.not_mem_nil, or_false] at h
  rcases h with rfl | rfl | rfl | rfl | rfl | rfl | rfl | rfl | rfl | rfl | rfl | rfl | rfl | rfl | rfl | rfl <;> exact ⟨rfl, rfl, rfl, fun xs e => nomatch e⟩
theorem areNums_odd {v : D} {n a b : Int} (ht : ∀ xs, v ≠ .tup xs) : areNums v n a b = false := by cases v <;> first | rfl | exact absurd rfl (ht _)
end K18

set_option linter.all false
set_option autoImplicit false
set_option maxRecDepth 100000
set_option maxHeartbeats 1000000
namespace K18
open PySem GW
variable {k : Nat} {M : Mem} {hs : List (Int × Int)} {t f : Int}
/-- the judging of one value -/
def j47 : CSs := (.cons (.asg (.tup (.cons (.name 10) (.cons (.name 11) .nil))) (.tup (.cons (.call 43 (.cons (.var 2) (.cons (.var 7) .nil))) (.cons (.call 45 (.cons (.var 2) (.cons (.var 8) .nil))) .nil)))) (.cons (.ife (.not (.call 17 (.cons (.tup (.cons (.call 32 (.cons (.var 5) (.cons (.var 7) .nil))) (.cons (.call 33 (.cons (.var 5) (.cons (.var 7) .nil))) (.cons (.call 38 (.cons (.var 5) (.cons (.var 8) .nil))) .nil)))) (.cons (.tup (.cons (.cmp .ge (.var 10) (.lit (.int 0))) (.cons (.var 10) (.cons (.var 11) .nil)))) .nil)))) (.cons (.ret (.lit (.bl false))) .nil) .nil) (.cons (.ife (.cmp .isnot (.call 40 (.cons (.var 5) (.cons (.tup (.cons (.var 7) (.cons (.var 8) .nil))) .nil))) (.and (.cmp .ge (.var 10) (.lit (.int 0))) (.and (.var 11) (.cmp .eq (.var 10) (.ix (.ix (.var 8) (.lit (.int 0))) (.ix (.var 2) (.lit (.int 2)))))))) (.cons (.ret (.lit (.bl false))) .nil) .nil) .nil)))
def s47 : CSs := (.cons (.asg (.tup (.cons (.name 7) (.cons (.name 8) .nil))) (.tup (.cons (.call 24 (.cons (.var 1) (.cons (.var 7) .nil))) (.cons (.call 24 (.cons (.var 1) (.cons (.var 8) .nil))) .nil)))) .nil)
theorem judge_call (h : OkT hs t f) {v w : D} (hv : data 18 v = true) (hw : data 18 w = true) (a0 a1 a3 a4 a6 a9 a10 a11 a12 : Option D) :
    ∃ b10 b11, exSs P (callF P (k+12)) j47 [a0, a1, some (toldD hs t f), a3, a4, some (scrD hs t f), a6, some v, some w, a9, a10, a11, a12] M = .ok (.nx [a0, a1, some (toldD hs t f), a3, a4, some (scrD hs t f), a6, some v, some w, a9, b10, b11, a12]) M := by
  refine ⟨some (.int (costD hs t f v)), some (.bl (okW hs t w)), ?_⟩
  have hv20 := data_mono hv (show 18 ≤ 20 by omega)
  have hw20 := data_mono hw (show 18 ≤ 20 by omega)
  have hp : data 20 (.tup [v, w]) = true := by simp only [data, dataL, data_mono hv (show 18 ≤ 19 by omega), data_mono hw (show 18 ≤ 19 by omega), Bool.and_self]
  have al : ∀ (a c : Bool) (b : Int), callF P (k+12) 17 [.tup [.bl a, .int b, .bl c], .tup [.bl a, .int b, .bl c]] M = .ok (.bl true) M := fun a c b =>
    alike_self (m := 10) (by omega) 1 _ M _ ⟨by simp, fun x hx => by simp only [List.mem_cons, List.not_mem_nil, or_false] at hx; rcases hx with rfl | rfl | rfl <;> trivial⟩ (by omega) (by omega)
  have e1 := shaded_call (k := k + 11) (M := M) h hv20
  have e2 := right_call (k := k + 10) (M := M) h hw20
  have e3 := is_shading_call (k := k + 8) (M := M) h (flat1_data hv)
  have e4 := cost_call (k := k + 7) (M := M) h (flat1_data hv)
  have e5 := are_worths_call (k := k + 8) (M := M) h (flat2_data hw)
  have e6 := is_paper_call (k := k + 6) (M := M) h hp
  have e7 := costD_ge h v
  have e8 : ixD (toldD hs t f) (.int 2) = some (.int f) := ix2 _ _ _ _
  have n1 : cmpD .isnot (.bl true) (.bl true) = some false := rfl
  have n2 : cmpD .isnot (.bl false) (.bl false) = some false := rfl
  unfold j47
  simp -implicitDefEqProofs [ev_nil, ev_seq, exS.eq_1, exS.eq_2, exS.eq_3, exS.eq_4, exS.eq_5, ev_ife, ev_loop, ev_whil, exS.eq_9, exS.eq_10, exS.eq_11, exS.eq_12, exS.eq_13, evE.eq_1, evE.eq_2, evE.eq_3, evE.eq_4, evE.eq_5, evE.eq_6, ev_and, ev_or, evE.eq_9, evE.eq_10, ev_ite, ev_tup, ev_lst, lineF_ok, ev_comp, evE.eq_15, evE.eq_16, evE.eq_17, evE.eq_18, evE.eq_19, evE.eq_20, evE.eq_21, evE.eq_22, evE.eq_23, evE.eq_24, evE.eq_25, evE.eq_26, evE.eq_27, evE.eq_28, evE.eq_29, evE.eq_30, evE.eq_31, evE.eq_32, evE.eq_33, evE.eq_34, Ok_bind, Ok_fin, evEs, evO, evT, evTs, evI.eq_1, ev_rng1, ev_rng2, evI.eq_4, ev_zip, evC, startE, wipe, lenTs,e1, e2, e3, e4, e5, e7, al]
  unfold paperOk at e6
  dsimp only at e6
  cases h1 : areNums v hs.length 0 1 with
  | false =>
    rw [h1] at e6
    simp only [Bool.false_and] at e6
    simp -implicitDefEqProofs [ev_nil, ev_seq, exS.eq_1, exS.eq_2, exS.eq_3, exS.eq_4, exS.eq_5, ev_ife, ev_loop, ev_whil, exS.eq_9, exS.eq_10, exS.eq_11, exS.eq_12, exS.eq_13, evE.eq_1, evE.eq_2, evE.eq_3, evE.eq_4, evE.eq_5, evE.eq_6, ev_and, ev_or, evE.eq_9, evE.eq_10, ev_ite, ev_tup, ev_lst, lineF_ok, ev_comp, evE.eq_15, evE.eq_16, evE.eq_17, evE.eq_18, evE.eq_19, evE.eq_20, evE.eq_21, evE.eq_22, evE.eq_23, evE.eq_24, evE.eq_25, evE.eq_26, evE.eq_27, evE.eq_28, evE.eq_29, evE.eq_30, evE.eq_31, evE.eq_32, evE.eq_33, evE.eq_34, Ok_bind, Ok_fin, evEs, evO, evT, evTs, evI.eq_1, ev_rng1, ev_rng2, evI.eq_4, ev_zip, evC, startE, wipe, lenTs,e6, n2]
  | true =>
    cases h2 : okW hs t w with
    | false =>
      rw [h1, h2] at e6
      simp only [Bool.false_and, Bool.and_false] at e6
      simp -implicitDefEqProofs [ev_nil, ev_seq, exS.eq_1, exS.eq_2, exS.eq_3, exS.eq_4, exS.eq_5, ev_ife, ev_loop, ev_whil, exS.eq_9, exS.eq_10, exS.eq_11, exS.eq_12, exS.eq_13, evE.eq_1, evE.eq_2, evE.eq_3, evE.eq_4, evE.eq_5, evE.eq_6, ev_and, ev_or, evE.eq_9, evE.eq_10, ev_ite, ev_tup, ev_lst, lineF_ok, ev_comp, evE.eq_15, evE.eq_16, evE.eq_17, evE.eq_18, evE.eq_19, evE.eq_20, evE.eq_21, evE.eq_22, evE.eq_23, evE.eq_24, evE.eq_25, evE.eq_26, evE.eq_27, evE.eq_28, evE.eq_29, evE.eq_30, evE.eq_31, evE.eq_32, evE.eq_33, evE.eq_34, Ok_bind, Ok_fin, evEs, evO, evT, evTs, evI.eq_1, ev_rng1, ev_rng2, evI.eq_4, ev_zip, evC, startE, wipe, lenTs,e6, n2]
    | true =>
      have hr : rowsOk w hs.length = true := by
        cases h3 : rowsOk w hs.length with
        | true => rfl
        | false => rw [okW_bad h3] at h2; cases h2
      obtain ⟨ws, rfl, hwl⟩ := rowsOk_ws hr
      match ws, hwl with
      | w :: ws, hwl =>
        have e0 : ixD (hoursD (w :: ws)) (.int 0) = some (hrD w) := ix0 _ _
        rw [h1, h2, headW_ws] at e6
        simp only [Bool.true_and] at e6
        by_cases hc : costD hs t f v = sel w f
        · rw [decide_eq_true hc] at e6
          have hcb : (costD hs t f v == sel w f) = true := by rw [beq_iff_eq]; exact hc
          simp -implicitDefEqProofs [ev_nil, ev_seq, exS.eq_1, exS.eq_2, exS.eq_3, exS.eq_4, exS.eq_5, ev_ife, ev_loop, ev_whil, exS.eq_9, exS.eq_10, exS.eq_11, exS.eq_12, exS.eq_13, evE.eq_1, evE.eq_2, evE.eq_3, evE.eq_4, evE.eq_5, evE.eq_6, ev_and, ev_or, evE.eq_9, evE.eq_10, ev_ite, ev_tup, ev_lst, lineF_ok, ev_comp, evE.eq_15, evE.eq_16, evE.eq_17, evE.eq_18, evE.eq_19, evE.eq_20, evE.eq_21, evE.eq_22, evE.eq_23, evE.eq_24, evE.eq_25, evE.eq_26, evE.eq_27, evE.eq_28, evE.eq_29, evE.eq_30, evE.eq_31, evE.eq_32, evE.eq_33, evE.eq_34, Ok_bind, Ok_fin, evEs, evO, evT, evTs, evI.eq_1, ev_rng1, ev_rng2, evI.eq_4, ev_zip, evC, startE, wipe, lenTs,e6, n1, e0, e8, ix_hr w h.f01, hcb]
        · rw [decide_eq_false hc] at e6
          have hcb : (costD hs t f v == sel w f) = false := by rw [beq_eq_false_iff_ne]; exact hc
          simp -implicitDefEqProofs [ev_nil, ev_seq, exS.eq_1, exS.eq_2, exS.eq_3, exS.eq_4, exS.eq_5, ev_ife, ev_loop, ev_whil, exS.eq_9, exS.eq_10, exS.eq_11, exS.eq_12, exS.eq_13, evE.eq_1, evE.eq_2, evE.eq_3, evE.eq_4, evE.eq_5, evE.eq_6, ev_and, ev_or, evE.eq_9, evE.eq_10, ev_ite, ev_tup, ev_lst, lineF_ok, ev_comp, evE.eq_15, evE.eq_16, evE.eq_17, evE.eq_18, evE.eq_19, evE.eq_20, evE.eq_21, evE.eq_22, evE.eq_23, evE.eq_24, evE.eq_25, evE.eq_26, evE.eq_27, evE.eq_28, evE.eq_29, evE.eq_30, evE.eq_31, evE.eq_32, evE.eq_33, evE.eq_34, Ok_bind, Ok_fin, evEs, evO, evT, evTs, evI.eq_1, ev_rng1, ev_rng2, evI.eq_4, ev_zip, evC, startE, wipe, lenTs,e6, n2, e0, e8, ix_hr w h.f01, hcb]
theorem spoil_step (h : OkT hs t f) {m n1 n2 : Nat} (hm : m ≤ 1000) (h1 : n1 ≤ 5) (h2 : n2 ≤ 5) {o : MO} {rest : Mem} {v w : D} (ho : RowO o) (hv : Dat m n1 v) (hw : Dat m n2 w) (d : D) (a0 a2 a3 a4 a5 a6 a9 a10 a11 a12 : Option D) :
    (bodyF P (callF P (k+12)) (.name 9) s47 d [a0, some (.ref 0), a2, a3, a4, a5, a6, some v, some w, a9, a10, a11, a12] (o :: rest)).Ok fun r M' => ∃ v' w' o', r = .nx [a0, some (.ref 0), a2, a3, a4, a5, a6, some v', some w', some d, a10, a11, a12] ∧ Dat (m + 1) (n1 + 1) v' ∧ Dat (m + 1) (n2 + 1) w' ∧ RowO o' ∧ M' = o' :: rest := by
  have sp : ∀ (n : Nat) (o : MO) (d : D) (Q : D → Mem → Prop), n ≤ 5 → RowO o → Dat m n d → (∀ (v : D) (o' : MO), Dat (m + 1) (n + 1) v → RowO o' → Q v (o' :: rest)) → (callF P (k+12) 24 [.ref 0, d] (o :: rest)).Ok Q := fun n o d Q hn ho hd hQ => by
    rw [show k + 12 = (k + (9 - n)) + n + 3 by omega]
    exact spoiled_ok hm n _ o d Q ho hd hQ
  unfold bodyF s47
  simp -implicitDefEqProofs [ev_nil, ev_seq, exS.eq_1, exS.eq_2, exS.eq_3, exS.eq_4, exS.eq_5, ev_ife, ev_loop, ev_whil, exS.eq_9, exS.eq_10, exS.eq_11, exS.eq_12, exS.eq_13, evE.eq_1, evE.eq_2, evE.eq_3, evE.eq_4, evE.eq_5, evE.eq_6, ev_and, ev_or, evE.eq_9, evE.eq_10, ev_ite, ev_tup, ev_lst, lineF_ok, ev_comp, evE.eq_15, evE.eq_16, evE.eq_17, evE.eq_18, evE.eq_19, evE.eq_20, evE.eq_21, evE.eq_22, evE.eq_23, evE.eq_24, evE.eq_25, evE.eq_26, evE.eq_27, evE.eq_28, evE.eq_29, evE.eq_30, evE.eq_31, evE.eq_32, evE.eq_33, evE.eq_34, Ok_bind, Ok_fin, evEs, evO, evT, evTs, evI.eq_1, ev_rng1, ev_rng2, evI.eq_4, ev_zip, evC, startE, wipe, lenTs]
  refine sp n1 o v _ h1 ho hv fun v' o1 hv' ho1 => ?_
  refine sp n2 o1 w _ h2 ho1 hw fun w' o2 hw' ho2 => ?_
  simp -implicitDefEqProofs [ev_nil, ev_seq, exS.eq_1, exS.eq_2, exS.eq_3, exS.eq_4, exS.eq_5, ev_ife, ev_loop, ev_whil, exS.eq_9, exS.eq_10, exS.eq_11, exS.eq_12, exS.eq_13, evE.eq_1, evE.eq_2, evE.eq_3, evE.eq_4, evE.eq_5, evE.eq_6, ev_and, ev_or, evE.eq_9, evE.eq_10, ev_ite, ev_tup, ev_lst, lineF_ok, ev_comp, evE.eq_15, evE.eq_16, evE.eq_17, evE.eq_18, evE.eq_19, evE.eq_20, evE.eq_21, evE.eq_22, evE.eq_23, evE.eq_24, evE.eq_25, evE.eq_26, evE.eq_27, evE.eq_28, evE.eq_29, evE.eq_30, evE.eq_31, evE.eq_32, evE.eq_33, evE.eq_34, Ok_bind, Ok_fin, evEs, evO, evT, evTs, evI.eq_1, ev_rng1, ev_rng2, evI.eq_4, ev_zip, evC, startE, wipe, lenTs]
  exact ⟨v', w', ⟨rfl, rfl⟩, hv', hw', ho2⟩
end K18

set_option linter.all false
set_option autoImplicit false
set_option maxRecDepth 100000
set_option maxHeartbeats 1000000
namespace K18
open PySem GW
variable {k : Nat} {M : Mem} {hs : List (Int × Int)} {t f : Int}
def pk47 : CSs := (.cons (.asg (.tup (.cons (.name 7) (.cons (.name 8) .nil))) (.tup (.cons (.call 16 (.cons (.var 1) (.cons (.lst false (.cons (.call 36 (.cons (.var 5) .nil)) (.cons (.blt .tuple (.cons (.comp false [12] (.name 12) (.seq (.ix (.var 2) (.lit (.int 0)))) .no (.call 15 (.cons (.var 1) (.cons (.lit (.int 2)) .nil)))) .nil)) .nil))) .nil))) (.cons (.call 35 (.cons (.var 5) .nil)) .nil)))) (.cons (.ife (.cmp .eq (.call 15 (.cons (.var 1) (.cons (.lit (.int 3)) .nil))) (.lit (.int 0))) (.cons (.asg (.name 8) (.blt .tuple (.cons (.comp false [12] (.name 12) (.seq (.var 8)) .no (.tup (.cons (.blt .max2 (.cons (.lit (.int 0)) (.cons (.bin .sub (.ix (.var 12) (.lit (.int 0))) (.lit (.int 1))) .nil))) (.cons (.blt .max2 (.cons (.lit (.int 0)) (.cons (.bin .sub (.ix (.var 12) (.lit (.int 1))) (.lit (.int 1))) .nil))) .nil)))) .nil))) .nil) .nil) (.cons (.loop (.name 9) (.rng1 (.call 15 (.cons (.var 1) (.cons (.lit (.int 3)) .nil)))) s47) j47)))
theorem all2_ints : ∀ {ds xs : List D}, All2 (fun _ x => ∃ i : Int, x = .int i) ds xs → ∃ vs : List Int, xs = vs.map .int ∧ vs.length = ds.length := by
  intro ds xs h
  induction h with
  | nil => exact ⟨[], rfl, rfl⟩
  | cons hp _ ih =>
    obtain ⟨i, rfl⟩ := hp
    obtain ⟨vs, rfl, h3⟩ := ih
    exact ⟨i :: vs, rfl, by rw [List.length_cons, List.length_cons, h3]⟩
theorem turn_ok (h : OkT hs t f) {o : MO} {rest : Mem} (ho : RowO o) (d : D) (a0 a3 a4 a6 a7 a8 a9 a10 a11 a12 : Option D) :
    Hold ((bodyF P (callF P (k+12)) (.name 3) pk47 d [a0, some (.ref 0), some (toldD hs t f), a3, a4, some (scrD hs t f), a6, a7, a8, a9, a10, a11, a12] (o :: rest)).Ok fun r M' => ∃ o' b3 b7 b8 b9 b10 b11 b12, r = .nx [a0, some (.ref 0), some (toldD hs t f), b3, a4, some (scrD hs t f), a6, b7, b8, b9, b10, b11, b12] ∧ RowO o' ∧ M' = o' :: rest) := by
  constructor
  unfold bodyF pk47
  have hl := h.l1
  have e0 : ixD (toldD hs t f) (.int 0) = some (hoursD hs) := ix0 _ _
  have hlf : ∀ r : Out D, lineF (hs.map hrD) r = r := lineF_ok (by rw [List.length_map]; omega)
  have e1 := fun M => shading_call (k := k + 9) (M := M) h
  have e2 := fun M => worths_call (k := k + 10) (M := M) h
  simp -implicitDefEqProofs [ev_nil, ev_seq, exS.eq_1, exS.eq_2, exS.eq_3, exS.eq_4, exS.eq_5, ev_ife, ev_loop, ev_whil, exS.eq_9, exS.eq_10, exS.eq_11, exS.eq_12, exS.eq_13, evE.eq_1, evE.eq_2, evE.eq_3, evE.eq_4, evE.eq_5, evE.eq_6, ev_and, ev_or, evE.eq_9, evE.eq_10, ev_ite, ev_tup, ev_lst, lineF_ok, ev_comp, evE.eq_15, evE.eq_16, evE.eq_17, evE.eq_18, evE.eq_19, evE.eq_20, evE.eq_21, evE.eq_22, evE.eq_23, evE.eq_24, evE.eq_25, evE.eq_26, evE.eq_27, evE.eq_28, evE.eq_29, evE.eq_30, evE.eq_31, evE.eq_32, evE.eq_33, evE.eq_34, Ok_bind, Ok_fin, evEs, evO, evT, evTs, evI.eq_1, ev_rng1, ev_rng2, evI.eq_4, ev_zip, evC, startE, wipe, lenTs,e0, items_hours, hlf, e1, e2]
  refine (compL_ok (fun M => ∃ o', M = o' :: rest ∧ RowO o') (fun _ x => ∃ i : Int, x = .int i) ⟨o, rfl, ho⟩ ?_).imp ?_
  · rintro d hd Z ⟨o3, rfl, ho3⟩
    simp -implicitDefEqProofs [ev_nil, ev_seq, exS.eq_1, exS.eq_2, exS.eq_3, exS.eq_4, exS.eq_5, ev_ife, ev_loop, ev_whil, exS.eq_9, exS.eq_10, exS.eq_11, exS.eq_12, exS.eq_13, evE.eq_1, evE.eq_2, evE.eq_3, evE.eq_4, evE.eq_5, evE.eq_6, ev_and, ev_or, evE.eq_9, evE.eq_10, ev_ite, ev_tup, ev_lst, lineF_ok, ev_comp, evE.eq_15, evE.eq_16, evE.eq_17, evE.eq_18, evE.eq_19, evE.eq_20, evE.eq_21, evE.eq_22, evE.eq_23, evE.eq_24, evE.eq_25, evE.eq_26, evE.eq_27, evE.eq_28, evE.eq_29, evE.eq_30, evE.eq_31, evE.eq_32, evE.eq_33, evE.eq_34, Ok_bind, Ok_fin, evEs, evO, evT, evTs, evI.eq_1, ev_rng1, ev_rng2, evI.eq_4, ev_zip, evC, startE, wipe, lenTs,itemF_of]
    refine taken_ok ho3 (by omega) (by omega) fun a o4 ha1 ha2 ho4 => ?_
    simp -implicitDefEqProofs [ev_nil, ev_seq, exS.eq_1, exS.eq_2, exS.eq_3, exS.eq_4, exS.eq_5, ev_ife, ev_loop, ev_whil, exS.eq_9, exS.eq_10, exS.eq_11, exS.eq_12, exS.eq_13, evE.eq_1, evE.eq_2, evE.eq_3, evE.eq_4, evE.eq_5, evE.eq_6, ev_and, ev_or, evE.eq_9, evE.eq_10, ev_ite, ev_tup, ev_lst, lineF_ok, ev_comp, evE.eq_15, evE.eq_16, evE.eq_17, evE.eq_18, evE.eq_19, evE.eq_20, evE.eq_21, evE.eq_22, evE.eq_23, evE.eq_24, evE.eq_25, evE.eq_26, evE.eq_27, evE.eq_28, evE.eq_29, evE.eq_30, evE.eq_31, evE.eq_32, evE.eq_33, evE.eq_34, Ok_bind, Ok_fin, evEs, evO, evT, evTs, evI.eq_1, ev_rng1, ev_rng2, evI.eq_4, ev_zip, evC, startE, wipe, lenTs]
    exact ho4
  rintro xs Z ⟨⟨o3, rfl, ho3⟩, hall⟩
  obtain ⟨vs, rfl, hvl⟩ := all2_ints hall
  rw [List.length_map] at hvl
  refine pick_ok ho3 (by simp) (by simp) fun v o4 hv ho4 => ?_
  have hvD : Dat 13 1 v := by
    simp only [List.mem_cons, List.not_mem_nil, or_false] at hv
    rcases hv with rfl | rfl
    · exact vD_Dat (by rw [shad_len]; omega)
    · exact vD_Dat (by omega)
  refine taken_ok ho4 (by omega) (by omega) fun c o5 hc1 hc2 ho5 => ?_
  -- the rest, whatever the second is
  have tail : ∀ (w : D) (b12 : Option D), Dat 13 2 w → ∀ Q : Fl → Mem → Prop, (∀ r M', (∃ o' b3 b7 b8 b9 b10 b11 b12, r = .nx [a0, some (.ref 0), some (toldD hs t f), b3, a4, some (scrD hs t f), a6, b7, b8, b9, b10, b11, b12] ∧ RowO o' ∧ M' = o' :: rest) → Q r M') →
      (exSs P (callF P (k+12)) (.cons (.loop (.name 9) (.rng1 (.call 15 (.cons (.var 1) (.cons (.lit (.int 3)) .nil)))) s47) j47) [a0, some (.ref 0), some (toldD hs t f), some d, a4, some (scrD hs t f), a6, some v, some w, a9, a10, a11, b12] (o5 :: rest)).Ok Q := by
    intro w b12 hw Q hQ
    simp -implicitDefEqProofs [ev_nil, ev_seq, exS.eq_1, exS.eq_2, exS.eq_3, exS.eq_4, exS.eq_5, ev_ife, ev_loop, ev_whil, exS.eq_9, exS.eq_10, exS.eq_11, exS.eq_12, exS.eq_13, evE.eq_1, evE.eq_2, evE.eq_3, evE.eq_4, evE.eq_5, evE.eq_6, ev_and, ev_or, evE.eq_9, evE.eq_10, ev_ite, ev_tup, ev_lst, lineF_ok, ev_comp, evE.eq_15, evE.eq_16, evE.eq_17, evE.eq_18, evE.eq_19, evE.eq_20, evE.eq_21, evE.eq_22, evE.eq_23, evE.eq_24, evE.eq_25, evE.eq_26, evE.eq_27, evE.eq_28, evE.eq_29, evE.eq_30, evE.eq_31, evE.eq_32, evE.eq_33, evE.eq_34, Ok_bind, Ok_fin, evEs, evO, evT, evTs, evI.eq_1, ev_rng1, ev_rng2, evI.eq_4, ev_zip, evC, startE, wipe, lenTs]
    refine taken_ok ho5 (by omega) (by omega) fun n o6 hn1 hn2 ho6 => ?_
    have hr := fun M => rngF_of (i := n) (by omega) (by omega) M
    simp -implicitDefEqProofs [ev_nil, ev_seq, exS.eq_1, exS.eq_2, exS.eq_3, exS.eq_4, exS.eq_5, ev_ife, ev_loop, ev_whil, exS.eq_9, exS.eq_10, exS.eq_11, exS.eq_12, exS.eq_13, evE.eq_1, evE.eq_2, evE.eq_3, evE.eq_4, evE.eq_5, evE.eq_6, ev_and, ev_or, evE.eq_9, evE.eq_10, ev_ite, ev_tup, ev_lst, lineF_ok, ev_comp, evE.eq_15, evE.eq_16, evE.eq_17, evE.eq_18, evE.eq_19, evE.eq_20, evE.eq_21, evE.eq_22, evE.eq_23, evE.eq_24, evE.eq_25, evE.eq_26, evE.eq_27, evE.eq_28, evE.eq_29, evE.eq_30, evE.eq_31, evE.eq_32, evE.eq_33, evE.eq_34, Ok_bind, Ok_fin, evEs, evO, evT, evTs, evI.eq_1, ev_rng1, ev_rng2, evI.eq_4, ev_zip, evC, startE, wipe, lenTs,hr]
    refine forL_ok (fun i ρ M' => i ≤ 2 ∧ ∃ v w o' b9, ρ = [a0, some (.ref 0), some (toldD hs t f), some d, a4, some (scrD hs t f), a6, some v, some w, b9, a10, a11, b12] ∧ Dat (13 + i) (1 + i) v ∧ Dat (13 + i) (2 + i) w ∧ RowO o' ∧ M' = o' :: rest) _ 0 _ _ ?_ ?_ ?_
    · exact ⟨by omega, v, w, o6, a9, rfl, hvD, hw, ho6, rfl⟩
    · rintro i dd ρ Z hd ⟨hi2, v1, w1, o7, b9, rfl, hv1, hw1, ho7, rfl⟩
      obtain ⟨rfl, hi⟩ := rngD_get_e _ _ _ _ hd
      refine (spoil_step h (by omega) (by omega) (by omega) ho7 hv1 hw1 _ a0 (some (toldD hs t f)) (some d) a4 (some (scrD hs t f)) a6 b9 a10 a11 b12).imp ?_
      rintro r M' ⟨v2, w2, o8, rfl, hv2, hw2, ho8, rfl⟩
      exact ⟨by omega, v2, w2, o8, _, rfl, hv2, hw2, ho8, rfl⟩
    · rintro ρ Z ⟨hi2, v1, w1, o7, b9, rfl, hv1, hw1, ho7, rfl⟩
      rw [rngD_length] at hi2 hv1 hw1
      have q1 := data_mono hv1.data (show 1 + (0 + n.toNat) ≤ 18 by omega)
      have q2 := data_mono hw1.data (show 2 + (0 + n.toNat) ≤ 18 by omega)
      obtain ⟨b10, b11, e⟩ := judge_call (k := k) (M := o7 :: rest) h q1 q2 a0 (some (.ref 0)) (some d) a4 a6 b9 a10 a11 b12
      rw [seqF_nx, e, Ok_ok]
      exact hQ _ _ ⟨o7, _, _, _, _, _, _, _, rfl, ho7, rfl⟩
  have hwl : (W t hs).length ≤ 13 := by rw [W_len]; omega
  have hwD : Dat 13 2 (wD t hs) := hoursD_Dat hwl (by omega)
  have fin : ∀ (w : D) (b12 : Option D), Dat 13 2 w → (exSs P (callF P (k+12)) (.cons (.loop (.name 9) (.rng1 (.call 15 (.cons (.var 1) (.cons (.lit (.int 3)) .nil)))) s47) j47) [a0, some (.ref 0), some (toldD hs t f), some d, a4, some (scrD hs t f), a6, some v, some w, a9, a10, a11, b12] (o5 :: rest)).Ok fun r M' => (∃ x x_1 x_2 x_3 x_4 x_5 x_6, r = Fl.nx [a0, some (D.ref 0), some (toldD hs t f), x, a4, some (scrD hs t f), a6, x_1, x_2, x_3, x_4, x_5, x_6]) ∧ ∃ x, RowO x ∧ M' = x :: rest := fun w b12 hw => by
    refine tail w b12 hw _ ?_
    rintro r M' ⟨o', b3, b7, b8, b9, b10, b11, b12, rfl, h1, rfl⟩
    exact ⟨⟨_, _, _, _, _, _, _, rfl⟩, o', h1, rfl⟩
  by_cases hc0 : c = 0
  · subst hc0
    have hwlf : ∀ r : Out D, lineF ((W t hs).map hrD) r = r := lineF_ok (by rw [List.length_map]; omega)
    have hre : ∀ M, exSs P (callF P (k+12)) (.cons (.asg (.name 8) (.blt .tuple (.cons (.comp false [12] (.name 12) (.seq (.var 8)) .no (.tup (.cons (.blt .max2 (.cons (.lit (.int 0)) (.cons (.bin .sub (.ix (.var 12) (.lit (.int 0))) (.lit (.int 1))) .nil))) (.cons (.blt .max2 (.cons (.lit (.int 0)) (.cons (.bin .sub (.ix (.var 12) (.lit (.int 1))) (.lit (.int 1))) .nil))) .nil)))) .nil))) .nil) [a0, some (.ref 0), some (toldD hs t f), some d, a4, some (scrD hs t f), a6, some v, some (wD t hs), a9, a10, a11, a12] M =
        .ok (.nx [a0, some (.ref 0), some (toldD hs t f), some d, a4, some (scrD hs t f), a6, some v, some (hoursD ((W t hs).map fun p => (if p.1 - 1 > 0 then p.1 - 1 else 0, if p.2 - 1 > 0 then p.2 - 1 else 0))), a9, a10, a11, a12]) M := by
      intro M
      have hit : itemsD (wD t hs) = some ((W t hs).map hrD) := rfl
      have hcomp : compL (itemF P (callF P (k+12)) [12] (.name 12) .no (.tup (.cons (.blt .max2 (.cons (.lit (.int 0)) (.cons (.bin .sub (.ix (.var 12) (.lit (.int 0))) (.lit (.int 1))) .nil))) (.cons (.blt .max2 (.cons (.lit (.int 0)) (.cons (.bin .sub (.ix (.var 12) (.lit (.int 1))) (.lit (.int 1))) .nil))) .nil))) [a0, some (.ref 0), some (toldD hs t f), some d, a4, some (scrD hs t f), a6, some v, some (wD t hs), a9, a10, a11, a12]) ((W t hs).map hrD) M = .ok ((W t hs).map fun p => hrD (if p.1 - 1 > 0 then p.1 - 1 else 0, if p.2 - 1 > 0 then p.2 - 1 else 0)) M := by
        refine compL_on fun p hp => ?_
        have i0 : ixD (hrD p) (.int 0) = some (.int p.1) := ix0 _ _
        have i1 : ixD (hrD p) (.int 1) = some (.int p.2) := ix1 _ _ _
        have mx : ∀ i j : Int, bltD .max2 [.int i, .int j] = some (.int (if j > i then j else i)) := fun i j => rfl
        simp -implicitDefEqProofs [ev_nil, ev_seq, exS.eq_1, exS.eq_2, exS.eq_3, exS.eq_4, exS.eq_5, ev_ife, ev_loop, ev_whil, exS.eq_9, exS.eq_10, exS.eq_11, exS.eq_12, exS.eq_13, evE.eq_1, evE.eq_2, evE.eq_3, evE.eq_4, evE.eq_5, evE.eq_6, ev_and, ev_or, evE.eq_9, evE.eq_10, ev_ite, ev_tup, ev_lst, lineF_ok, ev_comp, evE.eq_15, evE.eq_16, evE.eq_17, evE.eq_18, evE.eq_19, evE.eq_20, evE.eq_21, evE.eq_22, evE.eq_23, evE.eq_24, evE.eq_25, evE.eq_26, evE.eq_27, evE.eq_28, evE.eq_29, evE.eq_30, evE.eq_31, evE.eq_32, evE.eq_33, evE.eq_34, Ok_bind, Ok_fin, evEs, evO, evT, evTs, evI.eq_1, ev_rng1, ev_rng2, evI.eq_4, ev_zip, evC, startE, wipe, lenTs,itemF_of, ix0, ix1, mx, calm_ok, hrD]
      simp -implicitDefEqProofs [ev_nil, ev_seq, exS.eq_1, exS.eq_2, exS.eq_3, exS.eq_4, exS.eq_5, ev_ife, ev_loop, ev_whil, exS.eq_9, exS.eq_10, exS.eq_11, exS.eq_12, exS.eq_13, evE.eq_1, evE.eq_2, evE.eq_3, evE.eq_4, evE.eq_5, evE.eq_6, ev_and, ev_or, evE.eq_9, evE.eq_10, ev_ite, ev_tup, ev_lst, lineF_ok, ev_comp, evE.eq_15, evE.eq_16, evE.eq_17, evE.eq_18, evE.eq_19, evE.eq_20, evE.eq_21, evE.eq_22, evE.eq_23, evE.eq_24, evE.eq_25, evE.eq_26, evE.eq_27, evE.eq_28, evE.eq_29, evE.eq_30, evE.eq_31, evE.eq_32, evE.eq_33, evE.eq_34, Ok_bind, Ok_fin, evEs, evO, evT, evTs, evI.eq_1, ev_rng1, ev_rng2, evI.eq_4, ev_zip, evC, startE, wipe, lenTs,hit, hwlf, hcomp, hoursD]
    have hb0 : ((0 : Int) == 0) = true := rfl
    simp only [rd_int, eq_int, hb0, Option.map_some, of_some, Ok_ok, truth_bl, rd_bl, ifS_true, hre, seqF_nx]
    exact fin _ _ (hoursD_Dat (by rw [List.length_map]; exact hwl) (by omega))
  · have hcb : (c == 0) = false := by rw [beq_eq_false_iff_ne]; exact hc0
    simp only [rd_int, eq_int, hcb, Option.map_some, of_some, Ok_ok, truth_bl, rd_bl, ifS_false, ev_nil, seqF_nx]
    exact fin _ _ hwD
end K18

set_option linter.all false
set_option autoImplicit false
set_option maxRecDepth 100000
set_option maxHeartbeats 1000000
namespace K18
open PySem GW
variable {k : Nat} {M : Mem} {hs : List (Int × Int)} {t f : Int}
theorem law_core (k : Nat) (ss : List Int) : (callF P (k+13) 47 [.lst (ss.map .int)] []).Ok fun v _ => v = .bl true := by
  rw [call_run ⟨1, 13, c47⟩]
  unfold c47
  simp -implicitDefEqProofs [ev_nil, ev_seq, exS.eq_1, exS.eq_2, exS.eq_3, exS.eq_4, exS.eq_5, ev_ife, ev_loop, ev_whil, exS.eq_9, exS.eq_10, exS.eq_11, exS.eq_12, exS.eq_13, evE.eq_1, evE.eq_2, evE.eq_3, evE.eq_4, evE.eq_5, evE.eq_6, ev_and, ev_or, evE.eq_9, evE.eq_10, ev_ite, ev_tup, ev_lst, lineF_ok, ev_comp, evE.eq_15, evE.eq_16, evE.eq_17, evE.eq_18, evE.eq_19, evE.eq_20, evE.eq_21, evE.eq_22, evE.eq_23, evE.eq_24, evE.eq_25, evE.eq_26, evE.eq_27, evE.eq_28, evE.eq_29, evE.eq_30, evE.eq_31, evE.eq_32, evE.eq_33, evE.eq_34, Ok_bind, Ok_fin, evEs, evO, evT, evTs, evI.eq_1, ev_rng1, ev_rng2, evI.eq_4, ev_zip, evC, startE, wipe, lenTs]
  have ho : RowO (.lst [.lst (ss.map .int), .int 0, .int 7018, .int 0]) := ⟨ss, 0, 7018, 0, rfl, by omega⟩
  refine screens_ok ho fun hs t f o1 h ho1 => ?_
  have hl := h.l1
  have n1 := fun M => new_ok (k := k + 4) (M := M) h
  have n2 := fun M => least_law_call (k := k + 11) (M := M) h
  have n3 := fun M => least_call (k := k + 9) (M := M) h
  have hW := least_W t f h.f01 hs h.l0
  have al : ∀ M, callF P (k+12) 17 [.tup [toldD hs t f, hoursD hs, .int t, .int f, .int (least t f hs)], .tup [toldD hs t f, hoursD hs, .int t, .int f, .int (least t f hs)]] M = .ok (.bl true) M := fun M =>
    alike_self (m := 20) (by omega) 4 _ M _ ⟨by simp, fun x hx => by
      simp only [List.mem_cons, List.not_mem_nil, or_false] at hx
      rcases hx with rfl | rfl | rfl | rfl | rfl
      · exact toldD_Dat h
      · exact (hoursD_Dat (m := 20) (by omega) (by omega)).mono (n := 2) (n' := 3) (Nat.le_refl _) (by omega)
      · trivial
      · trivial
      · trivial⟩ (by omega) (by omega)
  have c1 : binD .add (.tup [toldD hs t f]) (toldD hs t f) = some (.tup [toldD hs t f, hoursD hs, .int t, .int f]) := cat_tup (xs := [toldD hs t f]) (ys := [hoursD hs, .int t, .int f]) (by simp)
  have c2 : binD .add (.tup [toldD hs t f, hoursD hs, .int t, .int f]) (.tup [.int (least t f hs)]) = some (.tup [toldD hs t f, hoursD hs, .int t, .int f, .int (least t f hs)]) := cat_tup (xs := [toldD hs t f, hoursD hs, .int t, .int f]) (ys := [.int (least t f hs)]) (by simp)
  have t1 : cmpD .isnot (.bl true) (.bl true) = some false := rfl
  rw [← hW] at n3
  have p1 := fun M => shading_call (k := k + 9) (M := M) h
  have p2 := fun M => worths_call (k := k + 10) (M := M) h
  have p3 := fun M => paper_call (k := k + 8) (M := M) h
  have hft : flat (toldD hs t f) = true := rfl
  have d20 : data 20 (.tup [vD (shad t f hs), wD t hs]) = true := by
    simp only [data, dataL, data_mono (vD_data _) (show 1 ≤ 19 by omega), wD_W, data_mono (hoursD_data _) (show 2 ≤ 19 by omega), Bool.and_self]
  have s1 := fun M => shaded_call (k := k + 11) (M := M) h (v := vD (shad t f hs)) (data_mono (vD_data _) (by omega))
  have s2 := fun M => right_call (k := k + 10) (M := M) h (v := wD t hs) (data_mono (hoursD_data (W t hs)) (by omega))
  have s3 := fun M => is_paper_call (k := k + 6) (M := M) h d20
  rw [costD_shad h, ← hW] at s1
  rw [okW_W h] at s2
  rw [paperOk_best h] at s3
  have e0 : ixD (wD t hs) (.int 0) = some (hrD ((W t hs).headD (0, 0))) := W_0 t hs
  have e8 : ixD (toldD hs t f) (.int 2) = some (.int f) := ix2 _ _ _ _
  have e9 := ix_hr ((W t hs).headD (0, 0)) h.f01
  rw [← hW] at e9
  generalize least t f hs = L at *
  generalize (W t hs).headD (0, 0) = hb0 at *
  have hLL : (L == L) = true := by simp
  have nb : cmpD .ne (.int L) (.int L) = some false := by simp
  have body1 : ∀ (M : Mem) (a7 a8 : Option D), bodyF P (callF P (k + 12)) (CT.tup (CTs.cons (CT.name 7) (CTs.cons (CT.name 8) CTs.nil)))
        (CSs.cons (CS.ife ((CE.cmp COp.ne (CE.call 43 (CEs.cons (CE.var 2) (CEs.cons (CE.var 7) CEs.nil))) (CE.var 6)).or
              ((CE.call 45 (CEs.cons (CE.var 2) (CEs.cons (CE.var 8) CEs.nil))).not.or
                ((CE.cmp COp.ne (((CE.var 8).ix (CE.lit (D.int 0))).ix ((CE.var 2).ix (CE.lit (D.int 2)))) (CE.var 6)).or
                  (CE.call 40 (CEs.cons (CE.var 5) (CEs.cons (CE.tup (CEs.cons (CE.var 7) (CEs.cons (CE.var 8) CEs.nil))) CEs.nil))).not)))
            (CSs.cons (CS.ret (CE.lit (D.bl false))) CSs.nil) CSs.nil) CSs.nil)
        (D.tup [vD (shad t f hs), wD t hs]) [some (D.lst (List.map D.int ss)), some (D.ref 0), some (toldD hs t f), none, none, some (scrD hs t f), some (D.int L), a7, a8, none, none, none, none] M =
      .ok (.nx [some (D.lst (List.map D.int ss)), some (D.ref 0), some (toldD hs t f), none, none, some (scrD hs t f), some (D.int L), some (vD (shad t f hs)), some (wD t hs), none, none, none, none]) M := by
    intro M a7 a8
    unfold bodyF
    simp -implicitDefEqProofs [ev_nil, ev_seq, exS.eq_1, exS.eq_2, exS.eq_3, exS.eq_4, exS.eq_5, ev_ife, ev_loop, ev_whil, exS.eq_9, exS.eq_10, exS.eq_11, exS.eq_12, exS.eq_13, evE.eq_1, evE.eq_2, evE.eq_3, evE.eq_4, evE.eq_5, evE.eq_6, ev_and, ev_or, evE.eq_9, evE.eq_10, ev_ite, ev_tup, ev_lst, lineF_ok, ev_comp, evE.eq_15, evE.eq_16, evE.eq_17, evE.eq_18, evE.eq_19, evE.eq_20, evE.eq_21, evE.eq_22, evE.eq_23, evE.eq_24, evE.eq_25, evE.eq_26, evE.eq_27, evE.eq_28, evE.eq_29, evE.eq_30, evE.eq_31, evE.eq_32, evE.eq_33, evE.eq_34, Ok_bind, Ok_fin, evEs, evO, evT, evTs, evI.eq_1, ev_rng1, ev_rng2, evI.eq_4, ev_zip, evC, startE, wipe, lenTs,s1, s2, s3, e0, e8, e9, nb]
  simp -implicitDefEqProofs [ev_nil, ev_seq, exS.eq_1, exS.eq_2, exS.eq_3, exS.eq_4, exS.eq_5, ev_ife, ev_loop, ev_whil, exS.eq_9, exS.eq_10, exS.eq_11, exS.eq_12, exS.eq_13, evE.eq_1, evE.eq_2, evE.eq_3, evE.eq_4, evE.eq_5, evE.eq_6, ev_and, ev_or, evE.eq_9, evE.eq_10, ev_ite, ev_tup, ev_lst, lineF_ok, ev_comp, evE.eq_15, evE.eq_16, evE.eq_17, evE.eq_18, evE.eq_19, evE.eq_20, evE.eq_21, evE.eq_22, evE.eq_23, evE.eq_24, evE.eq_25, evE.eq_26, evE.eq_27, evE.eq_28, evE.eq_29, evE.eq_30, evE.eq_31, evE.eq_32, evE.eq_33, evE.eq_34, Ok_bind, Ok_fin, evEs, evO, evT, evTs, evI.eq_1, ev_rng1, ev_rng2, evI.eq_4, ev_zip, evC, startE, wipe, lenTs,n1, n2, n3, getF, c1, c2, al, are_screens_scr, t1, are_screens_not hft, p1, p2, p3, forL]
  rw [body1, Ok_ok]
  dsimp only
  rw [body1, bind_ok]
  have hr14 := rngF_of (i := 14) (by omega) (by omega) [o1]
  simp -implicitDefEqProofs [ev_nil, ev_seq, exS.eq_1, exS.eq_2, exS.eq_3, exS.eq_4, exS.eq_5, ev_ife, ev_loop, ev_whil, exS.eq_9, exS.eq_10, exS.eq_11, exS.eq_12, exS.eq_13, evE.eq_1, evE.eq_2, evE.eq_3, evE.eq_4, evE.eq_5, evE.eq_6, ev_and, ev_or, evE.eq_9, evE.eq_10, ev_ite, ev_tup, ev_lst, lineF_ok, ev_comp, evE.eq_15, evE.eq_16, evE.eq_17, evE.eq_18, evE.eq_19, evE.eq_20, evE.eq_21, evE.eq_22, evE.eq_23, evE.eq_24, evE.eq_25, evE.eq_26, evE.eq_27, evE.eq_28, evE.eq_29, evE.eq_30, evE.eq_31, evE.eq_32, evE.eq_33, evE.eq_34, Ok_bind, Ok_fin, evEs, evO, evT, evTs, evI.eq_1, ev_rng1, ev_rng2, evI.eq_4, ev_zip, evC, startE, wipe, lenTs,hr14]
  refine forL_ok (fun n ρ M' => ∃ o' b3 b7 b8 b9 b10 b11 b12, ρ = [some (D.lst (List.map D.int ss)), some (D.ref 0), some (toldD hs t f), b3, none, some (scrD hs t f), some (D.int L), b7, b8, b9, b10, b11, b12] ∧ RowO o' ∧ M' = o' :: []) _ 0 _ _ ?_ ?_ ?_
  · exact ⟨o1, _, _, _, _, _, _, _, rfl, ho1, rfl⟩
  · intro i d ρ Z hd hI
    clear hd
    obtain ⟨o2, b3, b7, b8, b9, b10, b11, b12, e1, ho2, e2⟩ := hI
    subst e1 e2
    have tk := turn_ok (k := k) (rest := []) h ho2 d (some (D.lst (List.map D.int ss))) b3 none (some (D.int L)) b7 b8 b9 b10 b11 b12
    unfold pk47 s47 j47 at tk
    refine Hold.imp tk ?_
    rintro r M' ⟨o3, c3, c7, c8, c9, c10, c11, c12, rfl, ho3, rfl⟩
    exact ⟨o3, _, _, _, _, _, _, _, rfl, ho3, rfl⟩
  · rintro ρ Z ⟨o2, b3, b7, b8, b9, b10, b11, b12, rfl, ho2, rfl⟩
    simp -implicitDefEqProofs [ev_nil, ev_seq, exS.eq_1, exS.eq_2, exS.eq_3, exS.eq_4, exS.eq_5, ev_ife, ev_loop, ev_whil, exS.eq_9, exS.eq_10, exS.eq_11, exS.eq_12, exS.eq_13, evE.eq_1, evE.eq_2, evE.eq_3, evE.eq_4, evE.eq_5, evE.eq_6, ev_and, ev_or, evE.eq_9, evE.eq_10, ev_ite, ev_tup, ev_lst, lineF_ok, ev_comp, evE.eq_15, evE.eq_16, evE.eq_17, evE.eq_18, evE.eq_19, evE.eq_20, evE.eq_21, evE.eq_22, evE.eq_23, evE.eq_24, evE.eq_25, evE.eq_26, evE.eq_27, evE.eq_28, evE.eq_29, evE.eq_30, evE.eq_31, evE.eq_32, evE.eq_33, evE.eq_34, Ok_bind, Ok_fin, evEs, evO, evT, evTs, evI.eq_1, ev_rng1, ev_rng2, evI.eq_4, ev_zip, evC, startE, wipe, lenTs]
    refine odd_ok ho2 fun v o3 hv ho3 => ?_
    obtain ⟨q1, q2, q3, q4⟩ := odd_facts hv
    have r1 := fun M => is_shading_call (k := k + 8) (M := M) h q2
    have r2 := fun M => are_worths_call (k := k + 8) (M := M) h q3
    have r3 := fun M => is_paper_odd (k := k + 6) (M := M) (hs := hs) (t := t) (f := f) q1 q4
    have r4 := fun M => cost_call (k := k + 7) (M := M) h q2
    have w0 : costD hs t f v = -1 := by unfold costD; rw [areNums_odd q4]; rfl
    rw [areNums_odd q4] at r1
    rw [okW_notup q4] at r2
    rw [w0] at r4
    simp -implicitDefEqProofs [ev_nil, ev_seq, exS.eq_1, exS.eq_2, exS.eq_3, exS.eq_4, exS.eq_5, ev_ife, ev_loop, ev_whil, exS.eq_9, exS.eq_10, exS.eq_11, exS.eq_12, exS.eq_13, evE.eq_1, evE.eq_2, evE.eq_3, evE.eq_4, evE.eq_5, evE.eq_6, ev_and, ev_or, evE.eq_9, evE.eq_10, ev_ite, ev_tup, ev_lst, lineF_ok, ev_comp, evE.eq_15, evE.eq_16, evE.eq_17, evE.eq_18, evE.eq_19, evE.eq_20, evE.eq_21, evE.eq_22, evE.eq_23, evE.eq_24, evE.eq_25, evE.eq_26, evE.eq_27, evE.eq_28, evE.eq_29, evE.eq_30, evE.eq_31, evE.eq_32, evE.eq_33, evE.eq_34, Ok_bind, Ok_fin, evEs, evO, evT, evTs, evI.eq_1, ev_rng1, ev_rng2, evI.eq_4, ev_zip, evC, startE, wipe, lenTs,r1, r2, r3, r4]
    refine refused_ok h ho3 fun M' => ?_
    simp -implicitDefEqProofs [ev_nil, ev_seq, exS.eq_1, exS.eq_2, exS.eq_3, exS.eq_4, exS.eq_5, ev_ife, ev_loop, ev_whil, exS.eq_9, exS.eq_10, exS.eq_11, exS.eq_12, exS.eq_13, evE.eq_1, evE.eq_2, evE.eq_3, evE.eq_4, evE.eq_5, evE.eq_6, ev_and, ev_or, evE.eq_9, evE.eq_10, ev_ite, ev_tup, ev_lst, lineF_ok, ev_comp, evE.eq_15, evE.eq_16, evE.eq_17, evE.eq_18, evE.eq_19, evE.eq_20, evE.eq_21, evE.eq_22, evE.eq_23, evE.eq_24, evE.eq_25, evE.eq_26, evE.eq_27, evE.eq_28, evE.eq_29, evE.eq_30, evE.eq_31, evE.eq_32, evE.eq_33, evE.eq_34, Ok_bind, Ok_fin, evEs, evO, evT, evTs, evI.eq_1, ev_rng1, ev_rng2, evI.eq_4, ev_zip, evC, startE, wipe, lenTs]
def lawN : Nat := 13
theorem law_run (ss : List Int) : (callF P lawN 47 [.lst (ss.map .int)] []).Ok fun v _ => v = .bl true := law_core 0 ss
end K18

set_option linter.all false
set_option autoImplicit false
set_option maxRecDepth 100000
set_option maxHeartbeats 1000000
namespace K18
open PySem GW
theorem rfd_run : ∀ (c : Nat) (as : List D) (d : D), P.xcl c = true → P.rfd c as = some d → exSs P (fun _ _ _ => .err) Sh.b22 (startE 4 [.exn c as]) [] = .ok (.rt d) [] := by
  intro c as d h1 h2
  simp only [P] at h2
  split at h2 <;> first | (cases h2; done) | (cases h2; kernel_rfl)
theorem lstOk1 : ∀ f, P.glf f = true → f ∈ [0, 1, 3, 4, 6, 7, 8, 9, 10, 11, 15, 16, 17, 18, 20, 24, 25, 26, 31, 32, 33, 34, 35, 36, 37, 38, 39, 40, 41, 42, 43, 44, 45, 46, 47] := by
  intro f h
  simpa only [P, List.contains_iff_mem] using h
theorem lstOk2 : ∀ c x, P.cls c = some x → c ∈ [11] := by
  intro c x h
  simp only [P] at h
  split at h <;> first | (cases h; done) | simp
theorem lstOk3 : ∀ c f, P.fld c f = true → (c, f) ∈ [(11,10),(11,9),(11,8),(11,7)] ∧ c ∈ [11] := by
  intro c x h
  simp only [P] at h
  split at h <;> first | (cases h; done) | simp
end K18

set_option Elab.async false
set_option linter.all false
set_option autoImplicit false
set_option maxRecDepth 100000
set_option maxHeartbeats 4000000
namespace GW
open PySem PySem.Spec PyProof.Rows L2 LamX
theorem intsD_reps {K : PySem.W.Frag} {L : Link} {S : RS} : ∀ ns : List Int, Reps K L S (ns.map .int) (ns.map V.int)
  | [] => .nil
  | n :: ns => .cons rep_int (intsD_reps ns)
theorem entry_sp {Γ : Prog} {K : PySem.W.Frag} {L : Link} {n f : Nat} {H : Hp} {a : Addr} {ns : List Int} (htab : ∀ p ∈ L.tabs, H p.1 = some (.tbl #[])) (hs : ∃ o, H a = some (.frz o (.lst (ns.map V.int))))
    (hlaw : (callF Γ n f [.lst (ns.map .int)] []).Ok fun v _ => v = .bl true) : spI K L (callF Γ n) f 1 [.ref a] H (fun v _ => v = .bl true) fun _ _ _ => False := by
  obtain ⟨o, hs⟩ := hs
  obtain ⟨HF, hHF⟩ : ∃ HF : Hp, HF = fun b => match H b with | some (.tbl _) => none | u => u := ⟨_, rfl⟩
  have e1 : HF a = some (.frz o (.lst (ns.map V.int))) := by rw [hHF]; dsimp only; rw [hs]
  refine ⟨rfl, ⟨HF, []⟩, [], [.lst (ns.map .int)], ⟨fun b u e => ?_, rfl, List.nodup_nil, fun b hb => absurd hb List.not_mem_nil, fun n o a h => by simp at h, fun n o a h => by simp at h, fun p hp => TabS.nil (htab p hp), fun b hb => absurd hb List.not_mem_nil, fun b ps e => ?_⟩, .cons ?_ .nil, ?_⟩
  · rw [hHF] at e
    dsimp only at e
    split at e
    · cases e
    · exact e
  · rw [hHF] at e
    dsimp only at e
    split at e
    · cases e
    · rename_i h1
      exact h1 _ e
  · rw [Rep]
    exact ⟨a, ns.map V.int, rfl, .inr ⟨o, e1⟩, intsD_reps ns⟩
  · obtain ⟨v, M, e, rfl⟩ := hlaw.eq
    rw [e]
    intro S' H' st sr v r
    rw [Rep] at r
    exact r
/-- no list stands in the written part -/
def noLists (K : PySem.W.Frag) : Bool := K.all fun p => match p.2.cls with | .type "list" => false | _ => true
theorem noLists_ok {K : PySem.W.Frag} (h : noLists K = true) : ∀ b o, K.lookup b = some o → o.cls ≠ .type "list" := by
  intro b o e z
  have hm : (b, o) ∈ K := by
    clear h
    induction K with
    | nil => cases e
    | cons p K ih =>
      obtain ⟨p1, p2⟩ := p
      rw [List.lookup_cons] at e
      by_cases hb : (b == p1) = true
      · rw [hb] at e
        cases e
        rw [beq_iff_eq] at hb
        rw [hb]
        exact List.mem_cons_self
      · have hb : (b == p1) = false := by simpa using hb
        rw [hb] at e
        exact List.mem_cons_of_mem _ (ih e)
  have := List.all_eq_true.mp h _ hm
  dsimp only at this
  rw [z] at this
  cases this
/-- the law's promise, as the walk wants it -/
theorem law_fn {Γ : Prog} {P : Program} {w : World} {K : PySem.W.Frag} {mg : Str → Option Value} {L : Link} {cs : List (Addr × Addr)} (W : Wd Γ P K mg L cs) {f n : Nat} {F : FD} (hF : Γ.fn f = some F) (ha : F.ar = 1) (base : Heap) (hB : ∀ p ∈ cs, TabB base mg p.1 p.2) :
    ∃ (fd : FuncData) (x : Str), (∀ (t : Shared) (u : Value), K.In t.heap → BindsTo t fd ⟨[u], []⟩ [(x, u)]) ∧ FnG P w K mg base (L2.CX P w) (5 * n) (L.fa f) fd [x] (spI K L (callF Γ n) f 1) := by
  obtain ⟨fd, ps, h1, h2, h3, h4⟩ := fun_ok (w := w) W hB n f F hF
  rw [ha] at h1 h2
  match ps, h1 with
  | [x], _ => exact ⟨fd, x, fun t u hK => h3 t [u] hK rfl, h2⟩
end GW

namespace K18
open PySem GW L2 PySem.Spec
def theProg : Program := PySem.Challenge.pw_glasswarm_k18_whole_screens
abbrev topS (j : Nat) : Stmt := theProg.main.body.getD j (.Pass ⟨0, 0, 0, 0⟩)
abbrev metS (j m : Nat) : Stmt := match topS j with | .ClassDef _ _ _ b _ _ _ _ _ _ _ => b.getD m (.Pass ⟨0, 0, 0, 0⟩) | _ => .Pass ⟨0, 0, 0, 0⟩
def fnN : List Str := [(Str.ofString "is_whole"), (Str.ofString "is_within"), (Str.ofString ""), (Str.ofString "is_row"), (Str.ofString "are_numbers"), (Str.ofString ""), (Str.ofString "first_wrong"), (Str.ofString "require_part"), (Str.ofString "wrong_number"), (Str.ofString "require_parts"), (Str.ofString "replaced"), (Str.ofString "place_of"), (Str.ofString ""), (Str.ofString ""), (Str.ofString ""), (Str.ofString "_law_taken"), (Str.ofString "_law_pick"), (Str.ofString "_law_alike"), (Str.ofString "_law_same"), (Str.ofString ""), (Str.ofString "_law_odd"), (Str.ofString ""), (Str.ofString "_law_refusal"), (Str.ofString "_law_told"), (Str.ofString "_law_spoiled"), (Str.ofString "is_hour"), (Str.ofString "wrong_place"), (Str.ofString "Screens.__init__"), (Str.ofString "Screens.with_part"), (Str.ofString "Screens.with_hour"), (Str.ofString "Screens.__eq__"), (Str.ofString "are_screens"), (Str.ofString "is_shading"), (Str.ofString "shading_cost"), (Str.ofString "step_cost"), (Str.ofString "worths"), (Str.ofString "shading"), (Str.ofString "least_shading"), (Str.ofString "are_worths"), (Str.ofString "screens_paper"), (Str.ofString "is_screens_paper"), (Str.ofString "_law_screens"), (Str.ofString "_law_least_shading"), (Str.ofString "_law_shaded"), (Str.ofString "_law_flat"), (Str.ofString "_law_worths_right"), (Str.ofString "_law_screens_refused"), (Str.ofString "law")]
def clN : List Str := [(Str.ofString "ClimateError"), (Str.ofString "BadPart"), (Str.ofString "BadNumber"), (Str.ofString "Unknown"), (Str.ofString "BadCourse"), (Str.ofString "BadChange"), (Str.ofString "BadText"), (Str.ofString "BadLine"), (Str.ofString "NotSure"), (Str.ofString "BadClaim"), (Str.ofString "NothingDone"), (Str.ofString "Screens")]
def glN : List Str := [(Str.ofString "PARTS"), (Str.ofString "MOST_HOURS"), (Str.ofString "MOST_COST"), (Str.ofString "MOST_VALUE")]
def nmN : List Str := [(Str.ofString "place"), (Str.ofString "line"), (Str.ofString "name"), (Str.ofString "value"), (Str.ofString "part"), (Str.ofString "__eq__"), (Str.ofString "__init__"), (Str.ofString "first"), (Str.ofString "turn"), (Str.ofString "hours"), (Str.ofString "parts"), (Str.ofString "with_part"), (Str.ofString "with_hour")]
def T0 : Tbl := ⟨fun i => fnN.getD i "", fun i => glN.getD i "", fun i => clN.getD i "", nmOf nmN, fun i => match i with | 1 => [(Str.ofString "part"), (Str.ofString "place")] | 2 => [(Str.ofString "value")] | 3 => [(Str.ofString "name")] | 4 => [(Str.ofString "place")] | 5 => [(Str.ofString "place")] | 6 => [(Str.ofString "line")] | 7 => [(Str.ofString "line")] | _ => []⟩
def faL : List Nat := [244, 251, 0, 258, 263, 0, 270, 277, 284, 291, 298, 305, 0, 0, 0, 433, 440, 445, 452, 0, 459, 0, 466, 473, 480, 313, 320, 334, 341, 348, 355, 369, 376, 381, 388, 393, 400, 407, 412, 419, 426, 485, 490, 495, 502, 507, 514, 519]
def caL : List Nat := [24, 46, 67, 88, 109, 130, 151, 172, 193, 214, 235, 358]
def fa0 (i : Nat) : Addr := faL.getD i 0
def ca0 (i : Nat) : Addr := caL.getD i 0
def tabs0 : List (Addr × Str) := [(509, "_law_screens_refused.<locals>.<lambda>")]
def cs0 : List (Addr × Addr) := [(513, 509)]
abbrev L0 : Link := ⟨T0, fa0, ca0, tabs0, none⟩
def Z0 : Lst := ⟨[0, 1, 3, 4, 6, 7, 8, 9, 10, 11, 15, 16, 17, 18, 20, 24, 25, 26, 31, 32, 33, 34, 35, 36, 37, 38, 39, 40, 41, 42, 43, 44, 45, 46, 47], [11], [1, 2, 3, 4, 5, 6, 7, 8, 9, 10], [(11, 10), (11, 9), (11, 8), (11, 7)], [(11, 11, 28), (11, 12, 29), (11, 5, 30)], [(11, 27)]⟩
theorem lst0 : LstOk P Z0 where
  fns f h := by simpa only [P, List.contains_iff_mem, Z0] using h
  owns c x h := by simp only [P] at h; split at h <;> first | (cases h; done) | simp [Z0]
  isO c h := by simp only [Z0, List.mem_cons, List.not_mem_nil, or_false] at h; rcases h with rfl <;> rfl
  xs c h := by simpa only [P, List.contains_iff_mem, Z0] using h
  flds c f h := by simp only [P] at h; split at h <;> first | (cases h; done) | simp [Z0]
  mths c m f h := by simp only [P] at h; split at h <;> first | (cases h; done) | (cases h; simp [Z0])
  inits c f z h := by simp only [P] at h; split at h <;> first | (cases h; done) | (cases h; simp [Z0])
theorem nm0 : ∀ f g, T0.nm f = T0.nm g → f = g := nmOf_inj (by decide +kernel) (by decide +kernel)
theorem d0 {K : PySem.W.Frag} {oc : Value} {od an : Option Addr} {osl : Array (Option Value)} {kV doc pm cdv ct : Value} (l : K.lookup 244 = some ⟨oc, od, .func (PySem.W.fnOf "is_whole" "is_whole" (defArgs (topS 13)) (defBody (topS 13)) (defScope (topS 13)) .none kV doc pm an cdv ct), osl⟩) (c : PySem.W.codeIn K cdv "is_whole" = true) (k : PySem.W.keepIn K (.ref 244) = true) : DefOk P K L0 cs0 0 ⟨1, 1, Sh.b0⟩ :=
  ⟨"is_whole", "is_whole", (topS 13), _, [(Str.ofString "value")], [(Str.ofString "value")], false, fun_mk l c k, ⟨rfl, rfl, rfl, by decide +kernel, rfl, by decide +kernel, by decide +kernel⟩, (fun_mk (st := (topS 13)) l c k).binds (fun _ _ _ _ _ _ us hl => match us, hl with | [_], _ => rfl), rfl, rfl, by kernel_rfl, fun h => nomatch h⟩
theorem d1 {K : PySem.W.Frag} {oc : Value} {od an : Option Addr} {osl : Array (Option Value)} {kV doc pm cdv ct : Value} (l : K.lookup 251 = some ⟨oc, od, .func (PySem.W.fnOf "is_within" "is_within" (defArgs (topS 14)) (defBody (topS 14)) (defScope (topS 14)) .none kV doc pm an cdv ct), osl⟩) (c : PySem.W.codeIn K cdv "is_within" = true) (k : PySem.W.keepIn K (.ref 251) = true) : DefOk P K L0 cs0 1 ⟨3, 3, Sh.b1⟩ :=
  ⟨"is_within", "is_within", (topS 14), _, [(Str.ofString "value"), (Str.ofString "least"), (Str.ofString "most")], [(Str.ofString "value"), (Str.ofString "least"), (Str.ofString "most")], false, fun_mk l c k, ⟨rfl, rfl, rfl, by decide +kernel, rfl, by decide +kernel, by decide +kernel⟩, (fun_mk (st := (topS 14)) l c k).binds (fun _ _ _ _ _ _ us hl => match us, hl with | [_, _, _], _ => rfl), rfl, rfl, by kernel_rfl, fun h => nomatch h⟩
theorem d3 {K : PySem.W.Frag} {oc : Value} {od an : Option Addr} {osl : Array (Option Value)} {kV doc pm cdv ct : Value} (l : K.lookup 258 = some ⟨oc, od, .func (PySem.W.fnOf "is_row" "is_row" (defArgs (topS 15)) (defBody (topS 15)) (defScope (topS 15)) .none kV doc pm an cdv ct), osl⟩) (c : PySem.W.codeIn K cdv "is_row" = true) (k : PySem.W.keepIn K (.ref 258) = true) : DefOk P K L0 cs0 3 ⟨2, 2, Sh.b3⟩ :=
  ⟨"is_row", "is_row", (topS 15), _, [(Str.ofString "value"), (Str.ofString "size")], [(Str.ofString "value"), (Str.ofString "size")], false, fun_mk l c k, ⟨rfl, rfl, rfl, by decide +kernel, rfl, by decide +kernel, by decide +kernel⟩, (fun_mk (st := (topS 15)) l c k).binds (fun _ _ _ _ _ _ us hl => match us, hl with | [_, _], _ => rfl), rfl, rfl, by kernel_rfl, fun h => nomatch h⟩
theorem d4 {K : PySem.W.Frag} {oc : Value} {od an : Option Addr} {osl : Array (Option Value)} {kV doc pm cdv ct : Value} (l : K.lookup 263 = some ⟨oc, od, .func (PySem.W.fnOf "are_numbers" "are_numbers" (defArgs (topS 16)) (defBody (topS 16)) (defScope (topS 16)) .none kV doc pm an cdv ct), osl⟩) (c : PySem.W.codeIn K cdv "are_numbers" = true) (k : PySem.W.keepIn K (.ref 263) = true) : DefOk P K L0 cs0 4 ⟨4, 5, Sh.b4⟩ :=
  ⟨"are_numbers", "are_numbers", (topS 16), _, [(Str.ofString "value"), (Str.ofString "size"), (Str.ofString "least"), (Str.ofString "most"), (Str.ofString "one")], [(Str.ofString "value"), (Str.ofString "size"), (Str.ofString "least"), (Str.ofString "most")], false, fun_mk l c k, ⟨rfl, rfl, rfl, by decide +kernel, rfl, by decide +kernel, by decide +kernel⟩, (fun_mk (st := (topS 16)) l c k).binds (fun _ _ _ _ _ _ us hl => match us, hl with | [_, _, _, _], _ => rfl), rfl, rfl, by kernel_rfl, fun h => nomatch h⟩
theorem d6 {K : PySem.W.Frag} {oc : Value} {od an : Option Addr} {osl : Array (Option Value)} {kV doc pm cdv ct : Value} (l : K.lookup 270 = some ⟨oc, od, .func (PySem.W.fnOf "first_wrong" "first_wrong" (defArgs (topS 17)) (defBody (topS 17)) (defScope (topS 17)) .none kV doc pm an cdv ct), osl⟩) (c : PySem.W.codeIn K cdv "first_wrong" = true) (k : PySem.W.keepIn K (.ref 270) = true) : DefOk P K L0 cs0 6 ⟨4, 6, Sh.b6⟩ :=
  ⟨"first_wrong", "first_wrong", (topS 17), _, [(Str.ofString "value"), (Str.ofString "least"), (Str.ofString "most"), (Str.ofString "judge"), (Str.ofString "place"), (Str.ofString "row")], [(Str.ofString "value"), (Str.ofString "least"), (Str.ofString "most"), (Str.ofString "judge")], false, fun_mk l c k, ⟨rfl, rfl, rfl, by decide +kernel, rfl, by decide +kernel, by decide +kernel⟩, (fun_mk (st := (topS 17)) l c k).binds (fun _ _ _ _ _ _ us hl => match us, hl with | [_, _, _, _], _ => rfl), rfl, rfl, by kernel_rfl, fun h => nomatch h⟩
theorem d7 {K : PySem.W.Frag} {oc : Value} {od an : Option Addr} {osl : Array (Option Value)} {kV doc pm cdv ct : Value} (l : K.lookup 277 = some ⟨oc, od, .func (PySem.W.fnOf "require_part" "require_part" (defArgs (topS 18)) (defBody (topS 18)) (defScope (topS 18)) .none kV doc pm an cdv ct), osl⟩) (c : PySem.W.codeIn K cdv "require_part" = true) (k : PySem.W.keepIn K (.ref 277) = true) : DefOk P K L0 cs0 7 ⟨2, 2, Sh.b7⟩ :=
  ⟨"require_part", "require_part", (topS 18), _, [(Str.ofString "part"), (Str.ofString "place")], [(Str.ofString "part"), (Str.ofString "place")], false, fun_mk l c k, ⟨rfl, rfl, rfl, by decide +kernel, rfl, by decide +kernel, by decide +kernel⟩, (fun_mk (st := (topS 18)) l c k).binds (fun _ _ _ _ _ _ us hl => match us, hl with | [_, _], _ => rfl), rfl, rfl, by kernel_rfl, fun h => nomatch h⟩
theorem d8 {K : PySem.W.Frag} {oc : Value} {od an : Option Addr} {osl : Array (Option Value)} {kV doc pm cdv ct : Value} (l : K.lookup 284 = some ⟨oc, od, .func (PySem.W.fnOf "wrong_number" "wrong_number" (defArgs (topS 19)) (defBody (topS 19)) (defScope (topS 19)) .none kV doc pm an cdv ct), osl⟩) (c : PySem.W.codeIn K cdv "wrong_number" = true) (k : PySem.W.keepIn K (.ref 284) = true) : DefOk P K L0 cs0 8 ⟨3, 3, Sh.b8⟩ :=
  ⟨"wrong_number", "wrong_number", (topS 19), _, [(Str.ofString "value"), (Str.ofString "least"), (Str.ofString "most")], [(Str.ofString "value"), (Str.ofString "least"), (Str.ofString "most")], false, fun_mk l c k, ⟨rfl, rfl, rfl, by decide +kernel, rfl, by decide +kernel, by decide +kernel⟩, (fun_mk (st := (topS 19)) l c k).binds (fun _ _ _ _ _ _ us hl => match us, hl with | [_, _, _], _ => rfl), rfl, rfl, by kernel_rfl, fun h => nomatch h⟩
theorem d9 {K : PySem.W.Frag} {oc : Value} {od an : Option Addr} {osl : Array (Option Value)} {kV doc pm cdv ct : Value} (l : K.lookup 291 = some ⟨oc, od, .func (PySem.W.fnOf "require_parts" "require_parts" (defArgs (topS 20)) (defBody (topS 20)) (defScope (topS 20)) .none kV doc pm an cdv ct), osl⟩) (c : PySem.W.codeIn K cdv "require_parts" = true) (k : PySem.W.keepIn K (.ref 291) = true) : DefOk P K L0 cs0 9 ⟨4, 6, Sh.b9⟩ :=
  ⟨"require_parts", "require_parts", (topS 20), _, [(Str.ofString "thing"), (Str.ofString "words"), (Str.ofString "parts"), (Str.ofString "judge"), (Str.ofString "place"), (Str.ofString "word")], [(Str.ofString "thing"), (Str.ofString "words"), (Str.ofString "parts"), (Str.ofString "judge")], false, fun_mk l c k, ⟨rfl, rfl, rfl, by decide +kernel, rfl, by decide +kernel, by decide +kernel⟩, (fun_mk (st := (topS 20)) l c k).binds (fun _ _ _ _ _ _ us hl => match us, hl with | [_, _, _, _], _ => rfl), rfl, rfl, by kernel_rfl, fun h => nomatch h⟩
theorem d10 {K : PySem.W.Frag} {oc : Value} {od an : Option Addr} {osl : Array (Option Value)} {kV doc pm cdv ct : Value} (l : K.lookup 298 = some ⟨oc, od, .func (PySem.W.fnOf "replaced" "replaced" (defArgs (topS 21)) (defBody (topS 21)) (defScope (topS 21)) .none kV doc pm an cdv ct), osl⟩) (c : PySem.W.codeIn K cdv "replaced" = true) (k : PySem.W.keepIn K (.ref 298) = true) : DefOk P K L0 cs0 10 ⟨3, 3, Sh.b10⟩ :=
  ⟨"replaced", "replaced", (topS 21), _, [(Str.ofString "parts"), (Str.ofString "place"), (Str.ofString "value")], [(Str.ofString "parts"), (Str.ofString "place"), (Str.ofString "value")], false, fun_mk l c k, ⟨rfl, rfl, rfl, by decide +kernel, rfl, by decide +kernel, by decide +kernel⟩, (fun_mk (st := (topS 21)) l c k).binds (fun _ _ _ _ _ _ us hl => match us, hl with | [_, _, _], _ => rfl), rfl, rfl, by kernel_rfl, fun h => nomatch h⟩
theorem d11 {K : PySem.W.Frag} {oc : Value} {od an : Option Addr} {osl : Array (Option Value)} {kV doc pm cdv ct : Value} (l : K.lookup 305 = some ⟨oc, od, .func (PySem.W.fnOf "place_of" "place_of" (defArgs (topS 22)) (defBody (topS 22)) (defScope (topS 22)) .none kV doc pm an cdv ct), osl⟩) (c : PySem.W.codeIn K cdv "place_of" = true) (k : PySem.W.keepIn K (.ref 305) = true) : DefOk P K L0 cs0 11 ⟨3, 3, Sh.b11⟩ :=
  ⟨"place_of", "place_of", (topS 22), _, [(Str.ofString "words"), (Str.ofString "word"), (Str.ofString "thing")], [(Str.ofString "words"), (Str.ofString "word"), (Str.ofString "thing")], false, fun_mk l c k, ⟨rfl, rfl, rfl, by decide +kernel, rfl, by decide +kernel, by decide +kernel⟩, (fun_mk (st := (topS 22)) l c k).binds (fun _ _ _ _ _ _ us hl => match us, hl with | [_, _, _], _ => rfl), rfl, rfl, by kernel_rfl, fun h => nomatch h⟩
theorem d15 {K : PySem.W.Frag} {oc : Value} {od an : Option Addr} {osl : Array (Option Value)} {kV doc pm cdv ct : Value} (l : K.lookup 433 = some ⟨oc, od, .func (PySem.W.fnOf "_law_taken" "_law_taken" (defArgs (topS 42)) (defBody (topS 42)) (defScope (topS 42)) .none kV doc pm an cdv ct), osl⟩) (c : PySem.W.codeIn K cdv "_law_taken" = true) (k : PySem.W.keepIn K (.ref 433) = true) : DefOk P K L0 cs0 15 ⟨2, 4, Sh.b15⟩ :=
  ⟨"_law_taken", "_law_taken", (topS 42), _, [(Str.ofString "row"), (Str.ofString "many"), (Str.ofString "cell"), (Str.ofString "found")], [(Str.ofString "row"), (Str.ofString "many")], false, fun_mk l c k, ⟨rfl, rfl, rfl, by decide +kernel, rfl, by decide +kernel, by decide +kernel⟩, (fun_mk (st := (topS 42)) l c k).binds (fun _ _ _ _ _ _ us hl => match us, hl with | [_, _], _ => rfl), rfl, rfl, by kernel_rfl, fun h => nomatch h⟩
theorem d16 {K : PySem.W.Frag} {oc : Value} {od an : Option Addr} {osl : Array (Option Value)} {kV doc pm cdv ct : Value} (l : K.lookup 440 = some ⟨oc, od, .func (PySem.W.fnOf "_law_pick" "_law_pick" (defArgs (topS 43)) (defBody (topS 43)) (defScope (topS 43)) .none kV doc pm an cdv ct), osl⟩) (c : PySem.W.codeIn K cdv "_law_pick" = true) (k : PySem.W.keepIn K (.ref 440) = true) : DefOk P K L0 cs0 16 ⟨2, 2, Sh.b16⟩ :=
  ⟨"_law_pick", "_law_pick", (topS 43), _, [(Str.ofString "row"), (Str.ofString "things")], [(Str.ofString "row"), (Str.ofString "things")], false, fun_mk l c k, ⟨rfl, rfl, rfl, by decide +kernel, rfl, by decide +kernel, by decide +kernel⟩, (fun_mk (st := (topS 43)) l c k).binds (fun _ _ _ _ _ _ us hl => match us, hl with | [_, _], _ => rfl), rfl, rfl, by kernel_rfl, fun h => nomatch h⟩
theorem d17 {K : PySem.W.Frag} {oc : Value} {od an : Option Addr} {osl : Array (Option Value)} {kV doc pm cdv ct : Value} (l : K.lookup 445 = some ⟨oc, od, .func (PySem.W.fnOf "_law_alike" "_law_alike" (defArgs (topS 44)) (defBody (topS 44)) (defScope (topS 44)) .none kV doc pm an cdv ct), osl⟩) (c : PySem.W.codeIn K cdv "_law_alike" = true) (k : PySem.W.keepIn K (.ref 445) = true) : DefOk P K L0 cs0 17 ⟨2, 3, Sh.b17⟩ :=
  ⟨"_law_alike", "_law_alike", (topS 44), _, [(Str.ofString "found"), (Str.ofString "due"), (Str.ofString "k")], [(Str.ofString "found"), (Str.ofString "due")], false, fun_mk l c k, ⟨rfl, rfl, rfl, by decide +kernel, rfl, by decide +kernel, by decide +kernel⟩, (fun_mk (st := (topS 44)) l c k).binds (fun _ _ _ _ _ _ us hl => match us, hl with | [_, _], _ => rfl), rfl, rfl, by kernel_rfl, fun h => nomatch h⟩
theorem d18 {K : PySem.W.Frag} {oc : Value} {od an : Option Addr} {osl : Array (Option Value)} {kV doc pm cdv ct : Value} (l : K.lookup 452 = some ⟨oc, od, .func (PySem.W.fnOf "_law_same" "_law_same" (defArgs (topS 45)) (defBody (topS 45)) (defScope (topS 45)) .none kV doc pm an cdv ct), osl⟩) (c : PySem.W.codeIn K cdv "_law_same" = true) (k : PySem.W.keepIn K (.ref 452) = true) : DefOk P K L0 cs0 18 ⟨2, 2, Sh.b18⟩ :=
  ⟨"_law_same", "_law_same", (topS 45), _, [(Str.ofString "found"), (Str.ofString "due")], [(Str.ofString "found"), (Str.ofString "due")], false, fun_mk l c k, ⟨rfl, rfl, rfl, by decide +kernel, rfl, by decide +kernel, by decide +kernel⟩, (fun_mk (st := (topS 45)) l c k).binds (fun _ _ _ _ _ _ us hl => match us, hl with | [_, _], _ => rfl), rfl, rfl, by kernel_rfl, fun h => nomatch h⟩
theorem d20 {K : PySem.W.Frag} {oc : Value} {od an : Option Addr} {osl : Array (Option Value)} {kV doc pm cdv ct : Value} (l : K.lookup 459 = some ⟨oc, od, .func (PySem.W.fnOf "_law_odd" "_law_odd" (defArgs (topS 46)) (defBody (topS 46)) (defScope (topS 46)) .none kV doc pm an cdv ct), osl⟩) (c : PySem.W.codeIn K cdv "_law_odd" = true) (k : PySem.W.keepIn K (.ref 459) = true) : DefOk P K L0 cs0 20 ⟨1, 2, Sh.b20⟩ :=
  ⟨"_law_odd", "_law_odd", (topS 46), _, [(Str.ofString "row"), (Str.ofString "odd")], [(Str.ofString "row")], false, fun_mk l c k, ⟨rfl, rfl, rfl, by decide +kernel, rfl, by decide +kernel, by decide +kernel⟩, (fun_mk (st := (topS 46)) l c k).binds (fun _ _ _ _ _ _ us hl => match us, hl with | [_], _ => rfl), rfl, rfl, by kernel_rfl, fun h => nomatch h⟩
theorem rf0 {K : PySem.W.Frag} {oc : Value} {od an : Option Addr} {osl : Array (Option Value)} {kV doc pm cdv ct : Value} {mg : Str → Option Value} (l : K.lookup 466 = some ⟨oc, od, .func (PySem.W.fnOf "_law_refusal" "_law_refusal" (defArgs (topS 47)) (defBody (topS 47)) (defScope (topS 47)) .none kV doc pm an cdv ct), osl⟩) (c : PySem.W.codeIn K cdv "_law_refusal" = true) (k : PySem.W.keepIn K (.ref 466) = true) (g : mg "_law_refusal" = some (.ref 466)) : ∃ gr : Addr, mg "_law_refusal" = some (.ref gr) ∧ PySem.W.keepIn K (.ref gr) = true ∧ RfW P K L0 gr :=
  ⟨_, g, k, ⟨⟨(topS 47), _, [(Str.ofString "e"), (Str.ofString "kinds"), (Str.ofString "marks"), (Str.ofString "name")], Sh.b22, fun_mk l c k, ⟨rfl, rfl, rfl, by decide +kernel, rfl, by decide +kernel, by decide +kernel⟩, (fun_mk (st := (topS 47)) l c k).binds (fun _ _ _ _ _ _ us hl => match us, hl with | [_], _ => rfl), by kernel_rfl, rfd_run⟩, fun c as d h1 h2 => by simp only [P] at h1; split at h1 <;> first | (cases h1; done) | (cases h1; simpa [noX, noXs] using h2)⟩⟩
theorem d24 {K : PySem.W.Frag} {oc : Value} {od an : Option Addr} {osl : Array (Option Value)} {kV doc pm cdv ct : Value} (l : K.lookup 480 = some ⟨oc, od, .func (PySem.W.fnOf "_law_spoiled" "_law_spoiled" (defArgs (topS 49)) (defBody (topS 49)) (defScope (topS 49)) .none kV doc pm an cdv ct), osl⟩) (c : PySem.W.codeIn K cdv "_law_spoiled" = true) (k : PySem.W.keepIn K (.ref 480) = true) : DefOk P K L0 cs0 24 ⟨2, 3, Sh.b24⟩ :=
  ⟨"_law_spoiled", "_law_spoiled", (topS 49), _, [(Str.ofString "row"), (Str.ofString "value"), (Str.ofString "at")], [(Str.ofString "row"), (Str.ofString "value")], false, fun_mk l c k, ⟨rfl, rfl, rfl, by decide +kernel, rfl, by decide +kernel, by decide +kernel⟩, (fun_mk (st := (topS 49)) l c k).binds (fun _ _ _ _ _ _ us hl => match us, hl with | [_, _], _ => rfl), rfl, rfl, by kernel_rfl, fun h => nomatch h⟩
theorem d25 {K : PySem.W.Frag} {oc : Value} {od an : Option Addr} {osl : Array (Option Value)} {kV doc pm cdv ct : Value} (l : K.lookup 313 = some ⟨oc, od, .func (PySem.W.fnOf "is_hour" "is_hour" (defArgs (topS 28)) (defBody (topS 28)) (defScope (topS 28)) .none kV doc pm an cdv ct), osl⟩) (c : PySem.W.codeIn K cdv "is_hour" = true) (k : PySem.W.keepIn K (.ref 313) = true) : DefOk P K L0 cs0 25 ⟨2, 2, c25⟩ :=
  ⟨"is_hour", "is_hour", (topS 28), _, [(Str.ofString "row"), (Str.ofString "ahead")], [(Str.ofString "row"), (Str.ofString "ahead")], false, fun_mk l c k, ⟨rfl, rfl, rfl, by decide +kernel, rfl, by decide +kernel, by decide +kernel⟩, (fun_mk (st := (topS 28)) l c k).binds (fun _ _ _ _ _ _ us hl => match us, hl with | [_, _], _ => rfl), rfl, rfl, by kernel_rfl, fun h => nomatch h⟩
theorem d26 {K : PySem.W.Frag} {oc : Value} {od an : Option Addr} {osl : Array (Option Value)} {kV doc pm cdv ct : Value} (l : K.lookup 320 = some ⟨oc, od, .func (PySem.W.fnOf "wrong_place" "wrong_place" (defArgs (topS 29)) (defBody (topS 29)) (defScope (topS 29)) .none kV doc pm an cdv ct), osl⟩) (c : PySem.W.codeIn K cdv "wrong_place" = true) (k : PySem.W.keepIn K (.ref 320) = true) : DefOk P K L0 cs0 26 ⟨2, 2, c26⟩ :=
  ⟨"wrong_place", "wrong_place", (topS 29), _, [(Str.ofString "parts"), (Str.ofString "place")], [(Str.ofString "parts"), (Str.ofString "place")], false, fun_mk l c k, ⟨rfl, rfl, rfl, by decide +kernel, rfl, by decide +kernel, by decide +kernel⟩, (fun_mk (st := (topS 29)) l c k).binds (fun _ _ _ _ _ _ us hl => match us, hl with | [_, _], _ => rfl), rfl, rfl, by kernel_rfl, fun h => nomatch h⟩
theorem d27 {K : PySem.W.Frag} {oc : Value} {od an : Option Addr} {osl : Array (Option Value)} {kV doc pm cdv ct : Value} (l : K.lookup 334 = some ⟨oc, od, .func (PySem.W.fnOf "__init__" "Screens.__init__" (defArgs (metS 30 0)) (defBody (metS 30 0)) (defScope (metS 30 0)) .none kV doc pm an cdv ct), osl⟩) (c : PySem.W.codeIn K cdv "Screens.__init__" = true) (k : PySem.W.keepIn K (.ref 334) = true) : DefOk P K L0 cs0 27 ⟨2, 2, c27⟩ :=
  ⟨"__init__", "Screens.__init__", (metS 30 0), _, [(Str.ofString "self"), (Str.ofString "parts")], [(Str.ofString "self"), (Str.ofString "parts")], false, fun_mk l c k, ⟨rfl, rfl, rfl, by decide +kernel, rfl, by decide +kernel, by decide +kernel⟩, (fun_mk (st := (metS 30 0)) l c k).binds (fun _ _ _ _ _ _ us hl => match us, hl with | [_, _], _ => rfl), rfl, rfl, by kernel_rfl, fun h => nomatch h⟩
theorem d28 {K : PySem.W.Frag} {oc : Value} {od an : Option Addr} {osl : Array (Option Value)} {kV doc pm cdv ct : Value} (l : K.lookup 341 = some ⟨oc, od, .func (PySem.W.fnOf "with_part" "Screens.with_part" (defArgs (metS 30 1)) (defBody (metS 30 1)) (defScope (metS 30 1)) .none kV doc pm an cdv ct), osl⟩) (c : PySem.W.codeIn K cdv "Screens.with_part" = true) (k : PySem.W.keepIn K (.ref 341) = true) : DefOk P K L0 cs0 28 ⟨3, 3, c28⟩ :=
  ⟨"with_part", "Screens.with_part", (metS 30 1), _, [(Str.ofString "self"), (Str.ofString "word"), (Str.ofString "value")], [(Str.ofString "self"), (Str.ofString "word"), (Str.ofString "value")], false, fun_mk l c k, ⟨rfl, rfl, rfl, by decide +kernel, rfl, by decide +kernel, by decide +kernel⟩, (fun_mk (st := (metS 30 1)) l c k).binds (fun _ _ _ _ _ _ us hl => match us, hl with | [_, _, _], _ => rfl), rfl, rfl, by kernel_rfl, fun h => nomatch h⟩
theorem d29 {K : PySem.W.Frag} {oc : Value} {od an : Option Addr} {osl : Array (Option Value)} {kV doc pm cdv ct : Value} (l : K.lookup 348 = some ⟨oc, od, .func (PySem.W.fnOf "with_hour" "Screens.with_hour" (defArgs (metS 30 2)) (defBody (metS 30 2)) (defScope (metS 30 2)) .none kV doc pm an cdv ct), osl⟩) (c : PySem.W.codeIn K cdv "Screens.with_hour" = true) (k : PySem.W.keepIn K (.ref 348) = true) : DefOk P K L0 cs0 29 ⟨4, 4, c29⟩ :=
  ⟨"with_hour", "Screens.with_hour", (metS 30 2), _, [(Str.ofString "self"), (Str.ofString "hour"), (Str.ofString "opened"), (Str.ofString "closed")], [(Str.ofString "self"), (Str.ofString "hour"), (Str.ofString "opened"), (Str.ofString "closed")], false, fun_mk l c k, ⟨rfl, rfl, rfl, by decide +kernel, rfl, by decide +kernel, by decide +kernel⟩, (fun_mk (st := (metS 30 2)) l c k).binds (fun _ _ _ _ _ _ us hl => match us, hl with | [_, _, _, _], _ => rfl), rfl, rfl, by kernel_rfl, fun h => nomatch h⟩
theorem d30 {K : PySem.W.Frag} {oc : Value} {od an : Option Addr} {osl : Array (Option Value)} {kV doc pm cdv ct : Value} (l : K.lookup 355 = some ⟨oc, od, .func (PySem.W.fnOf "__eq__" "Screens.__eq__" (defArgs (metS 30 3)) (defBody (metS 30 3)) (defScope (metS 30 3)) .none kV doc pm an cdv ct), osl⟩) (c : PySem.W.codeIn K cdv "Screens.__eq__" = true) (k : PySem.W.keepIn K (.ref 355) = true) : DefOk P K L0 cs0 30 ⟨2, 2, c30⟩ :=
  ⟨"__eq__", "Screens.__eq__", (metS 30 3), _, [(Str.ofString "self"), (Str.ofString "other")], [(Str.ofString "self"), (Str.ofString "other")], false, fun_mk l c k, ⟨rfl, rfl, rfl, by decide +kernel, rfl, by decide +kernel, by decide +kernel⟩, (fun_mk (st := (metS 30 3)) l c k).binds (fun _ _ _ _ _ _ us hl => match us, hl with | [_, _], _ => rfl), rfl, rfl, by kernel_rfl, fun h => nomatch h⟩
theorem d31 {K : PySem.W.Frag} {oc : Value} {od an : Option Addr} {osl : Array (Option Value)} {kV doc pm cdv ct : Value} (l : K.lookup 369 = some ⟨oc, od, .func (PySem.W.fnOf "are_screens" "are_screens" (defArgs (topS 31)) (defBody (topS 31)) (defScope (topS 31)) .none kV doc pm an cdv ct), osl⟩) (c : PySem.W.codeIn K cdv "are_screens" = true) (k : PySem.W.keepIn K (.ref 369) = true) : DefOk P K L0 cs0 31 ⟨1, 1, c31⟩ :=
  ⟨"are_screens", "are_screens", (topS 31), _, [(Str.ofString "value")], [(Str.ofString "value")], false, fun_mk l c k, ⟨rfl, rfl, rfl, by decide +kernel, rfl, by decide +kernel, by decide +kernel⟩, (fun_mk (st := (topS 31)) l c k).binds (fun _ _ _ _ _ _ us hl => match us, hl with | [_], _ => rfl), rfl, rfl, by kernel_rfl, fun h => nomatch h⟩
theorem d32 {K : PySem.W.Frag} {oc : Value} {od an : Option Addr} {osl : Array (Option Value)} {kV doc pm cdv ct : Value} (l : K.lookup 376 = some ⟨oc, od, .func (PySem.W.fnOf "is_shading" "is_shading" (defArgs (topS 32)) (defBody (topS 32)) (defScope (topS 32)) .none kV doc pm an cdv ct), osl⟩) (c : PySem.W.codeIn K cdv "is_shading" = true) (k : PySem.W.keepIn K (.ref 376) = true) : DefOk P K L0 cs0 32 ⟨2, 2, c32⟩ :=
  ⟨"is_shading", "is_shading", (topS 32), _, [(Str.ofString "screens"), (Str.ofString "value")], [(Str.ofString "screens"), (Str.ofString "value")], false, fun_mk l c k, ⟨rfl, rfl, rfl, by decide +kernel, rfl, by decide +kernel, by decide +kernel⟩, (fun_mk (st := (topS 32)) l c k).binds (fun _ _ _ _ _ _ us hl => match us, hl with | [_, _], _ => rfl), rfl, rfl, by kernel_rfl, fun h => nomatch h⟩
theorem d33 {K : PySem.W.Frag} {oc : Value} {od an : Option Addr} {osl : Array (Option Value)} {kV doc pm cdv ct : Value} (l : K.lookup 381 = some ⟨oc, od, .func (PySem.W.fnOf "shading_cost" "shading_cost" (defArgs (topS 33)) (defBody (topS 33)) (defScope (topS 33)) .none kV doc pm an cdv ct), osl⟩) (c : PySem.W.codeIn K cdv "shading_cost" = true) (k : PySem.W.keepIn K (.ref 381) = true) : DefOk P K L0 cs0 33 ⟨2, 7, c33⟩ :=
  ⟨"shading_cost", "shading_cost", (topS 33), _, [(Str.ofString "screens"), (Str.ofString "value"), (Str.ofString "found"), (Str.ofString "row"), (Str.ofString "told"), (Str.ofString "one"), (Str.ofString "other")], [(Str.ofString "screens"), (Str.ofString "value")], false, fun_mk l c k, ⟨rfl, rfl, rfl, by decide +kernel, rfl, by decide +kernel, by decide +kernel⟩, (fun_mk (st := (topS 33)) l c k).binds (fun _ _ _ _ _ _ us hl => match us, hl with | [_, _], _ => rfl), rfl, rfl, by kernel_rfl, fun h => nomatch h⟩
theorem d34 {K : PySem.W.Frag} {oc : Value} {od an : Option Addr} {osl : Array (Option Value)} {kV doc pm cdv ct : Value} (l : K.lookup 388 = some ⟨oc, od, .func (PySem.W.fnOf "step_cost" "step_cost" (defArgs (topS 34)) (defBody (topS 34)) (defScope (topS 34)) .none kV doc pm an cdv ct), osl⟩) (c : PySem.W.codeIn K cdv "step_cost" = true) (k : PySem.W.keepIn K (.ref 388) = true) : DefOk P K L0 cs0 34 ⟨4, 4, c34⟩ :=
  ⟨"step_cost", "step_cost", (topS 34), _, [(Str.ofString "screens"), (Str.ofString "hour"), (Str.ofString "before"), (Str.ofString "told")], [(Str.ofString "screens"), (Str.ofString "hour"), (Str.ofString "before"), (Str.ofString "told")], false, fun_mk l c k, ⟨rfl, rfl, rfl, by decide +kernel, rfl, by decide +kernel, by decide +kernel⟩, (fun_mk (st := (topS 34)) l c k).binds (fun _ _ _ _ _ _ us hl => match us, hl with | [_, _, _, _], _ => rfl), rfl, rfl, by kernel_rfl, fun h => nomatch h⟩
theorem d35 {K : PySem.W.Frag} {oc : Value} {od an : Option Addr} {osl : Array (Option Value)} {kV doc pm cdv ct : Value} (l : K.lookup 393 = some ⟨oc, od, .func (PySem.W.fnOf "worths" "worths" (defArgs (topS 35)) (defBody (topS 35)) (defScope (topS 35)) .none kV doc pm an cdv ct), osl⟩) (c : PySem.W.codeIn K cdv "worths" = true) (k : PySem.W.keepIn K (.ref 393) = true) : DefOk P K L0 cs0 35 ⟨1, 8, c35⟩ :=
  ⟨"worths", "worths", (topS 35), _, [(Str.ofString "screens"), (Str.ofString "found"), (Str.ofString "back"), (Str.ofString "row"), (Str.ofString "before"), (Str.ofString "hour"), (Str.ofString "behind"), (Str.ofString "told")], [(Str.ofString "screens")], false, fun_mk l c k, ⟨rfl, rfl, rfl, by decide +kernel, rfl, by decide +kernel, by decide +kernel⟩, (fun_mk (st := (topS 35)) l c k).binds (fun _ _ _ _ _ _ us hl => match us, hl with | [_], _ => rfl), rfl, rfl, by kernel_rfl, fun h => nomatch h⟩
theorem d36 {K : PySem.W.Frag} {oc : Value} {od an : Option Addr} {osl : Array (Option Value)} {kV doc pm cdv ct : Value} (l : K.lookup 400 = some ⟨oc, od, .func (PySem.W.fnOf "shading" "shading" (defArgs (topS 36)) (defBody (topS 36)) (defScope (topS 36)) .none kV doc pm an cdv ct), osl⟩) (c : PySem.W.codeIn K cdv "shading" = true) (k : PySem.W.keepIn K (.ref 400) = true) : DefOk P K L0 cs0 36 ⟨1, 6, c36⟩ :=
  ⟨"shading", "shading", (topS 36), _, [(Str.ofString "screens"), (Str.ofString "hour"), (Str.ofString "rows"), (Str.ofString "found"), (Str.ofString "before"), (Str.ofString "told")], [(Str.ofString "screens")], false, fun_mk l c k, ⟨rfl, rfl, rfl, by decide +kernel, rfl, by decide +kernel, by decide +kernel⟩, (fun_mk (st := (topS 36)) l c k).binds (fun _ _ _ _ _ _ us hl => match us, hl with | [_], _ => rfl), rfl, rfl, by kernel_rfl, fun h => nomatch h⟩
theorem d37 {K : PySem.W.Frag} {oc : Value} {od an : Option Addr} {osl : Array (Option Value)} {kV doc pm cdv ct : Value} (l : K.lookup 407 = some ⟨oc, od, .func (PySem.W.fnOf "least_shading" "least_shading" (defArgs (topS 37)) (defBody (topS 37)) (defScope (topS 37)) .none kV doc pm an cdv ct), osl⟩) (c : PySem.W.codeIn K cdv "least_shading" = true) (k : PySem.W.keepIn K (.ref 407) = true) : DefOk P K L0 cs0 37 ⟨1, 1, c37⟩ :=
  ⟨"least_shading", "least_shading", (topS 37), _, [(Str.ofString "screens")], [(Str.ofString "screens")], false, fun_mk l c k, ⟨rfl, rfl, rfl, by decide +kernel, rfl, by decide +kernel, by decide +kernel⟩, (fun_mk (st := (topS 37)) l c k).binds (fun _ _ _ _ _ _ us hl => match us, hl with | [_], _ => rfl), rfl, rfl, by kernel_rfl, fun h => nomatch h⟩
theorem d38 {K : PySem.W.Frag} {oc : Value} {od an : Option Addr} {osl : Array (Option Value)} {kV doc pm cdv ct : Value} (l : K.lookup 412 = some ⟨oc, od, .func (PySem.W.fnOf "are_worths" "are_worths" (defArgs (topS 38)) (defBody (topS 38)) (defScope (topS 38)) .none kV doc pm an cdv ct), osl⟩) (c : PySem.W.codeIn K cdv "are_worths" = true) (k : PySem.W.keepIn K (.ref 412) = true) : DefOk P K L0 cs0 38 ⟨2, 6, c38⟩ :=
  ⟨"are_worths", "are_worths", (topS 38), _, [(Str.ofString "screens"), (Str.ofString "value"), (Str.ofString "hour"), (Str.ofString "before"), (Str.ofString "told"), (Str.ofString "row")], [(Str.ofString "screens"), (Str.ofString "value")], false, fun_mk l c k, ⟨rfl, rfl, rfl, by decide +kernel, rfl, by decide +kernel, by decide +kernel⟩, (fun_mk (st := (topS 38)) l c k).binds (fun _ _ _ _ _ _ us hl => match us, hl with | [_, _], _ => rfl), rfl, rfl, by kernel_rfl, fun h => nomatch h⟩
theorem d39 {K : PySem.W.Frag} {oc : Value} {od an : Option Addr} {osl : Array (Option Value)} {kV doc pm cdv ct : Value} (l : K.lookup 419 = some ⟨oc, od, .func (PySem.W.fnOf "screens_paper" "screens_paper" (defArgs (topS 39)) (defBody (topS 39)) (defScope (topS 39)) .none kV doc pm an cdv ct), osl⟩) (c : PySem.W.codeIn K cdv "screens_paper" = true) (k : PySem.W.keepIn K (.ref 419) = true) : DefOk P K L0 cs0 39 ⟨1, 1, c39⟩ :=
  ⟨"screens_paper", "screens_paper", (topS 39), _, [(Str.ofString "screens")], [(Str.ofString "screens")], false, fun_mk l c k, ⟨rfl, rfl, rfl, by decide +kernel, rfl, by decide +kernel, by decide +kernel⟩, (fun_mk (st := (topS 39)) l c k).binds (fun _ _ _ _ _ _ us hl => match us, hl with | [_], _ => rfl), rfl, rfl, by kernel_rfl, fun h => nomatch h⟩
theorem d40 {K : PySem.W.Frag} {oc : Value} {od an : Option Addr} {osl : Array (Option Value)} {kV doc pm cdv ct : Value} (l : K.lookup 426 = some ⟨oc, od, .func (PySem.W.fnOf "is_screens_paper" "is_screens_paper" (defArgs (topS 40)) (defBody (topS 40)) (defScope (topS 40)) .none kV doc pm an cdv ct), osl⟩) (c : PySem.W.codeIn K cdv "is_screens_paper" = true) (k : PySem.W.keepIn K (.ref 426) = true) : DefOk P K L0 cs0 40 ⟨2, 2, c40⟩ :=
  ⟨"is_screens_paper", "is_screens_paper", (topS 40), _, [(Str.ofString "screens"), (Str.ofString "value")], [(Str.ofString "screens"), (Str.ofString "value")], false, fun_mk l c k, ⟨rfl, rfl, rfl, by decide +kernel, rfl, by decide +kernel, by decide +kernel⟩, (fun_mk (st := (topS 40)) l c k).binds (fun _ _ _ _ _ _ us hl => match us, hl with | [_, _], _ => rfl), rfl, rfl, by kernel_rfl, fun h => nomatch h⟩
theorem d41 {K : PySem.W.Frag} {oc : Value} {od an : Option Addr} {osl : Array (Option Value)} {kV doc pm cdv ct : Value} (l : K.lookup 485 = some ⟨oc, od, .func (PySem.W.fnOf "_law_screens" "_law_screens" (defArgs (topS 50)) (defBody (topS 50)) (defScope (topS 50)) .none kV doc pm an cdv ct), osl⟩) (c : PySem.W.codeIn K cdv "_law_screens" = true) (k : PySem.W.keepIn K (.ref 485) = true) : DefOk P K L0 cs0 41 ⟨1, 4, c41⟩ :=
  ⟨"_law_screens", "_law_screens", (topS 50), _, [(Str.ofString "row"), (Str.ofString "wide"), (Str.ofString "hours"), (Str.ofString "k")], [(Str.ofString "row")], false, fun_mk l c k, ⟨rfl, rfl, rfl, by decide +kernel, rfl, by decide +kernel, by decide +kernel⟩, (fun_mk (st := (topS 50)) l c k).binds (fun _ _ _ _ _ _ us hl => match us, hl with | [_], _ => rfl), rfl, rfl, by kernel_rfl, fun h => nomatch h⟩
theorem d42 {K : PySem.W.Frag} {oc : Value} {od an : Option Addr} {osl : Array (Option Value)} {kV doc pm cdv ct : Value} (l : K.lookup 490 = some ⟨oc, od, .func (PySem.W.fnOf "_law_least_shading" "_law_least_shading" (defArgs (topS 51)) (defBody (topS 51)) (defScope (topS 51)) .none kV doc pm an cdv ct), osl⟩) (c : PySem.W.codeIn K cdv "_law_least_shading" = true) (k : PySem.W.keepIn K (.ref 490) = true) : DefOk P K L0 cs0 42 ⟨1, 9, c42⟩ :=
  ⟨"_law_least_shading", "_law_least_shading", (topS 51), _, [(Str.ofString "told"), (Str.ofString "rows"), (Str.ofString "one"), (Str.ofString "hours"), (Str.ofString "turn"), (Str.ofString "first"), (Str.ofString "wider"), (Str.ofString "now"), (Str.ofString "past")], [(Str.ofString "told")], false, fun_mk l c k, ⟨rfl, rfl, rfl, by decide +kernel, rfl, by decide +kernel, by decide +kernel⟩, (fun_mk (st := (topS 51)) l c k).binds (fun _ _ _ _ _ _ us hl => match us, hl with | [_], _ => rfl), rfl, rfl, by kernel_rfl, fun h => nomatch h⟩
theorem d43 {K : PySem.W.Frag} {oc : Value} {od an : Option Addr} {osl : Array (Option Value)} {kV doc pm cdv ct : Value} (l : K.lookup 495 = some ⟨oc, od, .func (PySem.W.fnOf "_law_shaded" "_law_shaded" (defArgs (topS 52)) (defBody (topS 52)) (defScope (topS 52)) .none kV doc pm an cdv ct), osl⟩) (c : PySem.W.codeIn K cdv "_law_shaded" = true) (k : PySem.W.keepIn K (.ref 495) = true) : DefOk P K L0 cs0 43 ⟨2, 8, c43⟩ :=
  ⟨"_law_shaded", "_law_shaded", (topS 52), _, [(Str.ofString "told"), (Str.ofString "value"), (Str.ofString "row"), (Str.ofString "hours"), (Str.ofString "turn"), (Str.ofString "past"), (Str.ofString "one"), (Str.ofString "k")], [(Str.ofString "told"), (Str.ofString "value")], false, fun_mk l c k, ⟨rfl, rfl, rfl, by decide +kernel, rfl, by decide +kernel, by decide +kernel⟩, (fun_mk (st := (topS 52)) l c k).binds (fun _ _ _ _ _ _ us hl => match us, hl with | [_, _], _ => rfl), rfl, rfl, by kernel_rfl, fun h => nomatch h⟩
theorem d44 {K : PySem.W.Frag} {oc : Value} {od an : Option Addr} {osl : Array (Option Value)} {kV doc pm cdv ct : Value} (l : K.lookup 502 = some ⟨oc, od, .func (PySem.W.fnOf "_law_flat" "_law_flat" (defArgs (topS 53)) (defBody (topS 53)) (defScope (topS 53)) .none kV doc pm an cdv ct), osl⟩) (c : PySem.W.codeIn K cdv "_law_flat" = true) (k : PySem.W.keepIn K (.ref 502) = true) : DefOk P K L0 cs0 44 ⟨1, 3, c44⟩ :=
  ⟨"_law_flat", "_law_flat", (topS 53), _, [(Str.ofString "rows"), (Str.ofString "found"), (Str.ofString "row")], [(Str.ofString "rows")], false, fun_mk l c k, ⟨rfl, rfl, rfl, by decide +kernel, rfl, by decide +kernel, by decide +kernel⟩, (fun_mk (st := (topS 53)) l c k).binds (fun _ _ _ _ _ _ us hl => match us, hl with | [_], _ => rfl), rfl, rfl, by kernel_rfl, fun h => nomatch h⟩
theorem d45 {K : PySem.W.Frag} {oc : Value} {od an : Option Addr} {osl : Array (Option Value)} {kV doc pm cdv ct : Value} (l : K.lookup 507 = some ⟨oc, od, .func (PySem.W.fnOf "_law_worths_right" "_law_worths_right" (defArgs (topS 54)) (defBody (topS 54)) (defScope (topS 54)) .none kV doc pm an cdv ct), osl⟩) (c : PySem.W.codeIn K cdv "_law_worths_right" = true) (k : PySem.W.keepIn K (.ref 507) = true) : DefOk P K L0 cs0 45 ⟨2, 10, c45⟩ :=
  ⟨"_law_worths_right", "_law_worths_right", (topS 54), _, [(Str.ofString "told"), (Str.ofString "value"), (Str.ofString "k"), (Str.ofString "hours"), (Str.ofString "turn"), (Str.ofString "first"), (Str.ofString "past"), (Str.ofString "one"), (Str.ofString "number"), (Str.ofString "now")], [(Str.ofString "told"), (Str.ofString "value")], false, fun_mk l c k, ⟨rfl, rfl, rfl, by decide +kernel, rfl, by decide +kernel, by decide +kernel⟩, (fun_mk (st := (topS 54)) l c k).binds (fun _ _ _ _ _ _ us hl => match us, hl with | [_, _], _ => rfl), rfl, rfl, by kernel_rfl, fun h => nomatch h⟩
theorem d46 {K : PySem.W.Frag} {oc : Value} {od an : Option Addr} {osl : Array (Option Value)} {kV doc pm ct : Value} (l : K.lookup 514 = some ⟨oc, od, .func (PySem.W.fnOf "_law_screens_refused" "_law_screens_refused" (defArgs (topS 55)) (defBody (topS 55)) (defScope (topS 55)) .none kV doc pm an (.ref 513) ct), osl⟩) (c : PySem.W.codeIn K (.ref 513) "_law_screens_refused" = true) (k : PySem.W.keepIn K (.ref 514) = true) : DefOk P K L0 cs0 46 ⟨3, 14, c46⟩ :=
  ⟨"_law_screens_refused", "_law_screens_refused", (topS 55), _, [(Str.ofString "row"), (Str.ofString "told"), (Str.ofString "screens"), (Str.ofString "at"), (Str.ofString "found"), (Str.ofString "due"), (Str.ofString "wider"), (Str.ofString "hours"), (Str.ofString "turn"), (Str.ofString "first"), (Str.ofString "bad"), (Str.ofString "lot"), (Str.ofString "weak"), (Str.ofString "more")], [(Str.ofString "row"), (Str.ofString "told"), (Str.ofString "screens")], true, fun_mk l c k, ⟨rfl, rfl, rfl, by decide +kernel, rfl, by decide +kernel, by decide +kernel⟩, (fun_mk (st := (topS 55)) l c k).binds (fun _ _ _ _ _ _ us hl => match us, hl with | [_, _, _], _ => rfl), rfl, rfl, by kernel_rfl, fun _ => ⟨513, 509, by decide, rfl, by decide +kernel, by decide +kernel⟩⟩
theorem d47 {K : PySem.W.Frag} {oc : Value} {od an : Option Addr} {osl : Array (Option Value)} {kV doc pm cdv ct : Value} (l : K.lookup 519 = some ⟨oc, od, .func (PySem.W.fnOf "law" "law" (defArgs (topS 56)) (defBody (topS 56)) (defScope (topS 56)) .none kV doc pm an cdv ct), osl⟩) (c : PySem.W.codeIn K cdv "law" = true) (k : PySem.W.keepIn K (.ref 519) = true) : DefOk P K L0 cs0 47 ⟨1, 13, c47⟩ :=
  ⟨"law", "law", (topS 56), _, [(Str.ofString "script"), (Str.ofString "row"), (Str.ofString "told"), (Str.ofString "k"), (Str.ofString "odd"), (Str.ofString "screens"), (Str.ofString "least"), (Str.ofString "value"), (Str.ofString "other"), (Str.ofString "j"), (Str.ofString "cost"), (Str.ofString "is_one"), (Str.ofString "one")], [(Str.ofString "script")], false, fun_mk l c k, ⟨rfl, rfl, rfl, by decide +kernel, rfl, by decide +kernel, by decide +kernel⟩, (fun_mk (st := (topS 56)) l c k).binds (fun _ _ _ _ _ _ us hl => match us, hl with | [_], _ => rfl), rfl, rfl, by kernel_rfl, fun h => nomatch h⟩
theorem defs0 {K : PySem.W.Frag} (d0 : DefOk P K L0 cs0 0 ⟨1, 1, Sh.b0⟩) (d1 : DefOk P K L0 cs0 1 ⟨3, 3, Sh.b1⟩) (d3 : DefOk P K L0 cs0 3 ⟨2, 2, Sh.b3⟩) (d4 : DefOk P K L0 cs0 4 ⟨4, 5, Sh.b4⟩) (d6 : DefOk P K L0 cs0 6 ⟨4, 6, Sh.b6⟩) (d7 : DefOk P K L0 cs0 7 ⟨2, 2, Sh.b7⟩) (d8 : DefOk P K L0 cs0 8 ⟨3, 3, Sh.b8⟩) (d9 : DefOk P K L0 cs0 9 ⟨4, 6, Sh.b9⟩) (d10 : DefOk P K L0 cs0 10 ⟨3, 3, Sh.b10⟩) (d11 : DefOk P K L0 cs0 11 ⟨3, 3, Sh.b11⟩) (d15 : DefOk P K L0 cs0 15 ⟨2, 4, Sh.b15⟩) (d16 : DefOk P K L0 cs0 16 ⟨2, 2, Sh.b16⟩) (d17 : DefOk P K L0 cs0 17 ⟨2, 3, Sh.b17⟩) (d18 : DefOk P K L0 cs0 18 ⟨2, 2, Sh.b18⟩) (d20 : DefOk P K L0 cs0 20 ⟨1, 2, Sh.b20⟩) (d24 : DefOk P K L0 cs0 24 ⟨2, 3, Sh.b24⟩) (d25 : DefOk P K L0 cs0 25 ⟨2, 2, c25⟩) (d26 : DefOk P K L0 cs0 26 ⟨2, 2, c26⟩) (d27 : DefOk P K L0 cs0 27 ⟨2, 2, c27⟩) (d28 : DefOk P K L0 cs0 28 ⟨3, 3, c28⟩) (d29 : DefOk P K L0 cs0 29 ⟨4, 4, c29⟩) (d30 : DefOk P K L0 cs0 30 ⟨2, 2, c30⟩) (d31 : DefOk P K L0 cs0 31 ⟨1, 1, c31⟩) (d32 : DefOk P K L0 cs0 32 ⟨2, 2, c32⟩) (d33 : DefOk P K L0 cs0 33 ⟨2, 7, c33⟩) (d34 : DefOk P K L0 cs0 34 ⟨4, 4, c34⟩) (d35 : DefOk P K L0 cs0 35 ⟨1, 8, c35⟩) (d36 : DefOk P K L0 cs0 36 ⟨1, 6, c36⟩) (d37 : DefOk P K L0 cs0 37 ⟨1, 1, c37⟩) (d38 : DefOk P K L0 cs0 38 ⟨2, 6, c38⟩) (d39 : DefOk P K L0 cs0 39 ⟨1, 1, c39⟩) (d40 : DefOk P K L0 cs0 40 ⟨2, 2, c40⟩) (d41 : DefOk P K L0 cs0 41 ⟨1, 4, c41⟩) (d42 : DefOk P K L0 cs0 42 ⟨1, 9, c42⟩) (d43 : DefOk P K L0 cs0 43 ⟨2, 8, c43⟩) (d44 : DefOk P K L0 cs0 44 ⟨1, 3, c44⟩) (d45 : DefOk P K L0 cs0 45 ⟨2, 10, c45⟩) (d46 : DefOk P K L0 cs0 46 ⟨3, 14, c46⟩) (d47 : DefOk P K L0 cs0 47 ⟨1, 13, c47⟩) : ∀ f F, P.fn f = some F → DefOk P K L0 cs0 f F := by
  intro f F e
  match f, e with
  | 0, e => have e2 := Option.some.inj (show some _ = some F from e); subst e2; exact d0
  | 1, e => have e2 := Option.some.inj (show some _ = some F from e); subst e2; exact d1
  | 2, e => exact absurd (show (none : Option FD) = some F from e) (by simp)
  | 3, e => have e2 := Option.some.inj (show some _ = some F from e); subst e2; exact d3
  | 4, e => have e2 := Option.some.inj (show some _ = some F from e); subst e2; exact d4
  | 5, e => exact absurd (show (none : Option FD) = some F from e) (by simp)
  | 6, e => have e2 := Option.some.inj (show some _ = some F from e); subst e2; exact d6
  | 7, e => have e2 := Option.some.inj (show some _ = some F from e); subst e2; exact d7
  | 8, e => have e2 := Option.some.inj (show some _ = some F from e); subst e2; exact d8
  | 9, e => have e2 := Option.some.inj (show some _ = some F from e); subst e2; exact d9
  | 10, e => have e2 := Option.some.inj (show some _ = some F from e); subst e2; exact d10
  | 11, e => have e2 := Option.some.inj (show some _ = some F from e); subst e2; exact d11
  | 12, e => exact absurd (show (none : Option FD) = some F from e) (by simp)
  | 13, e => exact absurd (show (none : Option FD) = some F from e) (by simp)
  | 14, e => exact absurd (show (none : Option FD) = some F from e) (by simp)
  | 15, e => have e2 := Option.some.inj (show some _ = some F from e); subst e2; exact d15
  | 16, e => have e2 := Option.some.inj (show some _ = some F from e); subst e2; exact d16
  | 17, e => have e2 := Option.some.inj (show some _ = some F from e); subst e2; exact d17
  | 18, e => have e2 := Option.some.inj (show some _ = some F from e); subst e2; exact d18
  | 19, e => exact absurd (show (none : Option FD) = some F from e) (by simp)
  | 20, e => have e2 := Option.some.inj (show some _ = some F from e); subst e2; exact d20
  | 21, e => exact absurd (show (none : Option FD) = some F from e) (by simp)
  | 22, e => exact absurd (show (none : Option FD) = some F from e) (by simp)
  | 23, e => exact absurd (show (none : Option FD) = some F from e) (by simp)
  | 24, e => have e2 := Option.some.inj (show some _ = some F from e); subst e2; exact d24
  | 25, e => have e2 := Option.some.inj (show some _ = some F from e); subst e2; exact d25
  | 26, e => have e2 := Option.some.inj (show some _ = some F from e); subst e2; exact d26
  | 27, e => have e2 := Option.some.inj (show some _ = some F from e); subst e2; exact d27
  | 28, e => have e2 := Option.some.inj (show some _ = some F from e); subst e2; exact d28
  | 29, e => have e2 := Option.some.inj (show some _ = some F from e); subst e2; exact d29
  | 30, e => have e2 := Option.some.inj (show some _ = some F from e); subst e2; exact d30
  | 31, e => have e2 := Option.some.inj (show some _ = some F from e); subst e2; exact d31
  | 32, e => have e2 := Option.some.inj (show some _ = some F from e); subst e2; exact d32
  | 33, e => have e2 := Option.some.inj (show some _ = some F from e); subst e2; exact d33
  | 34, e => have e2 := Option.some.inj (show some _ = some F from e); subst e2; exact d34
  | 35, e => have e2 := Option.some.inj (show some _ = some F from e); subst e2; exact d35
  | 36, e => have e2 := Option.some.inj (show some _ = some F from e); subst e2; exact d36
  | 37, e => have e2 := Option.some.inj (show some _ = some F from e); subst e2; exact d37
  | 38, e => have e2 := Option.some.inj (show some _ = some F from e); subst e2; exact d38
  | 39, e => have e2 := Option.some.inj (show some _ = some F from e); subst e2; exact d39
  | 40, e => have e2 := Option.some.inj (show some _ = some F from e); subst e2; exact d40
  | 41, e => have e2 := Option.some.inj (show some _ = some F from e); subst e2; exact d41
  | 42, e => have e2 := Option.some.inj (show some _ = some F from e); subst e2; exact d42
  | 43, e => have e2 := Option.some.inj (show some _ = some F from e); subst e2; exact d43
  | 44, e => have e2 := Option.some.inj (show some _ = some F from e); subst e2; exact d44
  | 45, e => have e2 := Option.some.inj (show some _ = some F from e); subst e2; exact d45
  | 46, e => have e2 := Option.some.inj (show some _ = some F from e); subst e2; exact d46
  | 47, e => have e2 := Option.some.inj (show some _ = some F from e); subst e2; exact d47
  | n + 48, e => exact absurd (show (none : Option FD) = some F from e) (by simp)
theorem td0 {K : PySem.W.Frag} {oc : Value} {od an : Option Addr} {osl : Array (Option Value)} {kV doc pm cdv ct : Value} {mg : Str → Option Value} (l : K.lookup 473 = some ⟨oc, od, .func (PySem.W.fnOf "_law_told" "_law_told" (defArgs (topS 48)) (defBody (topS 48)) (defScope (topS 48)) .none kV doc pm an cdv ct), osl⟩) (c : PySem.W.codeIn K cdv "_law_told" = true) (k : PySem.W.keepIn K (.ref 473) = true) (g : mg "_law_told" = some (.ref 473))
    (rf : ∃ gr : Addr, mg "_law_refusal" = some (.ref gr) ∧ PySem.W.keepIn K (.ref gr) = true ∧ RfW P K L0 gr) (ge : mg "ClimateError" = some (.ref 24)) (ex : (Z0.xs.all fun c => PySem.W.exmOne K (.ref (ca0 c)) (.ref 24) == some true) = true) : TdW P K mg L0 where
  td := ⟨_, (topS 48), _, ["call", "e"], 1, fun_mk l c k, ⟨rfl, rfl, rfl, by decide +kernel, rfl, by decide +kernel, by decide +kernel⟩, (fun_mk (st := (topS 48)) l c k).binds (fun _ _ _ _ _ _ us hl => match us, hl with | [_], _ => rfl), g, by kernel_rfl, rfl, by decide, by decide +kernel, by decide +kernel, by decide +kernel, by decide +kernel⟩
  rf := rf
  ce := ⟨_, ge, fun c hc => by simpa using List.all_eq_true.mp ex c (lst0.xs c hc)⟩
  gx := fun g d h => by
    have : ∀ x ∈ glL, ∀ d, x = some d → noX d = true := by decide +kernel
    simp only [P] at h
    cases hg : glL[g]? with
    | none => rw [hg] at h; cases h
    | some x => rw [hg] at h; exact this x (List.mem_of_getElem? hg) d h
theorem ini0 {K : PySem.W.Frag} {C fI cda cc : Addr} {fs : List Str} {nm q : Str} {N : Addr} {bs bm : List Value} {sn : List Str} {sub : List Value} {ab : Bool} {col : Option Bool} {dd : Option Addr} {k0 k1 k2 k3 k5 : Option Value} {name qual : Str} {params : Arguments} {body : List Stmt} {scope : Scope} {kV doc pm ct oc : Value} {an od : Option Addr} {osl : Array (Option Value)} {o1 : Value} {o2 : Option Addr} {vs : Array Value} {o3 : Array (Option Value)} {file : Str} {tf : Tok} {p1 : Value} {p2 : Option Addr} {p3 : Array (Option Value)}
    (lC : K.lookup C = some (excClassObj nm q C N bs bm true sn sub ab col dd k0 k1 k2 k3 k5 "ValueError.__new__")) (lf : K.lookup fI = some ⟨oc, od, .func (PySem.W.ksFn name qual params body scope .none kV doc pm an (.ref cda) ct cc), osl⟩) (c : PySem.W.codeIn K (.ref cda) qual = true) (lc : K.lookup cda = some ⟨o1, o2, .fields vs, o3⟩) (h2 : vs[2]? = some (.str file tf)) (hf : ((theProg.main.file : Str) == file) = true) (lk : K.lookup cc = some ⟨p1, p2, .cell (some (.ref C)), p3⟩)
    (hb : initOf body = some fs) (hs : initScope scope fs = true) (hp : (params.posonlyargs ++ params.args).head?.map (·.arg) = some ("self" : Str)) (hbm : PySem.HandSPX.refsVE bm = true) (nd : (("self" : Str) :: fs).Nodup)
    (hbd : ∀ us : List Value, us.length = fs.length + 1 → bindArgs (PySem.W.ksFn name qual params body scope .none kV doc pm an (.ref cda) ct cc) ⟨us, []⟩ = pure ((("self" : Str) :: fs).zip us))
    (hx : (PySem.W.findIn K (.ref C) "__setattr__" == some (some (.builtin "object.__setattr__")) && (PySem.W.subIn K (.ref C) (.type "BaseException") == some true && (PySem.W.typeIn K (.ref C) == some (.type "type") && (PySem.W.keepIn K (.ref C) && (PySem.W.findIn K (.ref C) "__init__" == some (some (.ref fI)) && (PySem.W.typeIn K (.ref fI) == some (.type "function") && (PySem.W.ks_superIn K C C "__init__" == some (some (.builtin "ValueError.__init__")) && (PySem.W.subIn K (.ref C) (.type "ValueError") == some true && (PySem.W.mroIn K C (.ref C) == some true && (PySem.W.nsIn K cStatics "thirdparty.any" == some none && fs.all fun f => PySem.W.findIn K (.ref C) f == some none)))))))))) = true) (hdb : ∀ f ∈ fs, (f == ("__debug__" : Str)) = false) (hfew : fs.length ≤ 900) : InitK theProg K C fI fs := by
  simp only [Bool.and_eq_true, beq_iff_eq, List.all_eq_true] at hx
  obtain ⟨x1, x2, x3, x4, x5, x6, x7, x8, x9, x10, x11⟩ := hx
  exact ⟨⟨⟨_, _, _, _, _, _, _, _, _, _, _, _, _, _, _, lC, hbm⟩, x1, x2, x3, x4⟩, ⟨_, _, _, _, _, _, _, _, _, _, _, _, _, _, _, lf, c, ⟨_, _, _, _, _, _, lc, h2, hf⟩, ⟨_, _, _, lk⟩, hb, hs, hp, hbd⟩, nd, by decide +kernel, x5, x6, x7, x8, x9, x10, x11, hdb, hfew, trivial⟩
theorem exc0 {K : PySem.W.Frag} {mg : Str → Option Value} {h : Heap} (X : K.In h) (G : h.Ns mainGlobals mg) (hb : lnkB P T0 fa0 ca0 Z0 K = true) (e1 : InitK theProg K 46 43 [(Str.ofString "part"), (Str.ofString "place")]) (e2 : InitK theProg K 67 64 [(Str.ofString "value")]) (e3 : InitK theProg K 88 85 [(Str.ofString "name")]) (e4 : InitK theProg K 109 106 [(Str.ofString "place")]) (e5 : InitK theProg K 130 127 [(Str.ofString "place")]) (e6 : InitK theProg K 151 148 [(Str.ofString "line")]) (e7 : InitK theProg K 172 169 [(Str.ofString "line")]) (e8 : InitK theProg K 193 190 []) (e9 : InitK theProg K 214 211 []) (e10 : InitK theProg K 235 232 []) : ∀ c, P.xcl c = true → ∃ fI, InitK theProg K (ca0 c) fI (T0.xf c) ∧ mg (T0.cl c) = some (.ref (ca0 c)) := by
  intro c hc
  have hm := lst0.xs c hc
  have hg : mg (T0.cl c) = some (.ref (ca0 c)) := by
    unfold lnkB at hb
    simp only [Bool.and_eq_true, List.all_eq_true] at hb
    have := hb.2.2.2.2.2.1 c hm
    simp only [excB, Bool.and_eq_true, beq_iff_eq] at this
    exact PySem.W.mg_of X G this.2.2.2.2.2.2.2.2.2.1
  simp only [Z0, List.mem_cons, List.not_mem_nil, or_false] at hm
  rcases hm with rfl | rfl | rfl | rfl | rfl | rfl | rfl | rfl | rfl | rfl
  · exact ⟨_, e1, hg⟩
  · exact ⟨_, e2, hg⟩
  · exact ⟨_, e3, hg⟩
  · exact ⟨_, e4, hg⟩
  · exact ⟨_, e5, hg⟩
  · exact ⟨_, e6, hg⟩
  · exact ⟨_, e7, hg⟩
  · exact ⟨_, e8, hg⟩
  · exact ⟨_, e9, hg⟩
  · exact ⟨_, e10, hg⟩
theorem glb0_ {K : PySem.W.Frag} {mg : Str → Option Value} {h : Heap} (X : K.In h) (G : h.Ns mainGlobals mg) {n0 : Nat} {sl0 : Array (Option Value)} {t0_0 : Tok} {t0_1 : Tok} {t0_2 : Tok} (g0 : PySem.W.nsIn K mainGlobals "PARTS" = some (some (.ref 306))) (gb0 : K.lookup 306 = some ⟨.type "tuple", none, .seq #[.str "hours" t0_0, .str "turn" t0_1, .str "first" t0_2] n0, sl0⟩) {t1 : Tok} (g1 : PySem.W.nsIn K mainGlobals "MOST_HOURS" = some (some (.int 24 t1))) {t2 : Tok} (g2 : PySem.W.nsIn K mainGlobals "MOST_COST" = some (some (.int 99 t2))) {t3 : Tok} (g3 : PySem.W.nsIn K mainGlobals "MOST_VALUE" = some (some (.int 9999 t3))) : ∀ g d, P.glb g = some d → ∃ v u, mg (T0.gl g) = some u ∧ RelV v u ∧ ∀ S, Rep K L0 S d v := by
  intro g d h
  match g, h with
  | 0, h =>
    have h2 := Option.some.inj (show some _ = some d from h)
    subst h2
    refine ⟨.ref 306, _, PySem.W.mg_of X G g0, rfl, fun S => ?_⟩
    rw [Rep]
    exact ⟨_, [.str "hours", .str "turn", .str "first"], rfl, .inr ⟨_, _, _, gb0, rfl, rfl, rfl, (by show 3 ≤ sizeLine; decide +kernel), .cons ⟨_, rfl⟩ (.cons ⟨_, rfl⟩ (.cons ⟨_, rfl⟩ (.nil)))⟩, .cons (rep_str (by decide +kernel)) (.cons (rep_str (by decide +kernel)) (.cons (rep_str (by decide +kernel)) (.nil)))⟩
  | 1, h =>
    have h2 := Option.some.inj (show some _ = some d from h)
    subst h2
    exact ⟨.int 24, _, PySem.W.mg_of X G g1, ⟨_, rfl⟩, fun S => rep_int⟩
  | 2, h =>
    have h2 := Option.some.inj (show some _ = some d from h)
    subst h2
    exact ⟨.int 99, _, PySem.W.mg_of X G g2, ⟨_, rfl⟩, fun S => rep_int⟩
  | 3, h =>
    have h2 := Option.some.inj (show some _ = some d from h)
    subst h2
    exact ⟨.int 9999, _, PySem.W.mg_of X G g3, ⟨_, rfl⟩, fun S => rep_int⟩
  | n + 4, h => exact absurd (show (none : Option D) = some d from h) (by simp)
theorem noExc {w : World} {H : Hp} {s : Shared} {e : Value} {t : Shared} (z : L2.CX theProg w [] H s (fun _ _ _ => False) e t) : False := by
  obtain ⟨_, _, _, _, _, _, _, _, _, _, _, _, z⟩ := z
  exact z
theorem wd0 {K : PySem.W.Frag} {h : Heap} {mg : Str → Option Value} (X : K.In h) (G : h.Ns mainGlobals mg) (hb : lnkB P T0 fa0 ca0 Z0 K = true) (glb : ∀ g d, P.glb g = some d → ∃ v u, mg (T0.gl g) = some u ∧ RelV v u ∧ ∀ S, Rep K L0 S d v)
    (exc : ∀ c, P.xcl c = true → ∃ fI, InitK theProg K (ca0 c) fI (T0.xf c) ∧ mg (T0.cl c) = some (.ref (ca0 c))) (td : (∃ p, p ∈ cs0) → TdW P K mg L0) (defs : ∀ f F, P.fn f = some F → DefOk P K L0 cs0 f F) : Wd P theProg K mg L0 cs0 :=
  ⟨lk_of X G nm0 lst0 hb glb, rfl, exc, td, defs⟩
theorem fin0 {w : World} {K : PySem.W.Frag} {h : Heap} {mg : Str → Option Value} {fa : Addr} (W : Wd P theProg K mg L0 cs0) (hfa : mg "law" = some (.ref fa)) (hl : mg "law" = some (.ref (fa0 47))) (hT : ∀ p ∈ cs0, h.get? p.2 = some { cls := .none, data := .fields #[] } ∧ K.lookup p.2 = none ∧ PySem.W.CodeHd h p.1 p.2) (nL : noLists K = true) :
      ∃ (cs : List (Addr × Addr)) (sp : Sp), (∀ p ∈ cs, h.get? p.2 = some { cls := .none, data := .fields #[] } ∧ K.lookup p.2 = none ∧ PySem.W.CodeHd h p.1 p.2) ∧ (∀ b o, K.lookup b = some o → o.cls ≠ .type "list") ∧
        (∀ (H : Hp) (a : Addr) (ns : List Int), ns.length ≤ 63 → (∀ p ∈ cs, H p.2 = some (.tbl #[])) → (∃ o, H a = some (.frz o (.lst (ns.map V.int)))) → sp [.ref a] H (fun v _ => v = .bl true) fun _ _ _ => False) ∧
        ∀ base : Heap, K.In base → base.Ns mainGlobals mg → (∀ p ∈ cs, LamX.TabB base mg p.1 p.2) → ∃ (fd : FuncData) (x : Str), (∀ (t : Shared) (u : Value), K.In t.heap → BindsTo t fd ⟨[u], []⟩ [(x, u)]) ∧ FnG theProg w K mg base (L2.CX theProg w) (5 * lawN) fa fd [x] sp := by
  have e := hfa.symm.trans hl
  cases e
  refine ⟨cs0, spI K L0 (callF P lawN) 47 1, hT, noLists_ok nL, fun H a ns _ ht hs => entry_sp (fun p hp => ?_) hs (law_run ns), fun base _ _ hB => law_fn (w := w) W (f := 47) (n := lawN) (F := ⟨1, 13, c47⟩) rfl rfl base hB⟩
  have : ∀ q ∈ tabs0, ∃ c ∈ cs0, c.2 = q.1 := by decide +kernel
  obtain ⟨c, hc, e⟩ := this p hp
  rw [← e]
  exact ht _ hc
end K18
open PySem PySem.W PyProof.Rows
set_option maxRecDepth 100000 in
set_option maxHeartbeats 0 in
theorem PySem.Challenge.cw_glasswarm_k18_whole_screens_holds : PySem.Challenge.rw_glasswarm_k18_whole_screens.Holds := by
  w_on; o_law; k_head; (case hw => w_witness2)
  k_fill
  refine GW.walkG (n := 63) (k := 5 * K18.lawN) (CX := fun w => L2.CX K18.theProg w) rfl (by decide) rfl ⟨rfl, by decide, by decide⟩ (fun w h Y => PySem.W.km_in_of Y) ?F (fun _ _ _ _ _ z => K18.noExc z)
  case F =>
    intro w mg fa h Y X G hmg
    have tb := PySem.W.km_tabs_of Y
    refine' K18.fin0 (K18.wd0 X G ?z_hb ?z_glb ?z_exc ?z_td ?z_defs) hmg (PySem.W.mg_of X G ?z_hl) ?z_hT ?z_nL
    (case z_hb => kernel_rfl)
    (case z_nL => kernel_rfl)
    (case z_hl => k_is)
    case z_glb =>
      refine' K18.glb0_ X G ?z_g0 ?z_gb0 ?z_g1 ?z_g2 ?z_g3
      (case z_g0 => k_is)
      (case z_gb0 => k_is)
      (case z_g1 => k_is)
      (case z_g2 => k_is)
      (case z_g3 => k_is)
    case z_exc =>
      refine' K18.exc0 X G ?z_hb2 ?z_e_1 ?z_e_2 ?z_e_3 ?z_e_4 ?z_e_5 ?z_e_6 ?z_e_7 ?z_e_8 ?z_e_9 ?z_e_10
      (case z_hb2 => kernel_rfl)
      (case z_e_1 => (refine' K18.ini0 ?y_lC_1 ?y_lf_1 ?y_c_1 ?y_lc_1 ?y_h2_1 ?y_hf_1 ?y_lk_1 ?y_z_hb_1 ?y_hs_1 ?y_hp_1 ?y_hbm_1 ?y_nd_1 ?y_hbd_1 ?y_hx_1 ?y_hdb_1 ?y_hfew_1; (case y_lC_1 => k_is); (case y_lf_1 => k_is); (case y_c_1 => k_is); (case y_lc_1 => k_is); (case y_h2_1 => rfl); (case y_hf_1 => kernel_rfl); (case y_lk_1 => k_is); (case y_z_hb_1 => kernel_rfl); (case y_hs_1 => kernel_rfl); (case y_hp_1 => kernel_rfl); (case y_hbm_1 => kernel_rfl); (case y_nd_1 => decide +kernel); (case y_hbd_1 => (intro us hl; match us, hl with | [_, _, _], _ => rfl)); (case y_hx_1 => kernel_rfl); (case y_hdb_1 => decide +kernel); (case y_hfew_1 => decide)))
      (case z_e_2 => (refine' K18.ini0 ?y_lC_2 ?y_lf_2 ?y_c_2 ?y_lc_2 ?y_h2_2 ?y_hf_2 ?y_lk_2 ?y_z_hb_2 ?y_hs_2 ?y_hp_2 ?y_hbm_2 ?y_nd_2 ?y_hbd_2 ?y_hx_2 ?y_hdb_2 ?y_hfew_2; (case y_lC_2 => k_is); (case y_lf_2 => k_is); (case y_c_2 => k_is); (case y_lc_2 => k_is); (case y_h2_2 => rfl); (case y_hf_2 => kernel_rfl); (case y_lk_2 => k_is); (case y_z_hb_2 => kernel_rfl); (case y_hs_2 => kernel_rfl); (case y_hp_2 => kernel_rfl); (case y_hbm_2 => kernel_rfl); (case y_nd_2 => decide +kernel); (case y_hbd_2 => (intro us hl; match us, hl with | [_, _], _ => rfl)); (case y_hx_2 => kernel_rfl); (case y_hdb_2 => decide +kernel); (case y_hfew_2 => decide)))
      (case z_e_3 => (refine' K18.ini0 ?y_lC_3 ?y_lf_3 ?y_c_3 ?y_lc_3 ?y_h2_3 ?y_hf_3 ?y_lk_3 ?y_z_hb_3 ?y_hs_3 ?y_hp_3 ?y_hbm_3 ?y_nd_3 ?y_hbd_3 ?y_hx_3 ?y_hdb_3 ?y_hfew_3; (case y_lC_3 => k_is); (case y_lf_3 => k_is); (case y_c_3 => k_is); (case y_lc_3 => k_is); (case y_h2_3 => rfl); (case y_hf_3 => kernel_rfl); (case y_lk_3 => k_is); (case y_z_hb_3 => kernel_rfl); (case y_hs_3 => kernel_rfl); (case y_hp_3 => kernel_rfl); (case y_hbm_3 => kernel_rfl); (case y_nd_3 => decide +kernel); (case y_hbd_3 => (intro us hl; match us, hl with | [_, _], _ => rfl)); (case y_hx_3 => kernel_rfl); (case y_hdb_3 => decide +kernel); (case y_hfew_3 => decide)))
      (case z_e_4 => (refine' K18.ini0 ?y_lC_4 ?y_lf_4 ?y_c_4 ?y_lc_4 ?y_h2_4 ?y_hf_4 ?y_lk_4 ?y_z_hb_4 ?y_hs_4 ?y_hp_4 ?y_hbm_4 ?y_nd_4 ?y_hbd_4 ?y_hx_4 ?y_hdb_4 ?y_hfew_4; (case y_lC_4 => k_is); (case y_lf_4 => k_is); (case y_c_4 => k_is); (case y_lc_4 => k_is); (case y_h2_4 => rfl); (case y_hf_4 => kernel_rfl); (case y_lk_4 => k_is); (case y_z_hb_4 => kernel_rfl); (case y_hs_4 => kernel_rfl); (case y_hp_4 => kernel_rfl); (case y_hbm_4 => kernel_rfl); (case y_nd_4 => decide +kernel); (case y_hbd_4 => (intro us hl; match us, hl with | [_, _], _ => rfl)); (case y_hx_4 => kernel_rfl); (case y_hdb_4 => decide +kernel); (case y_hfew_4 => decide)))
      (case z_e_5 => (refine' K18.ini0 ?y_lC_5 ?y_lf_5 ?y_c_5 ?y_lc_5 ?y_h2_5 ?y_hf_5 ?y_lk_5 ?y_z_hb_5 ?y_hs_5 ?y_hp_5 ?y_hbm_5 ?y_nd_5 ?y_hbd_5 ?y_hx_5 ?y_hdb_5 ?y_hfew_5; (case y_lC_5 => k_is); (case y_lf_5 => k_is); (case y_c_5 => k_is); (case y_lc_5 => k_is); (case y_h2_5 => rfl); (case y_hf_5 => kernel_rfl); (case y_lk_5 => k_is); (case y_z_hb_5 => kernel_rfl); (case y_hs_5 => kernel_rfl); (case y_hp_5 => kernel_rfl); (case y_hbm_5 => kernel_rfl); (case y_nd_5 => decide +kernel); (case y_hbd_5 => (intro us hl; match us, hl with | [_, _], _ => rfl)); (case y_hx_5 => kernel_rfl); (case y_hdb_5 => decide +kernel); (case y_hfew_5 => decide)))
      (case z_e_6 => (refine' K18.ini0 ?y_lC_6 ?y_lf_6 ?y_c_6 ?y_lc_6 ?y_h2_6 ?y_hf_6 ?y_lk_6 ?y_z_hb_6 ?y_hs_6 ?y_hp_6 ?y_hbm_6 ?y_nd_6 ?y_hbd_6 ?y_hx_6 ?y_hdb_6 ?y_hfew_6; (case y_lC_6 => k_is); (case y_lf_6 => k_is); (case y_c_6 => k_is); (case y_lc_6 => k_is); (case y_h2_6 => rfl); (case y_hf_6 => kernel_rfl); (case y_lk_6 => k_is); (case y_z_hb_6 => kernel_rfl); (case y_hs_6 => kernel_rfl); (case y_hp_6 => kernel_rfl); (case y_hbm_6 => kernel_rfl); (case y_nd_6 => decide +kernel); (case y_hbd_6 => (intro us hl; match us, hl with | [_, _], _ => rfl)); (case y_hx_6 => kernel_rfl); (case y_hdb_6 => decide +kernel); (case y_hfew_6 => decide)))
      (case z_e_7 => (refine' K18.ini0 ?y_lC_7 ?y_lf_7 ?y_c_7 ?y_lc_7 ?y_h2_7 ?y_hf_7 ?y_lk_7 ?y_z_hb_7 ?y_hs_7 ?y_hp_7 ?y_hbm_7 ?y_nd_7 ?y_hbd_7 ?y_hx_7 ?y_hdb_7 ?y_hfew_7; (case y_lC_7 => k_is); (case y_lf_7 => k_is); (case y_c_7 => k_is); (case y_lc_7 => k_is); (case y_h2_7 => rfl); (case y_hf_7 => kernel_rfl); (case y_lk_7 => k_is); (case y_z_hb_7 => kernel_rfl); (case y_hs_7 => kernel_rfl); (case y_hp_7 => kernel_rfl); (case y_hbm_7 => kernel_rfl); (case y_nd_7 => decide +kernel); (case y_hbd_7 => (intro us hl; match us, hl with | [_, _], _ => rfl)); (case y_hx_7 => kernel_rfl); (case y_hdb_7 => decide +kernel); (case y_hfew_7 => decide)))
      (case z_e_8 => (refine' K18.ini0 ?y_lC_8 ?y_lf_8 ?y_c_8 ?y_lc_8 ?y_h2_8 ?y_hf_8 ?y_lk_8 ?y_z_hb_8 ?y_hs_8 ?y_hp_8 ?y_hbm_8 ?y_nd_8 ?y_hbd_8 ?y_hx_8 ?y_hdb_8 ?y_hfew_8; (case y_lC_8 => k_is); (case y_lf_8 => k_is); (case y_c_8 => k_is); (case y_lc_8 => k_is); (case y_h2_8 => rfl); (case y_hf_8 => kernel_rfl); (case y_lk_8 => k_is); (case y_z_hb_8 => kernel_rfl); (case y_hs_8 => kernel_rfl); (case y_hp_8 => kernel_rfl); (case y_hbm_8 => kernel_rfl); (case y_nd_8 => decide +kernel); (case y_hbd_8 => (intro us hl; match us, hl with | [_], _ => rfl)); (case y_hx_8 => kernel_rfl); (case y_hdb_8 => decide +kernel); (case y_hfew_8 => decide)))
      (case z_e_9 => (refine' K18.ini0 ?y_lC_9 ?y_lf_9 ?y_c_9 ?y_lc_9 ?y_h2_9 ?y_hf_9 ?y_lk_9 ?y_z_hb_9 ?y_hs_9 ?y_hp_9 ?y_hbm_9 ?y_nd_9 ?y_hbd_9 ?y_hx_9 ?y_hdb_9 ?y_hfew_9; (case y_lC_9 => k_is); (case y_lf_9 => k_is); (case y_c_9 => k_is); (case y_lc_9 => k_is); (case y_h2_9 => rfl); (case y_hf_9 => kernel_rfl); (case y_lk_9 => k_is); (case y_z_hb_9 => kernel_rfl); (case y_hs_9 => kernel_rfl); (case y_hp_9 => kernel_rfl); (case y_hbm_9 => kernel_rfl); (case y_nd_9 => decide +kernel); (case y_hbd_9 => (intro us hl; match us, hl with | [_], _ => rfl)); (case y_hx_9 => kernel_rfl); (case y_hdb_9 => decide +kernel); (case y_hfew_9 => decide)))
      (case z_e_10 => (refine' K18.ini0 ?y_lC_10 ?y_lf_10 ?y_c_10 ?y_lc_10 ?y_h2_10 ?y_hf_10 ?y_lk_10 ?y_z_hb_10 ?y_hs_10 ?y_hp_10 ?y_hbm_10 ?y_nd_10 ?y_hbd_10 ?y_hx_10 ?y_hdb_10 ?y_hfew_10; (case y_lC_10 => k_is); (case y_lf_10 => k_is); (case y_c_10 => k_is); (case y_lc_10 => k_is); (case y_h2_10 => rfl); (case y_hf_10 => kernel_rfl); (case y_lk_10 => k_is); (case y_z_hb_10 => kernel_rfl); (case y_hs_10 => kernel_rfl); (case y_hp_10 => kernel_rfl); (case y_hbm_10 => kernel_rfl); (case y_nd_10 => decide +kernel); (case y_hbd_10 => (intro us hl; match us, hl with | [_], _ => rfl)); (case y_hx_10 => kernel_rfl); (case y_hdb_10 => decide +kernel); (case y_hfew_10 => decide)))
    case z_td =>
      intro _
      refine' K18.td0 ?x_l ?x_c ?x_k (PySem.W.mg_of X G ?x_g1) (K18.rf0 ?x_l2 ?x_c2 ?x_k2 (PySem.W.mg_of X G ?x_g2)) (PySem.W.mg_of X G ?x_g3) ?x_ex
      (case x_l => k_is); (case x_c => k_is); (case x_k => k_is); (case x_g1 => k_is); (case x_l2 => k_is); (case x_c2 => k_is); (case x_k2 => k_is); (case x_g2 => k_is); (case x_g3 => k_is); (case x_ex => kernel_rfl)
    case z_defs =>
      refine' K18.defs0 ?z_d0 ?z_d1 ?z_d3 ?z_d4 ?z_d6 ?z_d7 ?z_d8 ?z_d9 ?z_d10 ?z_d11 ?z_d15 ?z_d16 ?z_d17 ?z_d18 ?z_d20 ?z_d24 ?z_d25 ?z_d26 ?z_d27 ?z_d28 ?z_d29 ?z_d30 ?z_d31 ?z_d32 ?z_d33 ?z_d34 ?z_d35 ?z_d36 ?z_d37 ?z_d38 ?z_d39 ?z_d40 ?z_d41 ?z_d42 ?z_d43 ?z_d44 ?z_d45 ?z_d46 ?z_d47
      (case z_d0 => (refine' K18.d0 ?z_l0 ?z_c0 ?z_k0; (case z_l0 => k_is); (case z_c0 => k_is); (case z_k0 => k_is)))
      (case z_d1 => (refine' K18.d1 ?z_l1 ?z_c1 ?z_k1; (case z_l1 => k_is); (case z_c1 => k_is); (case z_k1 => k_is)))
      (case z_d3 => (refine' K18.d3 ?z_l3 ?z_c3 ?z_k3; (case z_l3 => k_is); (case z_c3 => k_is); (case z_k3 => k_is)))
      (case z_d4 => (refine' K18.d4 ?z_l4 ?z_c4 ?z_k4; (case z_l4 => k_is); (case z_c4 => k_is); (case z_k4 => k_is)))
      (case z_d6 => (refine' K18.d6 ?z_l6 ?z_c6 ?z_k6; (case z_l6 => k_is); (case z_c6 => k_is); (case z_k6 => k_is)))
      (case z_d7 => (refine' K18.d7 ?z_l7 ?z_c7 ?z_k7; (case z_l7 => k_is); (case z_c7 => k_is); (case z_k7 => k_is)))
      (case z_d8 => (refine' K18.d8 ?z_l8 ?z_c8 ?z_k8; (case z_l8 => k_is); (case z_c8 => k_is); (case z_k8 => k_is)))
      (case z_d9 => (refine' K18.d9 ?z_l9 ?z_c9 ?z_k9; (case z_l9 => k_is); (case z_c9 => k_is); (case z_k9 => k_is)))
      (case z_d10 => (refine' K18.d10 ?z_l10 ?z_c10 ?z_k10; (case z_l10 => k_is); (case z_c10 => k_is); (case z_k10 => k_is)))
      (case z_d11 => (refine' K18.d11 ?z_l11 ?z_c11 ?z_k11; (case z_l11 => k_is); (case z_c11 => k_is); (case z_k11 => k_is)))
      (case z_d15 => (refine' K18.d15 ?z_l15 ?z_c15 ?z_k15; (case z_l15 => k_is); (case z_c15 => k_is); (case z_k15 => k_is)))
      (case z_d16 => (refine' K18.d16 ?z_l16 ?z_c16 ?z_k16; (case z_l16 => k_is); (case z_c16 => k_is); (case z_k16 => k_is)))
      (case z_d17 => (refine' K18.d17 ?z_l17 ?z_c17 ?z_k17; (case z_l17 => k_is); (case z_c17 => k_is); (case z_k17 => k_is)))
      (case z_d18 => (refine' K18.d18 ?z_l18 ?z_c18 ?z_k18; (case z_l18 => k_is); (case z_c18 => k_is); (case z_k18 => k_is)))
      (case z_d20 => (refine' K18.d20 ?z_l20 ?z_c20 ?z_k20; (case z_l20 => k_is); (case z_c20 => k_is); (case z_k20 => k_is)))
      (case z_d24 => (refine' K18.d24 ?z_l24 ?z_c24 ?z_k24; (case z_l24 => k_is); (case z_c24 => k_is); (case z_k24 => k_is)))
      (case z_d25 => (refine' K18.d25 ?z_l25 ?z_c25 ?z_k25; (case z_l25 => k_is); (case z_c25 => k_is); (case z_k25 => k_is)))
      (case z_d26 => (refine' K18.d26 ?z_l26 ?z_c26 ?z_k26; (case z_l26 => k_is); (case z_c26 => k_is); (case z_k26 => k_is)))
      (case z_d27 => (refine' K18.d27 ?z_l27 ?z_c27 ?z_k27; (case z_l27 => k_is); (case z_c27 => k_is); (case z_k27 => k_is)))
      (case z_d28 => (refine' K18.d28 ?z_l28 ?z_c28 ?z_k28; (case z_l28 => k_is); (case z_c28 => k_is); (case z_k28 => k_is)))
      (case z_d29 => (refine' K18.d29 ?z_l29 ?z_c29 ?z_k29; (case z_l29 => k_is); (case z_c29 => k_is); (case z_k29 => k_is)))
      (case z_d30 => (refine' K18.d30 ?z_l30 ?z_c30 ?z_k30; (case z_l30 => k_is); (case z_c30 => k_is); (case z_k30 => k_is)))
      (case z_d31 => (refine' K18.d31 ?z_l31 ?z_c31 ?z_k31; (case z_l31 => k_is); (case z_c31 => k_is); (case z_k31 => k_is)))
      (case z_d32 => (refine' K18.d32 ?z_l32 ?z_c32 ?z_k32; (case z_l32 => k_is); (case z_c32 => k_is); (case z_k32 => k_is)))
      (case z_d33 => (refine' K18.d33 ?z_l33 ?z_c33 ?z_k33; (case z_l33 => k_is); (case z_c33 => k_is); (case z_k33 => k_is)))
      (case z_d34 => (refine' K18.d34 ?z_l34 ?z_c34 ?z_k34; (case z_l34 => k_is); (case z_c34 => k_is); (case z_k34 => k_is)))
      (case z_d35 => (refine' K18.d35 ?z_l35 ?z_c35 ?z_k35; (case z_l35 => k_is); (case z_c35 => k_is); (case z_k35 => k_is)))
      (case z_d36 => (refine' K18.d36 ?z_l36 ?z_c36 ?z_k36; (case z_l36 => k_is); (case z_c36 => k_is); (case z_k36 => k_is)))
      (case z_d37 => (refine' K18.d37 ?z_l37 ?z_c37 ?z_k37; (case z_l37 => k_is); (case z_c37 => k_is); (case z_k37 => k_is)))
      (case z_d38 => (refine' K18.d38 ?z_l38 ?z_c38 ?z_k38; (case z_l38 => k_is); (case z_c38 => k_is); (case z_k38 => k_is)))
      (case z_d39 => (refine' K18.d39 ?z_l39 ?z_c39 ?z_k39; (case z_l39 => k_is); (case z_c39 => k_is); (case z_k39 => k_is)))
      (case z_d40 => (refine' K18.d40 ?z_l40 ?z_c40 ?z_k40; (case z_l40 => k_is); (case z_c40 => k_is); (case z_k40 => k_is)))
      (case z_d41 => (refine' K18.d41 ?z_l41 ?z_c41 ?z_k41; (case z_l41 => k_is); (case z_c41 => k_is); (case z_k41 => k_is)))
      (case z_d42 => (refine' K18.d42 ?z_l42 ?z_c42 ?z_k42; (case z_l42 => k_is); (case z_c42 => k_is); (case z_k42 => k_is)))
      (case z_d43 => (refine' K18.d43 ?z_l43 ?z_c43 ?z_k43; (case z_l43 => k_is); (case z_c43 => k_is); (case z_k43 => k_is)))
      (case z_d44 => (refine' K18.d44 ?z_l44 ?z_c44 ?z_k44; (case z_l44 => k_is); (case z_c44 => k_is); (case z_k44 => k_is)))
      (case z_d45 => (refine' K18.d45 ?z_l45 ?z_c45 ?z_k45; (case z_l45 => k_is); (case z_c45 => k_is); (case z_k45 => k_is)))
      (case z_d46 => (refine' K18.d46 ?z_l46 ?z_c46 ?z_k46; (case z_l46 => k_is); (case z_c46 => k_is); (case z_k46 => k_is)))
      (case z_d47 => (refine' K18.d47 ?z_l47 ?z_c47 ?z_k47; (case z_l47 => k_is); (case z_c47 => k_is); (case z_k47 => k_is)))
    case z_hT =>
      intro p hp
      simp only [K18.cs0, List.mem_cons, List.not_mem_nil, or_false] at hp
      rcases hp with rfl
      · exact ⟨tb _ List.mem_cons_self, by kernel_rfl, PySem.W.codeHd_of_K X (by kernel_rfl)⟩

