import PyProof.Rows.All
import Wide.All
import OpenK.AllK
import Wide.FinOn
import HandS.ForMost
import HandS.ForExc
import HandS.Defaults
import HandS.Star
import HandS.TupAny
import HandS.TupMul
import KE.KEqNest
import HandS.Property
import HandS.ExcOwn
import HandS.ExcIs
import HandS.ExcField
import HandS.Flow
import HandS.Style
import HandS.IsInst
import HandS.Conv
import HandS.FStr
import HandS.DictComp
import HandS.More
import HandS.ListItems
import HandS.SortKw
import HandS.StrMore
import HandS.TryMany
import HandS.Zip
import HandS.HeadWalk
import HandS.WordsDict
import HandS.RaiseMore
import KE.GoesEnum
import HandS.Small
import HandS.HeadHook1
import HandS.HeadHook2
import HandS.HeadEnd
import HandS.ExcInit
import KE.KExcSuper
import KE.KSuper
import KE.KSuperObj
import HandS.Nested
import PyProof.StrLawsRepr
import HandS.HotCalls
import HandS.Head0
import HandS.Head1
import HandS.Head2
import KE.KStateDown
import PySem.Challenge.RW_lastanswers_k04_deeds_refused
set_option Elab.async false
set_option linter.all false
set_option maxRecDepth 100000
set_option maxHeartbeats 4000000
/-! The core language: values, store, expressions, statements, a pure interpreter. No model in sight. -/
namespace LA
inductive D where
  | non | bl (b : Bool) | int (i : Int) | str (x : List Nat) | tup (xs : List D) | obj (i : Nat)
  deriving Inhabited
inductive Ky where
  | n (i : Int) | s (x : List Nat)
  deriving DecidableEq
inductive Ob where
  | lst (xs : List D) (lk : Bool)
  | dct (kvs : List (Ky × D)) (lk : Bool)
  | ins (c : Nat) (fs : List (Nat × D))
  deriving Inhabited
/-- what comes: a value, or an exception of the class c with its fields -/
inductive R (α : Type) where
  | ok (a : α) | ex (c : Nat) (fs : List (Nat × D))
abbrev Sto := List Ob
abbrev M (α : Type) := Sto → Option (R α × Sto)
@[reducible] def M.pure {α : Type} (a : α) : M α := fun S => some (.ok a, S)
def M.bind {α β : Type} (m : M α) (f : α → M β) : M β := fun S => match m S with
  | none => none
  | some (.ok a, S') => f a S'
  | some (.ex c fs, S') => some (.ex c fs, S')
@[reducible] def M.stuck {α : Type} : M α := fun _ => none
def M.opt {α : Type} : Option α → M α
  | some a => M.pure a
  | none => M.stuck
abbrev En := List (Option D)

inductive BO where | add | sub | mul | fdiv | mod | pow
  deriving DecidableEq
inductive CO where | eq | ne | lt | le | gt | ge | isN | notN | in_ | nin
  deriving DecidableEq
inductive Ty where | int | bool | str | tuple | list | dict | own (c : Nat)
  deriving DecidableEq
/-- built-in functions -/
inductive BI where | len | list | tuple | dict | sorted | all | max | min | int | str
  deriving DecidableEq
/-- methods of built-in types -/
inductive BM where | append | extend | pop | popAt | clear | items | join | split | strip | index
  deriving DecidableEq
inductive Tg where
  | name (i : Nat) | nil | cons (a b : Tg)
mutual
inductive E where
  | loc (i : Nat) | con (d : D) | tup (es : Es) | lst (es : Es) | dic (es : Es) | dicS (d k v : E)
  | chk (e : E) | fld (e : E) (a : Nat) | idx (e i : E) | slc (e lo hi : E) | rev (e : E)
  | bin (o : BO) (a b : E) | cmp (o : CO) (a b : E) | cmp2 (o p : CO) (a b c : E)
  | and (a b : E) | or (a b : E) | not (a : E) | neg (a : E) | ite (c a b : E)
  | call (f : Nat) (as : Es) | make (c : Nat) (as : Es) | meth (o : E) (m : Nat) (as : Es) | bm (o : E) (m : BM) (as : Es)
  | bi (b : BI) (as : Es) | isin (e : E) (t : Ty) | fstr (es : Es)
  | lc (elt : E) (t : Tg) (it : I) (c : E) (vs : List Nat)
  | lc2 (elt : E) (t : Tg) (it : I) (t2 : Tg) (it2 : I) (vs vs1 : List Nat)
  | dc (k v : E) (t : Tg) (it : I) (vs : List Nat)
inductive Es where
  | nil | cons (st : Bool) (e : E) (r : Es)
inductive I where
  | ex (e : E) | range (n : E) | range2 (a b : E) | items (e : E) | enum (e : E) | zip (a b : E)
end
/-- what an except suite may reckon -/
inductive SX where
  | loc (i : Nat) | con (d : D) | fld (a : Nat) | isin (c : Nat) | ite (c a b : SX) | lst (a : SX) | lst2 (a b : SX) | lst3 (a b c : SX) | int (a : SX) | add (a b : SX) | kin (f : Nat) | bad
mutual
inductive C where
  | asg (t : Tg) (e : E) | asgF (o : E) (a : Nat) (e : E) | asgI (o i e : E) | augF (o : E) (a : Nat) (e : E)
  | ex (e : E) | ret (e : E) | ite (c : E) (a b : Cs) | for_ (t : Tg) (it : I) (b : Cs) | whl (c : E) (b : Cs)
  | raise (c : Nat) (as : Es) | try_ (b : Cs) (hs : List (Nat × Option Nat × Nat × SX)) | pass | super (c : Nat) (as : Es)
inductive Cs where
  | nil | cons (c : C) (r : Cs)
end
/-- how a statement ends: on, with the names; with a value; by an exception -/
inductive Fl where
  | nx (σ : En) | rt (d : D) | ex (c : Nat) (fs : List (Nat × D)) (σ : En)
abbrev SM := Sto → Option (Fl × Sto)
def SM.bind (m : SM) (f : En → SM) : SM := fun S => match m S with
  | some (.nx σ, S') => f σ S'
  | r => r
/-- an expression in a statement at σ -/
def M.inS {α : Type} (σ : En) (m : M α) (f : α → SM) : SM := fun S => match m S with
  | none => none
  | some (.ok a, S') => f a S'
  | some (.ex c fs, S') => some (.ex c fs σ, S')

structure FnI where
  np : Nat
  nl : Nat
  body : Cs
structure ClI where
  init : Option Nat := none
  meths : List (Nat × Nat) := []
  props : List (Nat × Nat) := []
  flds : List Nat := []
  eqf : Option Nat := none
  lenf : Option Nat := none
  contf : Option Nat := none
  getf : Option Nat := none
  setf : Option Nat := none
  /-- an exception's fields: how many arguments; field, place of the argument -/
  exf : Option (Nat × List (Nat × Nat)) := none
  /-- the class and those above it -/
  up : List Nat := []
/-- an exception class: its fields (field, place of the argument) if it can be made, itself and the exception classes above it -/
structure ExI where
  exf : Option (Nat × List (Nat × Nat)) := none
  up : List Nat := []
structure Pg where
  fns : List FnI
  cls : List ClI
  exs : List ExI := []
  /-- defs that ask of an exception which classes it has (none: it is a ValueError) -/
  kin : List (Nat × List (Option Nat)) := []
  /-- except suites may look at their exception -/
  sx : Bool := false
/-- a field that an exception of the class c is made with -/
def fldOk (pg : Pg) (c a : Nat) : Bool := match pg.exs[c]? with
  | some ci => (match ci.exf with
    | some m => m.2.any fun q => q.1 == a
    | none => false)
  | none => false

/-! ### data -/
def sizeL : Nat := 16777216
def toKy : D → Option Ky
  | .int i => some (.n i)
  | .str x => some (.s x)
  | _ => none
def ofKy : Ky → D
  | .n i => .int i
  | .s x => .str x
def lookK (k : Ky) : List (Ky × D) → Option D
  | [] => none
  | (j, v) :: r => if k = j then some v else lookK k r
def putK (k : Ky) (v : D) (l : List (Ky × D)) : List (Ky × D) :=
  if l.any (fun kv => decide (kv.1 = k)) then l.map (fun kv => if kv.1 = k then (kv.1, v) else kv) else l ++ [(k, v)]
def lookA {α : Type} (a : Nat) : List (Nat × α) → Option α
  | [] => none
  | (b, v) :: r => if a = b then some v else lookA a r
def putA (a : Nat) (v : D) : List (Nat × D) → List (Nat × D)
  | [] => [(a, v)]
  | (b, w) :: r => if a = b then (b, v) :: r else (b, w) :: putA a v r
/-- == of Python, to the depth n; none where it is not served -/
def b2i (b : Bool) : Int := if b then 1 else 0
mutual
def eqD (S : Sto) : Nat → D → D → Option Bool
  | 0, _, _ => none
  | _ + 1, .non, .non => some true
  | _ + 1, .bl a, .bl b => some (a == b)
  | _ + 1, .int a, .int b => some (decide (a = b))
  | _ + 1, .bl a, .int b => some (decide (b2i a = b))
  | _ + 1, .int a, .bl b => some (decide (a = b2i b))
  | _ + 1, .str a, .str b => some (decide (a = b))
  | n + 1, .tup a, .tup b => match eqDs S n a b with
    | some r => some (r && a.length == b.length)
    | none => none
  | n + 1, .obj i, .obj j => match S[i]?, S[j]? with
    | some (.lst a _), some (.lst b _) => if i = j then some true else if a.length = b.length then eqDs S n a b else some false
    | _, _ => none
  | _ + 1, .obj i, y => match S[i]?, y with
    | some (.lst _ _), .non => some false
    | some (.lst _ _), .bl _ => some false
    | some (.lst _ _), .int _ => some false
    | some (.lst _ _), .str _ => some false
    | some (.lst _ _), .tup _ => some false
    | _, _ => none
  | _ + 1, x, .obj j => match S[j]?, x with
    | some (.lst _ _), .non => some false
    | some (.lst _ _), .bl _ => some false
    | some (.lst _ _), .int _ => some false
    | some (.lst _ _), .str _ => some false
    | some (.lst _ _), .tup _ => some false
    | _, _ => none
  | _ + 1, _, _ => some false
def eqDs (S : Sto) : Nat → List D → List D → Option Bool
  | 0, _, _ => none
  | _ + 1, [], _ => some true
  | _ + 1, _, [] => some true
  | n + 1, x :: xs, y :: ys => match eqD S n x y, eqDs S n xs ys with
    | some a, some b => some (a && b)
    | _, _ => none
def eqKs (S : Sto) : Nat → List (Ky × D) → List (Ky × D) → Option Bool
  | 0, _, _ => none
  | _ + 1, [], _ => some true
  | n + 1, (k, v) :: r, l => match lookK k l with
    | none => some false
    | some w => match eqD S n v w, eqKs S n r l with
      | some a, some b => some (a && b)
      | _, _ => none
end
def deep : Nat := 100
/-- == at the top: dicts, too -/
def eqT (S : Sto) (x y : D) : Option Bool := match x, y with
  | .obj i, .obj j => match S[i]?, S[j]? with
    | some (.dct a _), some (.dct b _) => if i = j then none else if a.length = b.length then eqKs S deep a b else some false
    | _, _ => eqD S deep x y
  | x, y => eqD S deep x y
def truth (S : Sto) : D → Option Bool
  | .non => some false
  | .bl b => some b
  | .int i => some (decide (i ≠ 0))
  | .str x => if x.length ≤ sizeL then some (!x.isEmpty) else none
  | .tup xs => some (!xs.isEmpty)
  | .obj i => match S[i]? with
    | some (.lst xs _) => some (!xs.isEmpty)
    | some (.dct kvs false) => some (!kvs.isEmpty)
    | _ => none
def okB : D → Bool
  | .non => true
  | .int _ => true
  | _ => false
/-- a slice's place among n -/
def sIx (n d : Nat) : D → Option Nat
  | .non => some d
  | .int i => some (if i < 0 then (i + n).toNat else min i.toNat n)
  | _ => none
def cut {α : Type} (xs : List α) (lo hi : D) : Option (List α) := match sIx xs.length 0 lo, sIx xs.length xs.length hi with
  | some a, some b => some ((xs.drop a).take (b - a))
  | _, _ => none
/-- the place that an index means -/
def ixN (n : Nat) (i : Int) : Option Nat := if 0 ≤ i then (if i < n then some i.toNat else none) else if -(n : Int) ≤ i then some (i + n).toNat else none
def atI {α : Type} (xs : List α) (i : Int) : Option α := match ixN xs.length i with
  | some j => xs[j]?
  | none => none
def ltL : List Nat → List Nat → Bool
  | [], [] => false
  | [], _ :: _ => true
  | _ :: _, [] => false
  | x :: xs, y :: ys => if x = y then ltL xs ys else decide (x < y)
def insB {α : Type} (le : α → α → Bool) (x : α) : List α → List α
  | [] => [x]
  | y :: r => if le x y then x :: y :: r else y :: insB le x r
def isort {α : Type} (le : α → α → Bool) : List α → List α
  | [] => []
  | x :: r => insB le x (isort le r)
def strsL : List D → Option (List (List Nat))
  | [] => some []
  | .str x :: r => match strsL r with
    | some l => some (x :: l)
    | none => none
  | _ :: _ => none
/-- the decimal digits of a small number -/
def digits (n : Nat) : List Nat := (Nat.toDigits 10 n).map (·.toNat)
def strI (i : Int) : List Nat := digits i.toNat
def joinL (sep : List Nat) : List (List Nat) → List Nat
  | [] => []
  | [x] => x
  | x :: r => x ++ sep ++ joinL sep r
/-- cut at each sign c -/
def splitC (c : Nat) : List Nat → List (List Nat)
  | [] => [[]]
  | x :: r => if x = c then [] :: splitC c r else match splitC c r with
    | [] => [[x]]
    | w :: ws => (x :: w) :: ws
def dropC (c : Nat) : List Nat → List Nat
  | [] => []
  | x :: r => if x = c then dropC c r else x :: r
def stripC (c : Nat) (x : List Nat) : List Nat := (dropC c (dropC c x).reverse).reverse

/-! ### operations -/
/-- nothing is let out -/
def noEx {α : Type} (m : M α) : M α := fun S => match m S with
  | some (.ok a, S') => some (.ok a, S')
  | _ => none
def new (o : Ob) : M D := fun S => some (.ok (.obj S.length), S ++ [o])
def getO (i : Nat) : M Ob := fun S => match S[i]? with
  | some o => some (.ok o, S)
  | none => none
def setO (i : Nat) (o : Ob) : M Unit := fun S => some (.ok (), S.set i o)
/-- the items of a list or a tuple -/
def seqOf (S : Sto) : D → Option (List D)
  | .tup xs => some xs
  | .obj i => match S[i]? with
    | some (.lst xs _) => some xs
    | _ => none
  | _ => none
def binD (o : BO) (a b : D) : M D := fun S => match o, a, b with
  | .add, .int i, .int j => some (.ok (.int (i + j)), S)
  | .add, .str x, .str y => if x.length + y.length ≤ sizeL then some (.ok (.str (x ++ y)), S) else none
  | .add, .tup x, .tup y => if x.length + y.length ≤ sizeL then some (.ok (.tup (x ++ y)), S) else none
  | .add, .obj i, .obj j => match S[i]?, S[j]? with
    | some (.lst x false), some (.lst y false) => if x.length + y.length ≤ sizeL then new (.lst (x ++ y) false) S else none
    | _, _ => none
  | .sub, .int i, .int j => some (.ok (.int (i - j)), S)
  | .mul, .int i, .int j => if (-(2 ^ 64) < i ∧ i < 2 ^ 64) ∨ (-(2 ^ 64) < j ∧ j < 2 ^ 64) then some (.ok (.int (i * j)), S) else none
  | .mul, .obj i, .int k => match S[i]? with
    | some (.lst x false) => if 0 ≤ k ∧ k < 2 ^ 30 ∧ x.length * k.toNat ≤ sizeL then new (.lst (List.replicate k.toNat x).flatten false) S else none
    | _ => none
  | .mul, .tup x, .int k => if x.length ≠ 0 ∧ 2 ≤ k ∧ k ≤ 1000 ∧ x.length ≤ 1000 then some (.ok (.tup (List.replicate k.toNat x).flatten), S) else none
  | .mul, .str x, .int k => if 0 ≤ k ∧ k < 2 ^ 30 ∧ x.length * k.toNat ≤ sizeL then some (.ok (.str (List.replicate k.toNat x).flatten), S) else none
  | .fdiv, .int i, .int j => if 0 < j ∧ j < 1073741824 then some (.ok (.int (i / j)), S) else none
  | .mod, .int i, .int j => if 0 < j then some (.ok (.int (i % j)), S) else none
  | .pow, .int i, .int j => if 0 ≤ j ∧ j ≤ 1000000 ∧ i.natAbs < 2 ^ 64 then some (.ok (.int (i ^ j.toNat)), S) else none
  | _, _, _ => none
/-- x in y -/
def inSeq (S : Sto) (x : D) : List D → Option Bool
  | [] => some false
  | y :: r => match eqD S deep y x, inSeq S x r with
    | some a, some b => some (a || b)
    | _, _ => none
section
variable (pg : Pg) (cl : Nat → List D → M D)
def clsOf (S : Sto) : D → Option (Nat × ClI)
  | .obj i => match S[i]? with
    | some (.ins c _) => match pg.cls[c]? with
      | some k => some (c, k)
      | none => none
    | _ => none
  | _ => none
/-- the class's own def for a special name, if the value is an instance -/
def ownF (sel : ClI → Option Nat) (d : D) (S : Sto) : Option Nat := match clsOf pg S d with
  | some (_, k) => sel k
  | none => none
def isNonD : D → Bool
  | .non => true
  | _ => false
def cmpI (o : CO) (i j : Int) : Option Bool := match o with
  | .lt => some (decide (i < j))
  | .le => some (decide (i ≤ j))
  | .gt => some (decide (j < i))
  | .ge => some (decide (j ≤ i))
  | _ => none
def cmpS (o : CO) (x y : List Nat) : Option Bool := match o with
  | .lt => some (ltL x y)
  | .le => some (!ltL y x)
  | _ => none
def cmpD (o : CO) (a b : D) : M D := fun S => match o with
  | .eq => match ownF pg (·.eqf) a S with
    | some f => (match b with
      | .obj _ => M.bind (cl f [a, b]) (fun r S' => match r with
        | .bl r => some (.ok (.bl r), S')
        | _ => none) S
      | _ => none)
    | none => match eqT S a b with
      | some r => some (.ok (.bl r), S)
      | none => none
  | .ne => match ownF pg (·.eqf) a S with
    | some _ => none
    | none => match eqD S deep a b with
      | some r => some (.ok (.bl (!r)), S)
      | none => none
  | .isN => match b with
    | .non => some (.ok (.bl (isNonD a)), S)
    | _ => none
  | .notN => match b with
    | .non => some (.ok (.bl (!isNonD a)), S)
    | _ => none
  | .in_ => inD a b S
  | .nin => M.bind (match b with | .str _ => M.stuck | _ => inD a b) (fun r S' => match r with
      | .bl r => some (.ok (.bl (!r)), S')
      | _ => none) S
  | o => match a, b with
    | .int i, .int j => match cmpI o i j with
      | some r => some (.ok (.bl r), S)
      | none => none
    | .str x, .str y => match cmpS o x y with
      | some r => some (.ok (.bl r), S)
      | none => none
    | _, _ => none
where inD (a b : D) : M D := fun S => match b with
  | .str y => match a with
    | .str [c] => some (.ok (.bl (decide (c ∈ y))), S)
    | _ => none
  | .tup ys => match inSeq S a ys with
    | some r => some (.ok (.bl r), S)
    | none => none
  | .obj j => match S[j]? with
    | some (.lst ys _) => (match inSeq S a ys with
      | some r => some (.ok (.bl r), S)
      | none => none)
    | some (.dct kvs _) => (match toKy a with
      | some k => some (.ok (.bl (lookK k kvs).isSome), S)
      | none => none)
    | some (.ins _ _) => none
    | none => none
  | _ => none
def idxD (a i : D) : M D := fun S => match a with
  | .tup xs => match i with
    | .int i => (match atI xs i with
      | some v => some (.ok v, S)
      | none => none)
    | _ => none
  | .str x => match i with
    | .int i => if x.length ≤ sizeL then (match atI x i with
      | some c => some (.ok (.str [c]), S)
      | none => none) else none
    | _ => none
  | .obj j => match S[j]? with
    | some (.lst xs _) => (match i with
      | .int i => (match atI xs i with
        | some v => some (.ok v, S)
        | none => none)
      | _ => none)
    | some (.dct kvs _) => (match toKy i with
      | some k => (match lookK k kvs with
        | some v => some (.ok v, S)
        | none => none)
      | none => none)
    | some (.ins _ _) => none
    | none => none
  | _ => none
def slcD (a lo hi : D) : M D := fun S => match a with
  | .tup xs => match cut xs lo hi with
    | some ys => some (.ok (.tup ys), S)
    | none => none
  | .obj j => match S[j]? with
    | some (.lst xs _) => (match cut xs lo hi with
      | some ys => new (.lst ys false) S
      | none => none)
    | _ => none
  | _ => none
def revD (a : D) : M D := fun S => match a with
  | .obj j => match S[j]? with
    | some (.lst xs _) => new (.lst xs.reverse false) S
    | _ => none
  | _ => none
def fldD (o : D) (a : Nat) : M D := fun S => match o with
  | .obj i => match S[i]? with
    | some (.ins c fs) => (match pg.cls[c]? with
      | some k => (match lookA a k.props with
        | some f => noEx (cl f [o]) S
        | none => if a ∈ k.flds then (match lookA a fs with
          | some v => some (.ok v, S)
          | none => none) else none)
      | none => none)
    | _ => none
  | _ => none
def addI (x y : D) : M D := match x, y with
  | .int i, .int j => M.pure (.int (i + j))
  | _, _ => M.stuck
/-- an instance's class -/
def clsM (o : D) : M Nat := fun S => match o with
  | .obj i => match S[i]? with
    | some (.ins c _) => some (.ok c, S)
    | _ => none
  | _ => none
/-- a plain field -/
def getF (o : D) (a : Nat) : M D := fun S => match o with
  | .obj i => match S[i]? with
    | some (.ins c fs) => (match pg.cls[c]? with
      | some k => if a ∈ k.flds then (match lookA a fs with
        | some v => some (.ok v, S)
        | none => none) else none
      | none => none)
    | _ => none
  | _ => none
def setF (o : D) (a : Nat) (v : D) : M Unit := fun S => match o with
  | .obj i => match S[i]? with
    | some (.ins c fs) => (match pg.cls[c]? with
      | some k => if a ∈ k.flds ∧ fs.length < 900 then some (.ok (), S.set i (.ins c (putA a v fs))) else none
      | none => none)
    | _ => none
  | _ => none
def setI (o i v : D) : M Unit := fun S => match o with
  | .obj j => match S[j]? with
    | some (.lst xs false) => (match i with
      | .int i => (match ixN xs.length i with
        | some k => some (.ok (), S.set j (.lst (xs.set k v) false))
        | none => none)
      | _ => none)
    | some (.dct kvs false) => (match toKy i with
      | some k => if kvs.length < 1000 then some (.ok (), S.set j (.dct (putK k v kvs) false)) else none
      | none => none)
    | _ => none
  | _ => none
def makeD (c : Nat) (as : List D) : M D := fun S => match pg.cls[c]? with
  | some k => match k.exf, k.init with
    | none, some f => M.bind (cl f (.obj S.length :: as)) (fun r S' => match r with
      | .non => some (.ok (.obj S.length), S')
      | _ => none) (S ++ [.ins c []])
    | _, _ => none
  | none => none
/-- the def that a method's name stands for -/
def methF (o : D) (m : Nat) : M Nat := fun S => match o with
  | .obj i => match S[i]? with
    | some (.ins c fs) => (match pg.cls[c]? with
      | some k => (match lookA m k.meths, lookA m fs with
        | some f, none => some (.ok f, S)
        | _, _ => none)
      | none => none)
    | _ => none
  | _ => none
/-- the receiver of a built-in method is of its type -/
def recvD (o : D) (m : BM) : M Unit := fun S => match m, o with
  | .join, .str _ => some (.ok (), S)
  | .split, .str _ => some (.ok (), S)
  | .strip, .str _ => some (.ok (), S)
  | .join, _ => none
  | .split, _ => none
  | .strip, _ => none
  | .items, _ => none
  | .index, _ => none
  | .clear, .obj i => match S[i]? with
    | some (.lst _ _) => some (.ok (), S)
    | some (.dct _ false) => some (.ok (), S)
    | _ => none
  | _, .obj i => match S[i]? with
    | some (.lst _ _) => some (.ok (), S)
    | _ => none
  | _, _ => none
def bmD (o : D) (m : BM) (as : List D) : M D := fun S => match m, as with
  | .append, [v] => match o with
    | .obj i => (match S[i]? with
      | some (.lst xs false) => if xs.length < sizeL then some (.ok .non, S.set i (.lst (xs ++ [v]) false)) else none
      | _ => none)
    | _ => none
  | .extend, [.obj j] => match o with
    | .obj i => (match S[i]?, S[j]? with
      | some (.lst xs false), some (.lst ys false) => if xs.length + ys.length ≤ sizeL then some (.ok .non, S.set i (.lst (xs ++ ys) false)) else none
      | _, _ => none)
    | _ => none
  | .pop, [] => match o with
    | .obj i => (match S[i]? with
      | some (.lst xs false) => (match xs[xs.length - 1]? with
        | some v => some (.ok v, S.set i (.lst xs.dropLast false))
        | none => none)
      | _ => none)
    | _ => none
  | .clear, [] => match o with
    | .obj i => (match S[i]? with
      | some (.lst _ false) => some (.ok .non, S.set i (.lst [] false))
      | some (.dct _ false) => some (.ok .non, S.set i (.dct [] false))
      | _ => none)
    | _ => none
  | .join, [l] => match o, seqOf S l with
    | .str sep, some xs => (match strsL xs with
      | some ws => if (ws.map (·.length)).sum + ws.length * sep.length ≤ sizeL then some (.ok (.str (joinL sep ws)), S) else none
      | none => none)
    | _, _ => none
  | .split, [.str [c]] => match o with
    | .str x => if x.length ≤ 1000000 ∧ c < 256 then new (.lst ((splitC c x).map D.str) false) S else none
    | _ => none
  | .strip, [.str [c]] => match o with
    | .str x => if x.length ≤ 1000000 then some (.ok (.str (stripC c x)), S) else none
    | _ => none
  | _, _ => none
def sortD (xs : List D) : Option (List D) := match strsL xs with
  | some ws => if ws.length < 64 then some ((isort (fun x y => !ltL y x) ws).map D.str) else none
  | none => none
def biD (b : BI) (as : List D) : M D := fun S => match b, as with
  | .len, [a] => match a with
    | .str x => if x.length ≤ sizeL then some (.ok (.int x.length), S) else none
    | .tup xs => some (.ok (.int xs.length), S)
    | .obj i => (match S[i]? with
      | some (.lst xs _) => some (.ok (.int xs.length), S)
      | some (.dct kvs false) => some (.ok (.int kvs.length), S)
      | some (.dct _ true) => none
      | some (.ins _ _) => none
      | none => none)
    | _ => none
  | .list, [a] => match seqOf S a with
    | some xs => new (.lst xs false) S
    | none => match a with
      | .obj i => (match S[i]? with
        | some (.dct kvs _) => new (.lst (kvs.map fun kv => ofKy kv.1) false) S
        | _ => none)
      | _ => none
  | .tuple, [a] => match seqOf S a with
    | some xs => some (.ok (.tup xs), S)
    | none => none
  | .dict, [.obj i] => match S[i]? with
    | some (.dct kvs _) => new (.dct kvs false) S
    | _ => none
  | .sorted, [.obj i] => match S[i]? with
    | some (.lst xs _) => (match sortD xs with
      | some ys => new (.lst ys false) S
      | none => none)
    | some (.dct kvs _) => (match sortD (kvs.map fun kv => ofKy kv.1) with
      | some ys => new (.lst ys false) S
      | none => none)
    | _ => none
  | .all, [.obj i] => match S[i]? with
    | some (.lst xs _) => allB xs S
    | _ => none
  | .max, [.int i, .int j] => some (.ok (.int (if j > i then j else i)), S)
  | .min, [.int i, .int j] => some (.ok (.int (if j < i then j else i)), S)
  | .int, [.int i] => some (.ok (.int i), S)
  | .int, [.bl b] => some (.ok (.int (b2i b)), S)
  | .int, [.str [c]] => if 48 ≤ c ∧ c ≤ 57 then some (.ok (.int (c - 48 : Nat)), S) else none
  | .str, [.int i] => if 0 ≤ i ∧ i < 1000000 then some (.ok (.str (strI i)), S) else none
  | .str, [.str x] => some (.ok (.str x), S)
  | _, _ => none
where allB : List D → M D
  | [], S => some (.ok (.bl true), S)
  | .bl b :: r, S => if b then allB r S else (match allB r S with | some _ => some (.ok (.bl false), S) | none => none)
  | _ :: _, _ => none
def isTy (S : Sto) (d : D) (t : Ty) : Option Bool := match d with
  | .non => some false
  | .int _ => some (decide (t = .int))
  | .bl _ => some (decide (t = .int ∨ t = .bool))
  | .str _ => some (decide (t = .str))
  | .tup _ => some (decide (t = .tuple))
  | .obj i => match S[i]? with
    | some (.lst _ false) => some (decide (t = .list))
    | some (.dct _ _) => some (decide (t = .dict))
    | some (.ins c _) => (match pg.cls[c]? with
      | some k => some (match t with | .own j => k.up.contains j | _ => false)
      | none => none)
    | _ => none
def dicD : List D → List (Ky × D) → Option (List (Ky × D))
  | [], acc => some acc
  | k :: v :: r, acc => match toKy k with
    | some k => dicD r (putK k v acc)
    | none => none
  | [_], _ => none
def allStr : List D → Option (List Nat)
  | [] => some []
  | .str x :: r => match allStr r with
    | some y => some (x ++ y)
    | none => none
  | .int i :: r => if 0 ≤ i ∧ i < 1000000 then (match allStr r with
    | some y => some (strI i ++ y)
    | none => none) else none
  | _ :: _ => none
/-! ### targets -/
def wipe (σ : En) : List Nat → En
  | [] => σ
  | i :: r => (wipe σ r).set i none
mutual
def setTg (S : Sto) : Tg → D → En → Option En
  | .name i, d, σ => if i < σ.length then some (σ.set i (some d)) else none
  | .nil, d, σ => match seqOf S d with
    | some [] => some σ
    | _ => none
  | .cons a b, d, σ => match seqOf S d with
    | some (x :: xs) => (match setTg S a x σ with
      | some σ' => setTg.setTgs S b xs σ'
      | none => none)
    | _ => none
def setTg.setTgs (S : Sto) : Tg → List D → En → Option En
  | .nil, [], σ => some σ
  | .cons a b, x :: xs, σ => match setTg S a x σ with
    | some σ' => setTg.setTgs S b xs σ'
    | none => none
  | _, _, _ => none
end
/-- what a loop walks: written items, or the list at i of n items as it is then -/
inductive Wk where
  | items (xs : List D) | lst (i n : Nat) | enumL (i n : Nat)
def Wk.len : Wk → Nat
  | .items xs => xs.length
  | .lst _ n => n
  | .enumL _ n => n
/-- the k-th item now; some none at the end; none: not served -/
def Wk.get (S : Sto) (k : Nat) : Wk → Option (Option D)
  | .items xs => some xs[k]?
  | .lst i n => match S[i]? with
    | some (.lst ys _) => if ys.length = n then some ys[k]? else none
    | _ => none
  | .enumL i n => match S[i]? with
    | some (.lst ys _) => if ys.length = n then some (match ys[k]? with | some y => some (.tup [.int k, y]) | none => none) else none
    | _ => none
/-- the walk of a sequence -/
def wkOf (S : Sto) : D → Option Wk
  | .tup xs => some (.items xs)
  | .str x => some (.items (x.map fun c => .str [c]))
  | .obj i => match S[i]? with
    | some (.lst xs _) => some (.lst i xs.length)
    | _ => none
  | _ => none
def numD (xs : List D) : List D := xs.zipIdx.map fun p => .tup [.int p.2, p.1]
def zipD (xs ys : List D) : List D := (xs.zip ys).map fun p => .tup [p.1, p.2]
def rangeD (a b : Int) : List D := (List.range (b - a).toNat).map fun (k : Nat) => D.int (a + (k : Int))
/-- a for loop: m turns to go, k done -/
def loopI (w : Wk) (step : D → En → SM) : Nat → Nat → En → SM
  | 0, k, σ, S => match w.get S k with
    | some none => some (.nx σ, S)
    | _ => none
  | m + 1, k, σ, S => match w.get S k with
    | some (some d) => SM.bind (step d σ) (fun σ' => loopI w step m (k + 1) σ') S
    | _ => none
/-- a comprehension's loop -/
def loopC (w : Wk) (step : D → M Unit) : Nat → Nat → M Unit
  | 0, k, S => match w.get S k with
    | some none => some (.ok (), S)
    | _ => none
  | m + 1, k, S => match w.get S k with
    | some (some d) => M.bind (step d) (fun _ => loopC w step m (k + 1)) S
    | _ => none
/-- the list that a comprehension makes, one more item -/
def appO (r y : D) : M Unit := fun S => match r with
  | .obj i => match S[i]? with
    | some (.lst xs false) => if xs.length < sizeL then some (.ok (), S.set i (.lst (xs ++ [y]) false)) else none
    | _ => none
  | _ => none
def putO (r k v : D) : M Unit := fun S => match r with
  | .obj i => match S[i]?, toKy k with
    | some (.dct kvs false), some k => if kvs.length < 1000 then some (.ok (), S.set i (.dct (putK k v kvs) false)) else none
    | _, _ => none
  | _ => none
/-- the dict of a display, filled -/
def fillD (r : D) (xs : List D) : M D := fun S => match r with
  | .obj i => match S[i]?, dicD xs [] with
    | some (.dct [] false), some kvs => if xs.length ≤ 30 then some (.ok r, S.set i (.dct kvs false)) else none
    | _, _ => none
  | _ => none
def whileI (test : En → M Bool) (body : En → SM) : Nat → En → SM
  | 0, _ => fun _ => none
  | n + 1, σ => M.inS σ (test σ) fun b => if b then SM.bind (body σ) (fun σ' => whileI test body n σ') else fun S => some (.nx σ, S)
def truthM (d : D) : M Bool := fun S => match truth S d with
  | some b => some (.ok b, S)
  | none => none
def lockD (i : Nat) (b : Bool) : M Unit := fun S => match S[i]? with
  | some (.dct kvs l) => if l = b then none else some (.ok (), S.set i (.dct kvs b))
  | _ => none
def unlk : Option Nat → M Unit
  | none => M.pure ()
  | some i => lockD i false
def seqM (d : D) : M (List D) := fun S => match seqOf S d with
  | some xs => some (.ok xs, S)
  | none => none
def tgM (t : Tg) (d : D) (σ : En) : M En := fun S => match setTg S t d σ with
  | some σ' => some (.ok σ', S)
  | none => none

mutual
def evE (σ : En) : E → M D
  | .loc i => match σ[i]? with
    | some (some d) => M.pure d
    | _ => M.stuck
  | .con d => M.pure d
  | .tup es => M.bind (evEs σ es) fun xs => if xs.length ≤ sizeL then M.pure (.tup xs) else M.stuck
  | .lst es => M.bind (evEs σ es) fun xs => if xs.length ≤ sizeL then new (.lst xs false) else M.stuck
  | .dic es => M.bind (new (.dct [] false)) fun r => M.bind (evEs σ es) fun xs => fillD r xs
  | .dicS d k v => M.bind (evE σ d) fun d => M.bind (evE σ k) fun k => M.bind (evE σ v) fun v => fun S => match d with
    | .obj i => (match S[i]?, toKy k with
      | some (.dct kvs _), some k => new (.dct (putK k v kvs) false) S
      | _, _ => none)
    | _ => none
  | .chk e => M.bind (evE σ e) fun d => match d with
    | .int i => M.pure (.int i)
    | _ => M.stuck
  | .fld e a => M.bind (evE σ e) fun d => fldD pg cl d a
  | .idx e i => M.bind (evE σ e) fun d => M.bind (evE σ i) fun i => idxD d i
  | .slc e lo hi => M.bind (evE σ e) fun d => M.bind (evE σ lo) fun lo => if okB lo then M.bind (evE σ hi) fun hi => if okB hi then slcD d lo hi else M.stuck else M.stuck
  | .rev e => M.bind (evE σ e) fun d => revD d
  | .bin o a b => M.bind (evE σ a) fun a => M.bind (evE σ b) fun b => binD o a b
  | .cmp o a b => M.bind (evE σ a) fun a => M.bind (evE σ b) fun b => cmpD pg cl o a b
  | .cmp2 o p a b c => M.bind (evE σ a) fun a => M.bind (evE σ b) fun b => M.bind (cmpD pg cl o a b) fun r => match r with
    | .bl true => M.bind (evE σ c) fun c => cmpD pg cl p b c
    | .bl false => M.pure (.bl false)
    | _ => M.stuck
  | .and a b => M.bind (evE σ a) fun a => match a with
    | .bl true => evE σ b
    | .bl false => M.pure (.bl false)
    | _ => M.stuck
  | .or a b => M.bind (evE σ a) fun a => match a with
    | .bl true => M.pure (.bl true)
    | .bl false => evE σ b
    | _ => M.stuck
  | .not a => M.bind (evE σ a) fun a => M.bind (truthM a) fun b => M.pure (.bl (!b))
  | .neg a => M.bind (evE σ a) fun a => match a with
    | .int i => M.pure (.int (-i))
    | _ => M.stuck
  | .ite c a b => M.bind (evE σ c) fun c => M.bind (truthM c) fun t => if t then evE σ a else evE σ b
  | .call f as => M.bind (evEs σ as) fun xs => cl f xs
  | .make c as => M.bind (evEs σ as) fun xs => makeD pg cl c xs
  | .meth o m as => M.bind (evE σ o) fun o => M.bind (methF pg o m) fun f => M.bind (evEs σ as) fun xs => cl f (o :: xs)
  | .bm o m as => M.bind (evE σ o) fun o => M.bind (recvD o m) fun _ => M.bind (evEs σ as) fun xs => bmD o m xs
  | .bi b as => M.bind (evEs σ as) fun xs => biD b xs
  | .isin e t => M.bind (evE σ e) fun d => fun S => match isTy pg S d t with
    | some b => some (.ok (.bl b), S)
    | none => none
  | .fstr es => noEx (M.bind (evEs σ es) fun xs => match allStr xs with
    | some z => if z.length ≤ sizeL then M.pure (.str z) else M.stuck
    | none => M.stuck)
  | .lc elt t it c vs => noEx (M.bind (evI σ it) fun w => M.bind (new (.lst [] false)) fun r => M.bind (loopC w.1 (fun d => M.bind (tgM t d (wipe σ vs)) fun σ' =>
      M.bind (evE σ' c) fun b => M.bind (truthM b) fun b => if b then M.bind (evE σ' elt) fun y => appO r y else M.pure ()) w.1.len 0) fun _ => M.bind (unlk w.2) fun _ => M.pure r)
  | .lc2 elt t it t2 it2 vs vs1 => noEx (M.bind (evI σ it) fun w => M.bind (new (.lst [] false)) fun r => M.bind (loopC w.1 (fun d => M.bind (tgM t d (wipe σ vs)) fun σ' =>
      M.bind (evI σ' it2) fun w2 => if w2.2.isNone then loopC w2.1 (fun d2 => M.bind (tgM t2 d2 (wipe σ' vs1)) fun σ2 => M.bind (evE σ2 elt) fun y => appO r y) w2.1.len 0 else M.stuck) w.1.len 0) fun _ => M.bind (unlk w.2) fun _ => M.pure r)
  | .dc k v t it vs => noEx (M.bind (evI σ it) fun w => M.bind (new (.dct [] false)) fun r => M.bind (loopC w.1 (fun d => M.bind (tgM t d (wipe σ vs)) fun σ' =>
      M.bind (evE σ' k) fun k => M.bind (evE σ' v) fun v => putO r k v) w.1.len 0) fun _ => M.bind (unlk w.2) fun _ => M.pure r)
def evEs (σ : En) : Es → M (List D)
  | .nil => M.pure []
  | .cons st e r => M.bind (evE σ e) fun d => if st then M.bind (seqM d) fun xs => M.bind (evEs σ r) fun ys => M.pure (xs ++ ys)
    else M.bind (evEs σ r) fun ys => M.pure (d :: ys)
/-- the walk, and the dict that is locked for it -/
def evI (σ : En) : I → M (Wk × Option Nat)
  | .ex e => M.bind (evE σ e) fun d => fun S => match wkOf S d with
    | some w => some (.ok (w, none), S)
    | none => match d with
      | .obj i => (match S[i]? with
        | some (.dct kvs _) => M.bind (lockD i true) (fun _ => M.pure (.items (kvs.map fun kv => ofKy kv.1), some i)) S
        | _ => none)
      | _ => none
  | .range n => M.bind (evE σ n) fun d => match d with
    | .int n => if -1000000 < n ∧ n < 1000000 then M.pure (.items (rangeD 0 n), none) else M.stuck
    | _ => M.stuck
  | .range2 a b => M.bind (evE σ a) fun a => M.bind (evE σ b) fun b => match a, b with
    | .int a, .int b => if (-1000000 < a ∧ a < 1000000) ∧ -1000000 < b ∧ b < 1000000 then M.pure (.items (rangeD a b), none) else M.stuck
    | _, _ => M.stuck
  | .items e => M.bind (evE σ e) fun d => fun S => match d with
    | .obj i => (match S[i]? with
      | some (.dct kvs _) => M.bind (lockD i true) (fun _ => M.pure (.items (kvs.map fun kv => .tup [ofKy kv.1, kv.2]), some i)) S
      | _ => none)
    | _ => none
  | .enum e => M.bind (evE σ e) fun d => fun S => match d with
    | .tup xs => some (.ok (.items (numD xs), none), S)
    | .obj i => (match S[i]? with
      | some (.lst xs _) => some (.ok (.enumL i xs.length, none), S)
      | _ => none)
    | _ => none
  | .zip a b => M.bind (evE σ a) fun a => M.bind (evE σ b) fun b => match a, b with
    | .tup xs, .tup ys => M.pure (.items (zipD xs ys), none)
    | _, _ => M.stuck
end
/-- what an exception's text may show -/
def fmtD : D → Bool
  | .int i => decide (-1000 < i ∧ i < 1000)
  | .str x => decide (x.length ≤ 1000) && x.all fun c => decide (c < 1114112)
  | _ => false
def exFs1 (as : List D) : List (Nat × Nat) → Option (List (Nat × D))
  | [] => some []
  | (f, i) :: r => match as[i]?, exFs1 as r with
    | some v, some fs => some ((f, v) :: fs)
    | _, _ => none
/-- the fields of an exception, by the arguments -/
def exFs (as : List D) (m : Nat × List (Nat × Nat)) : Option (List (Nat × D)) := if as.length = m.1 ∧ as.all fmtD = true then exFs1 as m.2 else none
/-- what an except suite reckons: c the exception's class, fs its fields -/
def evX (σ : En) (c : Nat) (fs : List (Nat × D)) : SX → M D
  | .loc i => match σ[i]? with
    | some (some d) => M.pure d
    | _ => M.stuck
  | .con d => M.pure d
  | .fld a => if pg.sx && fldOk pg c a then (match lookA a fs with
    | some d => M.pure d
    | none => M.stuck) else M.stuck
  | .isin k => if pg.sx then (match pg.exs[c]? with
    | some ci => M.pure (.bl (ci.up.contains k))
    | none => M.stuck) else M.stuck
  | .ite t a b => M.bind (evX σ c fs t) fun d => match d with
    | .bl true => evX σ c fs a
    | .bl false => evX σ c fs b
    | _ => M.stuck
  | .lst a => M.bind (evX σ c fs a) fun a => new (.lst [a] false)
  | .lst2 a b => M.bind (evX σ c fs a) fun a => M.bind (evX σ c fs b) fun b => new (.lst [a, b] false)
  | .lst3 a b d => M.bind (evX σ c fs a) fun a => M.bind (evX σ c fs b) fun b => M.bind (evX σ c fs d) fun d => new (.lst [a, b, d] false)
  | .int a => M.bind (evX σ c fs a) fun a => match a with
    | .bl b => M.pure (.int (b2i b))
    | _ => M.stuck
  | .add a b => M.bind (evX σ c fs a) fun a => M.bind (evX σ c fs b) fun b => match a, b with
    | .int i, .int j => M.pure (.int (i + j))
    | _, _ => M.stuck
  | .kin f => fun S => match lookA f pg.kin, pg.exs[c]? with
    | some ks, some ci => new (.lst (ks.map fun k => .bl (match k with | some j => ci.up.contains j | none => true)) false) S
    | _, _ => none
  | .bad => M.stuck
/-- the clauses of a try, one after another -/
def evH (σ : En) (c : Nat) (fs : List (Nat × D)) : List (Nat × Option Nat × Nat × SX) → SM
  | [] => fun S => some (.ex c fs σ, S)
  | (k, n, t, x) :: r => fun S => match pg.exs[c]? with
    | some ci => if ci.up.contains k then (match noEx (evX pg (match n with | some i => σ.set i none | none => σ) c fs x) S with
        | some (.ok d, S') => if t < σ.length then some (.nx (match n with | some i => (σ.set t (some d)).set i none | none => σ.set t (some d)), S') else none
        | _ => none)
      else evH σ c fs r S
    | none => none
variable (N : Nat)
mutual
def evC (σ : En) : C → SM
  | .asg t e => M.inS σ (evE pg cl σ e) fun d => M.inS σ (tgM t d σ) fun σ' => fun S => some (.nx σ', S)
  | .asgF o a e => M.inS σ (evE pg cl σ e) fun v => M.inS σ (evE pg cl σ o) fun o => M.inS σ (setF pg o a v) fun _ => fun S => some (.nx σ, S)
  | .asgI o i e => M.inS σ (evE pg cl σ e) fun v => M.inS σ (evE pg cl σ o) fun o => M.inS σ (evE pg cl σ i) fun i => M.inS σ (setI o i v) fun _ => fun S => some (.nx σ, S)
  | .augF o a e => M.inS σ (evE pg cl σ o) fun o => M.inS σ (clsM o) fun c0 => M.inS σ (getF pg o a) fun x => M.inS σ (evE pg cl σ e) fun y => M.inS σ (clsM o) fun c1 => M.inS σ (addI x y) fun z =>
      if c0 = c1 then M.inS σ (setF pg o a z) fun _ => fun S => some (.nx σ, S) else fun _ => none
  | .ex e => M.inS σ (evE pg cl σ e) fun _ => fun S => some (.nx σ, S)
  | .ret e => M.inS σ (evE pg cl σ e) fun d => fun S => some (.rt d, S)
  | .ite c a b => M.inS σ (evE pg cl σ c) fun d => M.inS σ (truthM d) fun t => if t then evCs σ a else evCs σ b
  | .for_ t it b => M.inS σ (evI pg cl σ it) fun w => match w.2 with
    | none => loopI w.1 (fun d σ => M.inS σ (tgM t d σ) fun σ' => evCs σ' b) w.1.len 0 σ
    | some i => fun S => match loopI w.1 (fun d σ => M.inS σ (tgM t d σ) fun σ' => evCs σ' b) w.1.len 0 σ S with
      | some (.nx σ', S') => (match lockD i false S' with
        | some (.ok _, S'') => some (.nx σ', S'')
        | _ => none)
      | some (.rt d, S') => (match lockD i false S' with
        | some (.ok _, S'') => some (.rt d, S'')
        | _ => none)
      | r => r
  | .whl c b => whileI (fun σ => M.bind (evE pg cl σ c) truthM) (fun σ => evCs σ b) N σ
  | .raise c as => M.inS σ (evEs pg cl σ as) fun xs => fun S => match pg.exs[c]? with
    | some ci => (match ci.exf with
      | some m => (match exFs xs m with
        | some fs => some (.ex c fs σ, S)
        | none => none)
      | none => none)
    | none => none
  | .try_ b hs => fun S => match evCs σ b S with
    | some (.ex c fs σ', S') => evH pg σ' c fs hs S'
    | r => r
  | .pass => fun S => some (.nx σ, S)
  | .super _ _ => fun _ => none
def evCs (σ : En) : Cs → SM
  | .nil => fun S => some (.nx σ, S)
  | .cons c r => SM.bind (evC σ c) fun σ' => evCs σ' r
end
end
/-- a def called, k calls deep -/
def call (pg : Pg) (N : Nat) : Nat → Nat → List D → M D
  | 0, _, _ => M.stuck
  | k + 1, f, as => fun S => match pg.fns[f]? with
    | some fi => if as.length = fi.np ∧ fi.np ≤ fi.nl then (match evCs pg (call pg N k) N (as.map some ++ List.replicate (fi.nl - fi.np) none) fi.body S with
      | some (.nx _, S') => some (.ok .non, S')
      | some (.rt d, S') => some (.ok d, S')
      | some (.ex c fs _, S') => some (.ex c fs, S')
      | none => none) else none
    | none => none
end LA

/-! The relation between the core language's data and the abstract heap. -/
namespace LA
open PySem PySem.Spec PyProof.Rows L2
def toStr (x : List Nat) : Str := ⟨x.toArray⟩
theorem toStr_inj {x y : List Nat} (h : toStr x = toStr y) : x = y := by
  have := congrArg (fun z : Str => z.cps.toList) h
  simpa [toStr] using this
def kyKey : Ky → Key
  | .n i => .inl i
  | .s x => .inr (toStr x)
theorem kyKey_inj : ∀ {a b : Ky}, kyKey a = kyKey b → a = b
  | .n i, .n j, h => by injection h with h; rw [h]
  | .s x, .s y, h => by injection h with h; rw [toStr_inj h]
  | .n _, .s _, h => by injection h
  | .s _, .n _, h => by injection h
/-- the program: where its classes, its attributes' names are -/
structure Gd where
  K : PySem.W.Frag
  clA : List Addr
  an : List Str
section
variable (G : Gd)
mutual
def DV (ρ : List Addr) (H : Hp) : D → V → Prop
  | .non, v => v = .non
  | .bl b, v => v = .bl b
  | .int i, v => v = .int i
  | .str x, v => v = .str (toStr x)
  | .tup xs, v => ∃ a vs, v = .ref a ∧ SqT G.K H a vs ∧ DVs ρ H xs vs
  | .obj i, v => ∃ a, v = .ref a ∧ ρ[i]? = some a
def DVs (ρ : List Addr) (H : Hp) : List D → List V → Prop
  | [], vs => vs = []
  | x :: xs, vs => ∃ v ws, vs = v :: ws ∧ DV ρ H x v ∧ DVs ρ H xs ws
end
def KVs (ρ : List Addr) (H : Hp) : List (Ky × D) → List (Key × V) → Prop
  | [], vs => vs = []
  | (k, x) :: xs, vs => ∃ v ws, vs = (kyKey k, v) :: ws ∧ DV G ρ H x v ∧ KVs ρ H xs ws
def FVs (ρ : List Addr) (H : Hp) : List (Nat × D) → List (Str × V) → Prop
  | [], vs => vs = []
  | (f, x) :: xs, vs => ∃ n v ws, G.an[f]? = some n ∧ vs = (n, v) :: ws ∧ DV G ρ H x v ∧ FVs ρ H xs ws
def OV (ρ : List Addr) (H : Hp) : Ob → Addr → Prop
  | .lst xs lk, a => ∃ vs, DVs G ρ H xs vs ∧ (match lk with | true => ∃ o, H a = some (.frz o (.lst vs)) | false => H a = some (.lst vs))
  | .dct kvs lk, a => ∃ vs, KVs G ρ H kvs vs ∧ (match lk with | true => ∃ o, H a = some (.frz o (.dK vs)) | false => H a = some (.dK vs))
  | .ins c fs, a => ∃ C dx vs, G.clA[c]? = some C ∧ FVs G ρ H fs vs ∧ H a = some (.ins C dx vs)
structure Rel (ρ : List Addr) (S : Sto) (H : Hp) : Prop where
  len : ρ.length = S.length
  nd : ρ.Nodup
  ob : ∀ (i : Nat) (o : Ob) (a : Addr), S[i]? = some o → ρ[i]? = some a → OV G ρ H o a
/-- the tuples stay -/
structure TupK (H H' : Hp) : Prop where
  tup : ∀ a xs, SqT G.K H a xs → SqT G.K H' a xs
  frz : ∀ a o u, H a = some (.frz o u) → H' a = some (.frz o u)
/-- is it locked? -/
def Ob.lk : Ob → Bool
  | .lst _ b => b
  | .dct _ b => b
  | .ins _ _ => false
structure SlR (ρ : List Addr) (H : Hp) (ds : En) (σ : L2.St) : Prop where
  len : ds.length = σ.length
  at_ : ∀ (i : Nat) (d : D), ds[i]? = some (some d) → ∃ v, σ[i]? = some (some v) ∧ DV G ρ H d v
end
section
variable {G : Gd} {ρ ρ' : List Addr} {H H' H1 H2 : Hp} {S : Sto}
theorem TupK.refl : TupK G H H := ⟨fun _ _ h => h, fun _ _ _ h => h⟩
theorem TupK.trans (a : TupK G H H1) (b : TupK G H1 H2) : TupK G H H2 := ⟨fun c xs h => b.tup c xs (a.tup c xs h), fun c o u h => b.frz c o u (a.frz c o u h)⟩
theorem TupK.of (h : ∀ a, (∃ xs, Rd H a (.tup xs)) → H' a = H a) (hf : ∀ a o u, H a = some (.frz o u) → H' a = H a) : TupK G H H' := ⟨fun a xs q => by
  rcases q with q | q
  · have e := h a ⟨xs, q⟩
    rcases q with q | ⟨o, q⟩
    · exact .inl (.inl (e.trans q))
    · exact .inl (.inr ⟨o, e.trans q⟩)
  · exact .inr q, fun a o u q => (hf a o u q).trans q⟩
/-- a new object -/
theorem TupK.new {p : Addr} {o : HO} (hp : H p = none) : TupK G H (upd H p o) := .of (fun a ⟨xs, q⟩ => upd_ne (by
  rintro rfl
  rcases q with q | ⟨_, q⟩ <;> rw [hp] at q <;> cases q)) fun a o u q => upd_ne (by rintro rfl; rw [hp] at q; cases q)
/-- a written one -/
theorem TupK.write {p : Addr} {o u : HO} (hp : H p = some u) (hu : ∀ xs, u ≠ .tup xs) (hf : ∀ ob x, u ≠ .frz ob x) : TupK G H (upd H p o) := .of (fun a ⟨xs, q⟩ => upd_ne (by
  rintro rfl
  rcases q with q | ⟨_, q⟩ <;> rw [hp] at q <;> injection q with q
  · exact hu _ q
  · exact hf _ _ q)) fun a o u q => upd_ne (by rintro rfl; rw [hp] at q; injection q with q; exact hf _ _ q)
/-- a lock taken off -/
theorem TupK.unlock {p : Addr} {o : Obj} {u u0 : HO} (t : TupK G H H') (h0 : H p = some u0) (hn : ∀ ob x, u0 ≠ .frz ob x) (h1 : H' p = some (.frz o u)) (hu : ∀ xs, u ≠ .tup xs) (hf : ∀ ob x, u ≠ .frz ob x) (ht : ∀ xs, u0 ≠ .tup xs) : TupK G H (upd H' p u) := by
  refine ⟨fun a xs q => ?_, fun a ob x q => ?_⟩
  · by_cases e : a = p
    · subst e
      rcases q with q | q
      · rcases q with q | ⟨_, q⟩ <;> rw [h0] at q <;> injection q with q
        · exact absurd q (ht _)
        · exact absurd q (hn _ _)
      · exact .inr q
    · rcases t.tup a xs q with q | q
      · exact .inl (by
          rcases q with q | ⟨ob, q⟩
          · exact .inl ((upd_ne e).trans q)
          · exact .inr ⟨ob, (upd_ne e).trans q⟩)
      · exact .inr q
  · by_cases e : a = p
    · subst e
      rw [h0] at q
      injection q with q
      exact absurd q (hn _ _)
    · exact (upd_ne e).trans (t.frz a ob x q)
theorem pre_get {i : Nat} {a : Addr} (h : ρ <+: ρ') (e : ρ[i]? = some a) : ρ'[i]? = some a := by
  obtain ⟨r, rfl⟩ := h
  have hi := (List.getElem?_eq_some_iff.mp e).1
  rw [List.getElem?_append_left hi, e]
mutual
theorem DV.monoT (hp : ρ <+: ρ') (ht : ∀ a xs, SqT G.K H a xs → SqT G.K H' a xs) : ∀ {d : D} {v : V}, DV G ρ H d v → DV G ρ' H' d v
  | .non, _, h => by unfold DV at h ⊢; exact h
  | .bl _, _, h => by unfold DV at h ⊢; exact h
  | .int _, _, h => by unfold DV at h ⊢; exact h
  | .str _, _, h => by unfold DV at h ⊢; exact h
  | .tup xs, v, h => by
    unfold DV at h ⊢
    obtain ⟨a, vs, e, s, q⟩ := h
    exact ⟨a, vs, e, ht _ _ s, DVs.monoT hp ht q⟩
  | .obj i, v, h => by
    unfold DV at h ⊢
    obtain ⟨a, e, q⟩ := h
    exact ⟨a, e, pre_get hp q⟩
theorem DVs.monoT (hp : ρ <+: ρ') (ht : ∀ a xs, SqT G.K H a xs → SqT G.K H' a xs) : ∀ {ds : List D} {vs : List V}, DVs G ρ H ds vs → DVs G ρ' H' ds vs
  | [], _, h => by unfold DVs at h ⊢; exact h
  | x :: xs, vs, h => by
    unfold DVs at h ⊢
    obtain ⟨v, ws, e, a, b⟩ := h
    exact ⟨v, ws, e, DV.monoT hp ht a, DVs.monoT hp ht b⟩
end
theorem DV.mono (hp : ρ <+: ρ') (ht : TupK G H H') {d : D} {v : V} (h : DV G ρ H d v) : DV G ρ' H' d v := h.monoT hp ht.tup
theorem DVs.mono (hp : ρ <+: ρ') (ht : TupK G H H') {d : List D} {v : List V} (h : DVs G ρ H d v) : DVs G ρ' H' d v := h.monoT hp ht.tup
theorem DVs.nil : DVs G ρ H [] [] := by unfold DVs; rfl
theorem DVs.cons {d : D} {v : V} {ds : List D} {vs : List V} (a : DV G ρ H d v) (b : DVs G ρ H ds vs) : DVs G ρ H (d :: ds) (v :: vs) := by
  unfold DVs; exact ⟨v, vs, rfl, a, b⟩
theorem DVs.nil_inv {vs : List V} (h : DVs G ρ H [] vs) : vs = [] := by unfold DVs at h; exact h
theorem DVs.cons_inv {d : D} {ds : List D} {vs : List V} (h : DVs G ρ H (d :: ds) vs) : ∃ v ws, vs = v :: ws ∧ DV G ρ H d v ∧ DVs G ρ H ds ws := by unfold DVs at h; exact h
theorem DVs.length : ∀ {ds : List D} {vs : List V}, DVs G ρ H ds vs → ds.length = vs.length
  | [], _, h => by rw [h.nil_inv]; rfl
  | x :: xs, vs, h => by
    obtain ⟨v, ws, e, _, b⟩ := h.cons_inv
    rw [e, List.length_cons, List.length_cons, DVs.length b]
theorem DVs.append : ∀ {ds es : List D} {vs ws : List V}, DVs G ρ H ds vs → DVs G ρ H es ws → DVs G ρ H (ds ++ es) (vs ++ ws)
  | [], _, _, _, h, q => by rw [h.nil_inv]; exact q
  | x :: xs, es, vs, ws, h, q => by
    obtain ⟨v, us, e, a, b⟩ := h.cons_inv
    rw [e]
    exact DVs.cons a (DVs.append b q)
theorem DVs.get : ∀ {ds : List D} {vs : List V} {i : Nat} {d : D}, DVs G ρ H ds vs → ds[i]? = some d → ∃ v, vs[i]? = some v ∧ DV G ρ H d v
  | [], _, _, _, _, e => by simp at e
  | x :: xs, vs, i, d, h, e => by
    obtain ⟨v, us, rfl, a, b⟩ := h.cons_inv
    cases i with
    | zero => simp at e; subst e; exact ⟨v, by simp, a⟩
    | succ i =>
      obtain ⟨u, e1, r⟩ := DVs.get (i := i) b (by simpa using e)
      exact ⟨u, by simpa using e1, r⟩
theorem DVs.set : ∀ {ds : List D} {vs : List V} {d : D} {v : V} (i : Nat), DVs G ρ H ds vs → DV G ρ H d v → DVs G ρ H (ds.set i d) (vs.set i v)
  | [], _, _, _, _, h, _ => by rw [h.nil_inv]; exact DVs.nil
  | x :: xs, vs, d, v, i, h, q => by
    obtain ⟨u, us, rfl, a, b⟩ := h.cons_inv
    cases i with
    | zero => exact DVs.cons q b
    | succ i => exact DVs.cons a (DVs.set i b q)
theorem DVs.take : ∀ {ds : List D} {vs : List V} (n : Nat), DVs G ρ H ds vs → DVs G ρ H (ds.take n) (vs.take n)
  | _, _, 0, _ => DVs.nil
  | [], _, n + 1, h => by rw [h.nil_inv]; exact DVs.nil
  | x :: xs, vs, n + 1, h => by
    obtain ⟨u, us, rfl, a, b⟩ := h.cons_inv
    exact DVs.cons a (DVs.take n b)
theorem DVs.drop : ∀ {ds : List D} {vs : List V} (n : Nat), DVs G ρ H ds vs → DVs G ρ H (ds.drop n) (vs.drop n)
  | _, _, 0, h => h
  | [], _, n + 1, h => by rw [h.nil_inv]; exact DVs.nil
  | x :: xs, vs, n + 1, h => by
    obtain ⟨u, us, rfl, a, b⟩ := h.cons_inv
    exact DVs.drop n b
theorem KVs.monoT (hp : ρ <+: ρ') (ht : ∀ a xs, SqT G.K H a xs → SqT G.K H' a xs) : ∀ {ds : List (Ky × D)} {vs : List (Key × V)}, KVs G ρ H ds vs → KVs G ρ' H' ds vs
  | [], _, h => h
  | (k, x) :: xs, vs, h => by
    obtain ⟨v, ws, e, a, b⟩ := h
    exact ⟨v, ws, e, a.monoT hp ht, KVs.monoT hp ht b⟩
theorem FVs.monoT (hp : ρ <+: ρ') (ht : ∀ a xs, SqT G.K H a xs → SqT G.K H' a xs) : ∀ {ds : List (Nat × D)} {vs : List (Str × V)}, FVs G ρ H ds vs → FVs G ρ' H' ds vs
  | [], _, h => h
  | (k, x) :: xs, vs, h => by
    obtain ⟨n, v, ws, en, e, a, b⟩ := h
    exact ⟨n, v, ws, en, e, a.monoT hp ht, FVs.monoT hp ht b⟩
/-- an object's relation where its own place is as it was -/
theorem OV.monoT {o : Ob} {a : Addr} (hp : ρ <+: ρ') (ht : ∀ a xs, SqT G.K H a xs → SqT G.K H' a xs) (e : H' a = H a) (h : OV G ρ H o a) : OV G ρ' H' o a := by
  cases o with
  | lst xs lk =>
    obtain ⟨vs, q, r⟩ := h
    exact ⟨vs, q.monoT hp ht, by cases lk <;> (simp only [e] at r ⊢; exact r)⟩
  | dct kvs lk =>
    obtain ⟨vs, q, r⟩ := h
    exact ⟨vs, q.monoT hp ht, by cases lk <;> (simp only [e] at r ⊢; exact r)⟩
  | ins c fs =>
    obtain ⟨C, dx, vs, c1, q, r⟩ := h
    exact ⟨C, dx, vs, c1, q.monoT hp ht, e.trans r⟩
theorem KVs.mono (hp : ρ <+: ρ') (ht : TupK G H H') {ds : List (Ky × D)} {vs : List (Key × V)} (h : KVs G ρ H ds vs) : KVs G ρ' H' ds vs := h.monoT hp ht.tup
theorem FVs.mono (hp : ρ <+: ρ') (ht : TupK G H H') {ds : List (Nat × D)} {vs : List (Str × V)} (h : FVs G ρ H ds vs) : FVs G ρ' H' ds vs := h.monoT hp ht.tup
theorem OV.mono {o : Ob} {a : Addr} (hp : ρ <+: ρ') (ht : TupK G H H') (e : H' a = H a) (h : OV G ρ H o a) : OV G ρ' H' o a := h.monoT hp ht.tup e
theorem OV.has {o : Ob} {a : Addr} (h : OV G ρ H o a) : ∃ u, H a = some u ∧ (∀ xs, u ≠ .tup xs) ∧ ∀ ob xs, u ≠ .frz ob (.tup xs) := by
  cases o with
  | lst xs lk =>
    obtain ⟨vs, q, r⟩ := h
    cases lk with
    | true => obtain ⟨o, r⟩ := r; exact ⟨_, r, (fun _ z => nomatch z), (fun _ _ z => nomatch z)⟩
    | false => exact ⟨_, r, (fun _ z => nomatch z), (fun _ _ z => nomatch z)⟩
  | dct kvs lk =>
    obtain ⟨vs, q, r⟩ := h
    cases lk with
    | true => obtain ⟨o, r⟩ := r; exact ⟨_, r, (fun _ z => nomatch z), (fun _ _ z => nomatch z)⟩
    | false => exact ⟨_, r, (fun _ z => nomatch z), (fun _ _ z => nomatch z)⟩
  | ins c fs =>
    obtain ⟨C, dx, vs, c1, q, r⟩ := h
    exact ⟨_, r, (fun _ z => nomatch z), (fun _ _ z => nomatch z)⟩
theorem Rel.at (r : Rel G ρ S H) {i : Nat} {o : Ob} (e : S[i]? = some o) : ∃ a, ρ[i]? = some a ∧ OV G ρ H o a := by
  have hi := (List.getElem?_eq_some_iff.mp e).1
  have hr : i < ρ.length := by rw [r.len]; exact hi
  exact ⟨ρ[i], List.getElem?_eq_getElem hr, r.ob i o _ e (List.getElem?_eq_getElem hr)⟩
theorem Rel.notin (r : Rel G ρ S H) {p : Addr} (hp : H p = none) : p ∉ ρ := fun hm => by
  obtain ⟨i, hi, e⟩ := List.mem_iff_getElem.mp hm
  have hs : i < S.length := by rw [← r.len]; exact hi
  have q := r.ob i S[i] p (List.getElem?_eq_getElem hs) (by rw [← e]; exact List.getElem?_eq_getElem hi)
  obtain ⟨u, z, _, _⟩ := q.has
  rw [hp] at z; cases z
/-- the heap changes away from the tracked objects -/
theorem Rel.mono (r : Rel G ρ S H) (ht : TupK G H H') (h : ∀ a ∈ ρ, H' a = H a) : Rel G ρ S H' :=
  ⟨r.len, r.nd, fun i o a e1 e2 => (r.ob i o a e1 e2).mono (List.prefix_refl _) ht (h a (List.mem_of_getElem? e2))⟩
/-- a new tuple -/
theorem Rel.tup (r : Rel G ρ S H) {p : Addr} {o : HO} (hp : H p = none) : Rel G ρ S (upd H p o) :=
  r.mono (.new hp) fun a ha => upd_ne fun z => r.notin hp (z ▸ ha)
/-- a new object -/
theorem Rel.new (r : Rel G ρ S H) {p : Addr} {o : Ob} {ho : HO} (hp : H p = none) (q : OV G (ρ ++ [p]) (upd H p ho) o p) : Rel G (ρ ++ [p]) (S ++ [o]) (upd H p ho) := by
  refine ⟨by simp [r.len], ?_, fun i u a e1 e2 => ?_⟩
  · rw [List.nodup_append]
    refine ⟨r.nd, by simp, ?_⟩
    intro x hx y hy z
    rw [List.mem_singleton] at hy
    subst hy
    subst z
    exact r.notin hp hx
  · by_cases hi : i < S.length
    · rw [List.getElem?_append_left hi] at e1
      rw [List.getElem?_append_left (by rw [r.len]; exact hi)] at e2
      exact (r.ob i u a e1 e2).mono (List.prefix_append _ _) (.new hp) (upd_ne fun z => r.notin hp (z ▸ List.mem_of_getElem? e2))
    · have hl : i = S.length := by
        have := (List.getElem?_eq_some_iff.mp e1).1
        simp at this
        omega
      subst hl
      simp at e1
      rw [← r.len] at e2
      simp at e2
      subst e1 e2
      exact q
/-- an object written -/
theorem OV.nofrz {o : Ob} {a : Addr} (h : OV G ρ H o a) (hl : o.lk = false) : ∃ u, H a = some u ∧ (∀ xs, u ≠ .tup xs) ∧ ∀ ob x, u ≠ .frz ob x := by
  cases o with
  | lst xs lk =>
    cases (show lk = false from hl)
    obtain ⟨vs, q, r⟩ := h
    exact ⟨_, r, (fun _ z => nomatch z), (fun _ _ z => nomatch z)⟩
  | dct kvs lk =>
    cases (show lk = false from hl)
    obtain ⟨vs, q, r⟩ := h
    exact ⟨_, r, (fun _ z => nomatch z), (fun _ _ z => nomatch z)⟩
  | ins c fs =>
    obtain ⟨C, dx, vs, c1, q, r⟩ := h
    exact ⟨_, r, (fun _ z => nomatch z), (fun _ _ z => nomatch z)⟩
theorem Rel.write (r : Rel G ρ S H) {i : Nat} {p : Addr} {o o0 : Ob} {ho : HO} (hi : ρ[i]? = some p) (q : OV G ρ (upd H p ho) o p) (h0 : S[i]? = some o0) (hl : o0.lk = false) : Rel G ρ (S.set i o) (upd H p ho) ∧ TupK G H (upd H p ho) := by
  have hs : i < S.length := (List.getElem?_eq_some_iff.mp h0).1
  obtain ⟨u, hu, n1, n2⟩ := (r.ob i _ p h0 hi).nofrz hl
  have tk : TupK G H (upd H p ho) := .write hu n1 n2
  refine ⟨⟨by simp [r.len], r.nd, fun j w a e1 e2 => ?_⟩, tk⟩
  by_cases hj : j = i
  · subst hj
    rw [List.getElem?_set_self hs] at e1
    rw [hi] at e2
    cases e1; cases e2
    exact q
  · rw [List.getElem?_set_ne (Ne.symm hj)] at e1
    have ne : a ≠ p := by
      rintro rfl
      have l1 := (List.getElem?_eq_some_iff.mp e2)
      have l2 := (List.getElem?_eq_some_iff.mp hi)
      obtain ⟨h1, g1⟩ := l1
      obtain ⟨h2, g2⟩ := l2
      exact hj ((List.getElem_inj r.nd).mp (g1.trans g2.symm))
    exact (r.ob j w a e1 e2).mono (List.prefix_refl _) tk (upd_ne ne)
/-- a dict's lock taken off -/
theorem Rel.unlock (r : Rel G ρ S H) {i : Nat} {p : Addr} {kvs : List (Ky × D)} {o : Obj} {vs : List (Key × V)} (hi : ρ[i]? = some p) (h0 : S[i]? = some (.dct kvs true)) (hp : H p = some (.frz o (.dK vs))) : Rel G ρ (S.set i (.dct kvs false)) (upd H p (.dK vs)) := by
  have hs : i < S.length := (List.getElem?_eq_some_iff.mp h0).1
  have tt : ∀ a xs, SqT G.K H a xs → SqT G.K (upd H p (.dK vs)) a xs := fun a xs q => by
    rcases q with q | q
    · have ne : a ≠ p := by
        rintro rfl
        rcases q with q | ⟨_, q⟩ <;> rw [hp] at q <;> injection q with q
        · cases q
        · injection q with _ q; cases q
      exact .inl (by
        rcases q with q | ⟨ob, q⟩
        · exact .inl ((upd_ne ne).trans q)
        · exact .inr ⟨ob, (upd_ne ne).trans q⟩)
    · exact .inr q
  obtain ⟨ws, kv, o', hw⟩ := r.ob i _ p h0 hi
  rw [hp] at hw
  cases hw
  refine ⟨by simp [r.len], r.nd, fun j w a e1 e2 => ?_⟩
  by_cases hj : j = i
  · subst hj
    rw [List.getElem?_set_self hs] at e1
    rw [hi] at e2
    cases e1; cases e2
    exact ⟨vs, kv.monoT (List.prefix_refl _) tt, upd_same⟩
  · rw [List.getElem?_set_ne (Ne.symm hj)] at e1
    have ne : a ≠ p := by
      rintro rfl
      obtain ⟨h1, g1⟩ := List.getElem?_eq_some_iff.mp e2
      obtain ⟨h2, g2⟩ := List.getElem?_eq_some_iff.mp hi
      exact hj ((List.getElem_inj r.nd).mp (g1.trans g2.symm))
    exact (r.ob j w a e1 e2).monoT (List.prefix_refl _) tt (upd_ne ne)
theorem SlR.mono {ds : En} {σ : L2.St} (h : SlR G ρ H ds σ) (hp : ρ <+: ρ') (ht : TupK G H H') : SlR G ρ' H' ds σ :=
  ⟨h.len, fun i d e => let ⟨v, a, b⟩ := h.at_ i d e; ⟨v, a, b.mono hp ht⟩⟩
theorem SlR.set {ds : En} {σ : L2.St} {d : D} {v : V} (h : SlR G ρ H ds σ) (i : Nat) (q : DV G ρ H d v) : SlR G ρ H (ds.set i (some d)) (σ.set i (some v)) := by
  refine ⟨by simp [h.len], fun j e he => ?_⟩
  by_cases hj : j = i
  · subst hj
    have hl : j < ds.length := by
      have := (List.getElem?_eq_some_iff.mp he).1
      simpa using this
    rw [List.getElem?_set_self hl] at he
    cases he
    exact ⟨v, List.getElem?_set_self (by rw [← h.len]; exact hl), q⟩
  · rw [List.getElem?_set_ne (Ne.symm hj)] at he ⊢
    exact h.at_ j e he
theorem SlR.unset {ds : En} {σ : L2.St} (h : SlR G ρ H ds σ) (i : Nat) : SlR G ρ H (ds.set i none) (σ.set i none) := by
  refine ⟨by simp [h.len], fun j e he => ?_⟩
  by_cases hj : j = i
  · subst hj
    by_cases hl : j < ds.length
    · rw [List.getElem?_set_self hl] at he; cases he
    · rw [List.getElem?_eq_none (by simpa using hl)] at he; cases he
  · rw [List.getElem?_set_ne (Ne.symm hj)] at he ⊢
    exact h.at_ j e he
theorem SlR.wipe {ds : En} {σ : L2.St} (h : SlR G ρ H ds σ) : ∀ vs : List Nat, SlR G ρ H (wipe ds vs) (L2.wipe σ vs)
  | [] => h
  | v :: vs => (SlR.wipe h vs).unset v
end
end LA

/-! From the model's syntax to the core language. -/
namespace LA
open PySem L2
inductive Gn where
  | fn (i : Nat) | cls (i : Nat) | exc (i : Nat) | con (d : D)
structure Cc where
  N : List Str
  sc : Scope
  gl : List (Str × Gn)
  an : List Str
def ixOf (x : Str) : List Str → Option Nat
  | [] => none
  | y :: r => if x = y then some 0 else (ixOf x r).map (· + 1)
def Cc.loc? (c : Cc) (x : Str) : Option Nat := match c.sc.names.lookup x with
  | some .local => ixOf x c.N
  | some .cell => ixOf x c.N
  | some .free => ixOf x c.N
  | _ => none
def Cc.glob? (c : Cc) (x : Str) : Option Gn := match c.sc.names.lookup x with
  | some .globalImplicit => c.gl.lookup x
  | _ => none
/-- a built-in name -/
def Cc.blt? (c : Cc) (x : Str) : Bool := match c.sc.names.lookup x with
  | some .globalImplicit => (c.gl.lookup x).isNone
  | _ => false
def dunders : List Str := ["__debug__", "__classdict__"]
def tyOf? (c : Cc) : Expr → Option Ty
  | .Name x _ => if x ∈ dunders then none else match c.glob? x with
    | some (.cls i) => some (.own i)
    | some _ => none
    | none => if c.blt? x then (
      if x = "int" then some .int else if x = "bool" then some .bool else if x = "str" then some .str else if x = "tuple" then some .tuple
      else if x = "list" then some .list else if x = "dict" then some .dict else none) else none
  | _ => none
def biOf? (x : Str) : Option BI :=
  if x = "len" then some .len else if x = "list" then some .list else if x = "tuple" then some .tuple else if x = "dict" then some .dict
  else if x = "sorted" then some .sorted else if x = "all" then some .all else if x = "max" then some .max else if x = "min" then some .min
  else if x = "int" then some .int else if x = "str" then some .str else none
def bmOf? (x : Str) : Option BM :=
  if x = "append" then some .append else if x = "extend" then some .extend else if x = "pop" then some .pop else if x = "clear" then some .clear
  else if x = "join" then some .join else if x = "split" then some .split else if x = "strip" then some .strip else if x = "index" then some .index else none
/-- how many arguments -/
def bmAr : BM → Option Nat
  | .append => some 1
  | .extend => some 1
  | .pop => some 0
  | .join => some 1
  | .split => some 1
  | .strip => some 1
  | _ => none
def boOf? : Operator → Option BO
  | .Add => some .add
  | .Sub => some .sub
  | .Mult => some .mul
  | .FloorDiv => some .fdiv
  | .Mod => some .mod
  | .Pow => some .pow
  | _ => none
def coOf : CmpOp → CO
  | .Eq => .eq
  | .NotEq => .ne
  | .Lt => .lt
  | .LtE => .le
  | .Gt => .gt
  | .GtE => .ge
  | .Is => .isN
  | .IsNot => .notN
  | .In => .in_
  | .NotIn => .nin
def isStar : Expr → Bool
  | .Starred _ _ => true
  | _ => false
def isSlice : Expr → Bool
  | .Slice _ _ _ _ => true
  | _ => false
def isSet : Expr → Bool
  | .Set _ _ _ => true
  | _ => false
def isComp : Expr → Bool
  | .ListComp _ _ _ _ => true
  | .SetComp _ _ _ _ => true
  | .DictComp _ _ _ _ _ => true
  | _ => false
/-- the names that a comprehension's block has of its own, with their places -/
def ownOf (N : List Str) : List (Str × NameKind) → List (Str × Nat)
  | [] => []
  | (x, k) :: r => match k with
    | .local => (match ixOf x N with | some i => (x, i) :: ownOf N r | none => ownOf N r)
    | .cell => (match ixOf x N with | some i => (x, i) :: ownOf N r | none => ownOf N r)
    | _ => ownOf N r
/-- the places that a target sets -/
def tgIx : Tg → List Nat
  | .name i => [i]
  | .nil => []
  | .cons a b => tgIx a ++ tgIx b
def Cc.blk (c : Cc) (scope : Scope) : Cc := { c with sc := relS scope c.sc }
/-- a name that a block may store to -/
def locOk (sc : Scope) (x : Str) : Bool := match sc.names.lookup x with
  | some .local => true
  | some .cell => true
  | _ => false
/-- the names that a target sets -/
def tgOk (ok : Str → Bool) : Nat → Expr → Bool
  | 0, _ => false
  | _ + 1, .Name x _ => ok x
  | n + 1, .Tuple es _ _ => tgsOk n es
  | _ + 1, _ => false
where tgsOk : Nat → List Expr → Bool
  | 0, _ => false
  | _ + 1, [] => true
  | n + 1, e :: r => tgOk ok n e && tgsOk n r
/-- an iterable of pairs goes into a row of names -/
def tgFit : Expr → I → Bool
  | .Tuple _ _ _, _ => true
  | _, .items _ => false
  | _, .enum _ => false
  | _, .zip _ _ => false
  | _, _ => true
def compTg (c : Cc) : Nat → Expr → Option Tg
  | 0, _ => none
  | n + 1, .Name x _ => match c.loc? x with
    | some i => some (.name i)
    | none => none
  | n + 1, .Tuple es _ _ => compTgs n es
  | _ + 1, _ => none
where compTgs : Nat → List Expr → Option Tg
  | 0, _ => none
  | n + 1, [] => some .nil
  | n + 1, e :: r => match compTg c n e, compTgs n r with
    | some a, some b => some (.cons a b)
    | _, _ => none
mutual
def compE (c : Cc) : Nat → Expr → Option E
  | 0, _ => none
  | n + 1, .Name x _ => if x ∈ dunders then none else match c.loc? x with
    | some i => some (.loc i)
    | none => match c.glob? x with
      | some (.con d) => some (.con d)
      | _ => none
  | n + 1, .Constant k _ _ => match k with
    | .none => some (.con .non)
    | .bool b => some (.con (.bl b))
    | .int i => some (.con (.int i))
    | .str x => some (.con (.str x.cps.toList))
    | _ => none
  | n + 1, .Tuple es _ _ => (compEs c n es).map .tup
  | n + 1, .List es _ => (compEs c n es).map .lst
  | n + 1, .Dict ks vs _ => if ks.length ≤ 15 then (compKs c n ks vs).map .dic else none
  | n + 1, .Attribute e a _ => if attrOk e then (match compE c n e, ixOf a c.an with
      | some e, some a => some (.fld e a)
      | _, _ => none) else none
  | n + 1, .Subscript e s _ => match s with
    | .Slice lo hi st _ => (match st with
      | none => (match compE c n e, compO c n lo, compO c n hi with
        | some e, some lo, some hi => some (.slc e lo hi)
        | _, _, _ => none)
      | some (.UnaryOp .USub (.Constant (.int 1) _ _) _) => (match lo, hi with
        | none, none => (compE c n e).map .rev
        | _, _ => none)
      | some _ => none)
    | s => match compE c n e, compE c n s with
      | some e, some s => some (.idx e s)
      | _, _ => none
  | n + 1, .BinOp a o b _ => match boOf? o, compE c n a, compE c n b with
    | some o, some a, some b => some (.bin o a b)
    | _, _, _ => none
  | n + 1, .UnaryOp o a _ => match o with
    | .Not => (compE c n a).map .not
    | .USub => (compE c n a).map .neg
    | _ => none
  | n + 1, .BoolOp o es pos => match es with
    | [] => none
    | [e] => compE c n e
    | a :: b :: r => match compE c n a, compE c n (.BoolOp o (b :: r) pos) with
      | some x, some y => some (match o with | .And => .and x y | .Or => .or x y)
      | _, _ => none
  | n + 1, .IfExp t a b _ => match compE c n t, compE c n a, compE c n b with
    | some t, some a, some b => some (.ite t a b)
    | _, _, _ => none
  | n + 1, .Compare a os bs _ => match os, bs with
    | [o], [b] => if isSet b then none else (match compE c n a, compE c n b with
      | some a, some b => some (.cmp (coOf o) a b)
      | _, _ => none)
    | [o, p], [b, d] => if isSet b || isSet d then none else (match compE c n a, compE c n b, compE c n d with
      | some a, some b, some d => some (.cmp2 (coOf o) (coOf p) a b d)
      | _, _, _ => none)
    | _, _ => none
  | n + 1, .JoinedStr vs _ => if 2 ≤ vs.length then (compFs c n vs).map .fstr else none
  | n + 1, .Call f as ks cpos => if ks.isEmpty = false then none else match f with
    | .Name x _ => if x ∈ dunders ∨ (c.loc? x).isSome then none else (match c.glob? x with
      | some (.fn i) => if as.any isStar then none else (compEs c n as).map (.call i)
      | some (.cls i) => if as.any isStar then none else (compEs c n as).map (.make i)
      | some _ => none
      | none => if c.blt? x then (if x = "isinstance" then (match as with
          | [a, t] => (match compE c n a, tyOf? c t with
            | some a, some t => some (.isin a t)
            | _, _ => none)
          | _ => none) else (match biOf? x with
          | some b => if as.any isStar || as.isEmpty then none else (compEs c n as).map (.bi b)
          | none => none)) else none)
    | .Attribute o m ap => if attrOk o && (ap.endLine == cpos.line) && decide (as.length < 29) && !as.any isStar then (match bmOf? m with
      | some b => if bmAr b = some as.length then (match compE c n o, compEs c n as with
        | some o, some as => some (.bm o b as)
        | _, _ => none) else none
      | none => (match compE c n o, ixOf m c.an, compEs c n as with
        | some o, some m, some as => some (.meth o m as)
        | _, _, _ => none)) else none
    | _ => none
  | n + 1, .ListComp elt gs scope _ => match gs with
    | [⟨t', it, ifs, 0⟩] => (match compI c n it, compTg (c.blk scope) n t', (match ifs with | [] => some (E.con (.bl true)) | [e] => compE (c.blk scope) n e | _ => none : Option E), compE (c.blk scope) n elt with
      | some i, some t, some f, some e => if blkC c.N c.sc scope (ownOf c.N scope.names) && (tgIx t).all (((ownOf c.N scope.names).map fun p => p.2).contains ·) && tgOk (locOk scope) n t' && tgFit t' i && !isSet it then some (.lc e t i f ((ownOf c.N scope.names).map fun p => p.2)) else none
      | _, _, _, _ => none)
    | [⟨t', it, [], 0⟩, ⟨t2', it2, [], 0⟩] => (match compI c n it, compTg (c.blk scope) n t', compI (c.blk scope) n it2, compTg (c.blk scope) n t2', compE (c.blk scope) n elt with
      | some i, some t, some i2, some t2, some e => if blkC c.N c.sc scope (ownOf c.N scope.names) && (tgIx t ++ tgIx t2).all (((ownOf c.N scope.names).map fun p => p.2).contains ·) && tgOk (locOk scope) n t' && tgOk (locOk scope) n t2' && tgFit t' i && tgFit t2' i2 && !isSet it && !isSet it2 then some (.lc2 e t i t2 i2 ((ownOf c.N scope.names).map fun p => p.2) (tgIx t2)) else none
      | _, _, _, _, _ => none)
    | _ => none
  | n + 1, .DictComp k v gs scope _ => match gs with
    | [⟨t', it, [], 0⟩] => (match compI c n it, compTg (c.blk scope) n t', compE (c.blk scope) n k, compE (c.blk scope) n v with
      | some i, some t, some k, some v => if blkC c.N c.sc scope (ownOf c.N scope.names) && (tgIx t).all (((ownOf c.N scope.names).map fun p => p.2).contains ·) && tgOk (locOk scope) n t' && tgFit t' i && !isSet it then some (.dc k v t i ((ownOf c.N scope.names).map fun p => p.2)) else none
      | _, _, _, _ => none)
    | _ => none
  | _ + 1, _ => none
def compEs (c : Cc) : Nat → List Expr → Option Es
  | 0, _ => none
  | n + 1, [] => some .nil
  | n + 1, e :: r => match e with
    | .Starred e _ => (match compE c n e, compEs c n r with
      | some e, some r => some (.cons true e r)
      | _, _ => none)
    | e => match compE c n e, compEs c n r with
      | some e, some r => some (.cons false e r)
      | _, _ => none
def compKs (c : Cc) : Nat → List (Option Expr) → List Expr → Option Es
  | 0, _, _ => none
  | n + 1, [], [] => some .nil
  | n + 1, some k :: ks, v :: vs => match compE c n k, compE c n v, compKs c n ks vs with
    | some k, some v, some r => some (.cons false k (.cons false v r))
    | _, _, _ => none
  | _ + 1, _, _ => none
def compO (c : Cc) : Nat → Option Expr → Option E
  | 0, _ => none
  | n + 1, none => some (.con .non)
  | n + 1, some e => (compE c n e).map .chk
def compFs (c : Cc) : Nat → List Expr → Option Es
  | 0, _ => none
  | n + 1, [] => some .nil
  | n + 1, e :: r => match e with
    | .Constant (.str x) _ _ => (match compFs c n r with
      | some r => some (.cons false (.con (.str x.cps.toList)) r)
      | none => none)
    | .FormattedValue v cv none _ => if cv = -1 then (match compE c n v, compFs c n r with
      | some v, some r => some (.cons false v r)
      | _, _ => none) else none
    | _ => none
def compI (c : Cc) : Nat → Expr → Option I
  | 0, _ => none
  | n + 1, e => match e with
    | .Call (.Name x _) [a] [] _ => if c.blt? x then (if x = "range" then (compE c n a).map .range else if x = "enumerate" then (compE c n a).map .enum else (compE c n e).map .ex) else (compE c n e).map .ex
    | .Call (.Name x _) [a, b] [] _ => if c.blt? x then (if x = "range" then (match compE c n a, compE c n b with
          | some a, some b => some (.range2 a b)
          | _, _ => none) else if x = "zip" then (match compE c n a, compE c n b with
          | some a, some b => some (.zip a b)
          | _, _ => none) else none) else (compE c n e).map .ex
    | .Call (.Attribute o m ap) [] [] cp => if m = "items" then (if attrOk o ∧ ap.endLine = cp.line then (compE c n o).map .items else none) else (compE c n e).map .ex
    | e => if isSet e then none else (compE c n e).map .ex
/-- no super() ahead of the dot -/
def attrOk : Expr → Bool
  | .Call (.Name _ _) [] [] _ => false
  | _ => true
end
end LA

/-! From the model's statements to the core language. -/
namespace LA
open PySem L2
/-- plain local names on one line -/
def parN (c : Cc) (line : Nat) : List Expr → List Str
  | [] => []
  | .Name x p :: r => if c.sc.names.lookup x == some .local && p.line == line then x :: parN c line r else parN c line r
  | _ :: r => parN c line r
/-- are the stores of a pair turned round? none: the model does not say -/
def parK (c : Cc) (ts vs : List Expr) : Option (Option (List Str)) :=
  if !(ts.length == 2 || ts.length == 3) || vs.length != ts.length then some none
  else if vs.any isStar then some none
  else if (parN c ((ts.head?.map (·.pos.line)).getD 0) ts).length != ts.length || (parN c ((ts.head?.map (·.pos.line)).getD 0) ts).eraseDups.length != (parN c ((ts.head?.map (·.pos.line)).getD 0) ts).length then some none
  else if vs.all (foldedForSure 8) then some none
  else if vs.all (constantsAlone 8) then none else some (some (parN c ((ts.head?.map (·.pos.line)).getD 0) ts))
def parOk (c : Cc) : Expr → Expr → Bool
  | .Tuple ts _ _, .Tuple vs _ _ => (parK c ts vs).isSome
  | .Name _ _, .DictComp _ _ _ _ _ => false
  | .Name _ _, .SetComp _ _ _ _ => false
  | _, _ => true
def excOf? (c : Cc) (x : Str) : Option Nat := match c.glob? x with
  | some (.exc i) => some i
  | _ => none
/-- a constant, or a field of the exception -/
def sx0 (c : Cc) (nm : Option Str) : Expr → SX
  | .Constant k _ _ => (match k with
    | .str x => .con (.str x.cps.toList)
    | .none => .con .non
    | _ => .bad)
  | .Attribute (.Name x _) a _ => if decide (nm = some x) && !(x == ("__debug__" : Str)) && !(x == ("__classdict__" : Str)) then (match ixOf a c.an with
    | some k => .fld k
    | none => .bad) else .bad
  | _ => .bad
def sx1 (c : Cc) (nm : Option Str) : Expr → SX
  | .List es _ => (match es with
    | [a] => .lst (sx0 c nm a)
    | [a, b] => .lst2 (sx0 c nm a) (sx0 c nm b)
    | [a, b, d] => .lst3 (sx0 c nm a) (sx0 c nm b) (sx0 c nm d)
    | _ => .bad)
  | e => sx0 c nm e
def sx2 (c : Cc) (nm : Option Str) : Expr → SX
  | .IfExp (.Call (.Name f _) [.Name x _, .Name k _] [] _) a b _ => if decide (f = "isinstance") && decide (nm = some x) && !(x == ("__debug__" : Str)) && !(x == ("__classdict__" : Str)) && decide (c.sc.names.lookup ("isinstance" : Str) = some .globalImplicit) && decide (c.sc.names.lookup k = some .globalImplicit) && !(k == ("__debug__" : Str)) then (match c.gl.lookup k with
    | some (.exc i) => .ite (.isin i) (sx1 c nm a) (sx1 c nm b)
    | _ => .bad) else .bad
  | e => sx1 c nm e
def sxOf (c : Cc) (nm : Option Str) : Expr → SX
  | .Call (.Name f _) [.Name e _] [] _ => if decide (nm = some e) && !(f == ("__debug__" : Str)) && !(e == ("__debug__" : Str)) && !(e == ("__classdict__" : Str)) then (match c.glob? f with
    | some (.fn i) => .kin i
    | _ => .bad) else .bad
  | e => sx2 c nm e
/-- a plain local's slot -/
def slotOf (c : Cc) (n : Str) : Option Nat := if c.sc.names.lookup n = some .local then c.loc? n else none
def nameOf (c : Cc) : Option Str → Option (Option Nat)
  | none => some none
  | some n => match slotOf c n with
    | some i => some (some i)
    | none => none
def compHs (c : Cc) : List ExceptHandler → Option (List (Nat × Option Nat × Nat × SX))
  | [] => some []
  | .ExceptHandler (some (.Name x _)) nm [.Assign [.Name y _] e _] _ :: r => if x ∈ dunders then none else (match excOf? c x, nameOf c nm, slotOf c y, compHs c r with
    | some k, some i, some t, some l => some ((k, i, t, sxOf c nm e) :: l)
    | _, _, _, _ => none)
  | _ => none
mutual
def compS (c : Cc) : Nat → Stmt → Option C
  | 0, _ => none
  | n + 1, s => match s with
    | .Pass _ => some .pass
    | .Expr e pos => (match e with
      | .Constant (.str _) _ _ => some .pass
      | e => if isComp e then none else (compE c n e).map .ex)
    | .Return v _ => (match v with
      | some e => (compE c n e).map .ret
      | none => some (.ret (.con .non)))
    | .If t a b _ => (match compE c n t, compSs c n a, compSs c n b with
      | some t, some a, some b => some (.ite t a b)
      | _, _, _ => none)
    | .Assign [tg] e pos => (match tg with
      | .Attribute o a _ => (match compE c n e, compE c n o, ixOf a c.an with
        | some e, some o, some a => some (.asgF o a e)
        | _, _, _ => none)
      | .Subscript o i _ => if isComp e || isSlice i then none else (match compE c n e, compE c n o, compE c n i with
        | some e, some o, some i => some (.asgI o i e)
        | _, _, _ => none)
      | tg => if parOk c tg e && tgOk (locOk c.sc) n tg then (match compTg c n tg, compE c n e with
        | some t, some e => some (.asg t e)
        | _, _ => none) else none)
    | .AugAssign (.Attribute o a _) .Add e _ => (match compE c n o, ixOf a c.an, compE c n e with
      | some o, some a, some e => some (.augF o a e)
      | _, _, _ => none)
    | .For tg it body [] _ => if tgOk (locOk c.sc) n tg && !isSet it then (match compTg c n tg, compI c n it, compSs c n body with
      | some t, some i, some b => if tgFit tg i then some (.for_ t i b) else none
      | _, _, _ => none) else none
    | .While t body [] _ => (match compE c n t, compSs c n body with
      | some t, some b => some (.whl t b)
      | _, _ => none)
    | .Raise (some (.Call (.Name x _) as [] _)) none _ => if x ∈ dunders ∨ as.any isStar then none else (match excOf? c x, compEs c n as with
      | some i, some as => some (.raise i as)
      | _, _ => none)
    | .Try body (h :: hs) [] [] _ => (match compSs c n body, compHs c (h :: hs) with
      | some b, some l => some (.try_ b l)
      | _, _ => none)
    | _ => none
def compSs (c : Cc) : Nat → List Stmt → Option Cs
  | 0, _ => none
  | _ + 1, [] => some .nil
  | n + 1, s :: r => match compS c n s, compSs c n r with
    | some a, some b => some (.cons a b)
    | none, some b => some (.cons (.super 0 .nil) b)
    | _, none => none
end
end LA

/-! Readings of the core language: what a piece of syntax does, by the interpreter. -/
namespace LA
open PySem PySem.Spec PyProof.Rows L2
structure GdX extends Gd where
  P : Program
  w : World
  mg : Str → Option Value
  base : Heap
  pg : Pg
  N : Nat
  gl : List (Str × Gn)
  fnA : List Addr
  exA : List Addr
  fnSt : List Stmt
def MPost {α : Type} (r : Option (R α × Sto)) (k : α → Sto → Prop) (x : Nat → List (Nat × D) → Sto → Prop) : Prop := match r with
  | some (.ok a, S) => k a S
  | some (.ex c fs, S) => x c fs S
  | none => False
theorem MPost.bind {α β : Type} {m : M α} {f : α → M β} {S : Sto} {k : β → Sto → Prop} {x : Nat → List (Nat × D) → Sto → Prop}
    (h : MPost (M.bind m f S) k x) : MPost (m S) (fun a S1 => MPost (f a S1) k x) x := by
  unfold M.bind at h
  cases e : m S with
  | none => rw [e] at h; exact h
  | some r =>
    obtain ⟨r, S1⟩ := r
    rw [e] at h
    cases r with
    | ok a => exact h
    | ex c fs => exact h
theorem MPost.imp {α : Type} {r : Option (R α × Sto)} {k k' : α → Sto → Prop} {x x' : Nat → List (Nat × D) → Sto → Prop}
    (h : MPost r k x) (hk : ∀ a S, k a S → k' a S) (hx : ∀ c fs S, x c fs S → x' c fs S) : MPost r k' x' := by
  cases r with
  | none => exact h
  | some r =>
    obtain ⟨r, S1⟩ := r
    cases r with
    | ok a => exact hk _ _ h
    | ex c fs => exact hx _ _ _ h
section
variable (g : GdX)
/-- an exception of the class c with the fields fs -/
def XV (ρ : List Addr) (H : Hp) (c : Nat) (fs : List (Nat × D)) (cls : Value) (dd : Option Addr) : Prop :=
  ∃ C, g.exA[c]? = some C ∧ cls = .ref C ∧ ((fs = [] ∧ dd = none) ∨ ∃ d vs, dd = some d ∧ FVs g.toGd ρ H fs vs ∧ H d = some (.xd vs))
def PostV (ρ : List Addr) (H : Hp) (d : D) (S : Sto) (Q : VK) : Prop :=
  ∀ ρ' H' v, ρ <+: ρ' → TupK g.toGd H H' → Rel g.toGd ρ' S H' → DV g.toGd ρ' H' d v → Q v H'
def PostVs (ρ : List Addr) (H : Hp) (ds : List D) (S : Sto) (Q : List V → Hp → Prop) : Prop :=
  ∀ ρ' H' vs, ρ <+: ρ' → TupK g.toGd H H' → Rel g.toGd ρ' S H' → DVs g.toGd ρ' H' ds vs → Q vs H'
def PostX (ρ : List Addr) (H : Hp) (c : Nat) (fs : List (Nat × D)) (S : Sto) (W : XK) : Prop :=
  ∀ ρ' H' cls dd, ρ <+: ρ' → TupK g.toGd H H' → Rel g.toGd ρ' S H' → XV g ρ' H' c fs cls dd → W cls dd H'
variable (cl : Nat → List D → M D) (W : WX)
def rdE (e : LA.E) : TE := fun σ H Q => ∃ ρ ds S, Rel g.toGd ρ S H ∧ SlR g.toGd ρ H ds σ ∧
  MPost (evE g.pg cl ds e S) (fun d S' => PostV g ρ H d S' Q) (fun c fs S' => PostX g ρ H c fs S' fun cls dd H' => W cls dd σ H')
def rdEs (es : Es) : TA := fun σ H Q => ∃ ρ ds S, Rel g.toGd ρ S H ∧ SlR g.toGd ρ H ds σ ∧
  MPost (evEs g.pg cl ds es S) (fun d S' => PostVs g ρ H d S' Q) (fun c fs S' => PostX g ρ H c fs S' fun cls dd H' => W cls dd σ H')
/-- as a test -/
def rdT (e : LA.E) : TT := fun σ H Q => ∃ ρ ds S, Rel g.toGd ρ S H ∧ SlR g.toGd ρ H ds σ ∧
  MPost (M.bind (evE g.pg cl ds e) truthM S) (fun b S' => ∀ ρ' H', ρ <+: ρ' → TupK g.toGd H H' → Rel g.toGd ρ' S' H' → Q b H') (fun c fs S' => PostX g ρ H c fs S' fun cls dd H' => W cls dd σ H')
end
section
variable {g : GdX} {cl : Nat → List D → M D} {W : WX} {ρ ρ1 : List Addr} {H H1 : Hp} {S : Sto} {ds : En} {σ : L2.St}
theorem PostX.mono {c : Nat} {fs : List (Nat × D)} {V : XK} (h : PostX g ρ H c fs S V) (hp : ρ <+: ρ1) (ht : TupK g.toGd H H1) : PostX g ρ1 H1 c fs S V :=
  fun ρ' H' cls dd a b => h ρ' H' cls dd (hp.trans a) (ht.trans b)
theorem PostV.mono {d : D} {Q : VK} (h : PostV g ρ H d S Q) (hp : ρ <+: ρ1) (ht : TupK g.toGd H H1) : PostV g ρ1 H1 d S Q :=
  fun ρ' H' v a b => h ρ' H' v (hp.trans a) (ht.trans b)
/-- an expression, then what follows -/
theorem rdE.bind {α : Type} {e : LA.E} {f : D → M α} {k : α → Sto → Prop} {Q : VK} (r : Rel g.toGd ρ S H) (sl : SlR g.toGd ρ H ds σ)
    (h : MPost (M.bind (evE g.pg cl ds e) f S) k (fun c fs S' => PostX g ρ H c fs S' fun cls dd H' => W cls dd σ H'))
    (hq : ∀ ρ1 H1 S1 d v, ρ <+: ρ1 → TupK g.toGd H H1 → Rel g.toGd ρ1 S1 H1 → DV g.toGd ρ1 H1 d v → SlR g.toGd ρ1 H1 ds σ →
      MPost (f d S1) k (fun c fs S' => PostX g ρ1 H1 c fs S' fun cls dd H' => W cls dd σ H') → Q v H1) : rdE g cl W e σ H Q :=
  ⟨ρ, ds, S, r, sl, h.bind.imp (fun d S1 q ρ1 H1 v a b c dv => hq ρ1 H1 S1 d v a b c dv (sl.mono a b) (q.imp (fun _ _ z => z) fun _ _ _ z => z.mono a b)) fun _ _ _ z => z⟩
theorem rdEs.bind {α : Type} {es : Es} {f : List D → M α} {k : α → Sto → Prop} {Q : List V → Hp → Prop} (r : Rel g.toGd ρ S H) (sl : SlR g.toGd ρ H ds σ)
    (h : MPost (M.bind (evEs g.pg cl ds es) f S) k (fun c fs S' => PostX g ρ H c fs S' fun cls dd H' => W cls dd σ H'))
    (hq : ∀ ρ1 H1 S1 d v, ρ <+: ρ1 → TupK g.toGd H H1 → Rel g.toGd ρ1 S1 H1 → DVs g.toGd ρ1 H1 d v → SlR g.toGd ρ1 H1 ds σ →
      MPost (f d S1) k (fun c fs S' => PostX g ρ1 H1 c fs S' fun cls dd H' => W cls dd σ H') → Q v H1) : rdEs g cl W es σ H Q :=
  ⟨ρ, ds, S, r, sl, h.bind.imp (fun d S1 q ρ1 H1 v a b c dv => hq ρ1 H1 S1 d v a b c dv (sl.mono a b) (q.imp (fun _ _ z => z) fun _ _ _ z => z.mono a b)) fun _ _ _ z => z⟩
theorem rdT.bind {α : Type} {e : LA.E} {f : Bool → M α} {k : α → Sto → Prop} {Q : Bool → Hp → Prop} (r : Rel g.toGd ρ S H) (sl : SlR g.toGd ρ H ds σ)
    (h : MPost (M.bind (evE g.pg cl ds e) (fun d => M.bind (truthM d) f) S) k (fun c fs S' => PostX g ρ H c fs S' fun cls dd H' => W cls dd σ H'))
    (hq : ∀ ρ1 H1 S1 b, ρ <+: ρ1 → TupK g.toGd H H1 → Rel g.toGd ρ1 S1 H1 → SlR g.toGd ρ1 H1 ds σ →
      MPost (f b S1) k (fun c fs S' => PostX g ρ1 H1 c fs S' fun cls dd H' => W cls dd σ H') → Q b H1) : rdT g cl W e σ H Q := by
  refine ⟨ρ, ds, S, r, sl, ?_⟩
  have h' : MPost (M.bind (M.bind (evE g.pg cl ds e) truthM) f S) k (fun c fs S' => PostX g ρ H c fs S' fun cls dd H' => W cls dd σ H') := by
    have e1 : M.bind (M.bind (evE g.pg cl ds e) truthM) f S = M.bind (evE g.pg cl ds e) (fun d => M.bind (truthM d) f) S := by
      unfold M.bind
      cases evE g.pg cl ds e S with
      | none => rfl
      | some r => obtain ⟨r, S1⟩ := r; cases r <;> rfl
    rw [e1]; exact h
  exact h'.bind.imp (fun d S1 q ρ1 H1 a b c => hq ρ1 H1 S1 d a b c (sl.mono a b) (q.imp (fun _ _ z => z) fun _ _ _ z => z.mono a b)) fun _ _ _ z => z
theorem MPost.bindE {α β : Type} {m : M α} {f : α → M β} {S : Sto} {k : β → Sto → Prop} {x : Nat → List (Nat × D) → Sto → Prop}
    (h : MPost (M.bind m f S) k x) : MPost (m S) (fun a S1 => m S = some (.ok a, S1) ∧ MPost (f a S1) k x) x := by
  have h' := h.bind
  cases e : m S with
  | none => rw [e] at h'; exact h'
  | some r =>
    obtain ⟨r, S1⟩ := r
    rw [e] at h'
    cases r with
    | ok a => exact ⟨rfl, h'⟩
    | ex c fs => exact h'
/-- .. knowing what came -/
theorem rdE.bindE {α : Type} {e : LA.E} {f : D → M α} {k : α → Sto → Prop} {Q : VK} (r : Rel g.toGd ρ S H) (sl : SlR g.toGd ρ H ds σ)
    (h : MPost (M.bind (evE g.pg cl ds e) f S) k (fun c fs S' => PostX g ρ H c fs S' fun cls dd H' => W cls dd σ H'))
    (hq : ∀ ρ1 H1 S1 d v, ρ <+: ρ1 → TupK g.toGd H H1 → Rel g.toGd ρ1 S1 H1 → DV g.toGd ρ1 H1 d v → SlR g.toGd ρ1 H1 ds σ → evE g.pg cl ds e S = some (.ok d, S1) →
      MPost (f d S1) k (fun c fs S' => PostX g ρ1 H1 c fs S' fun cls dd H' => W cls dd σ H') → Q v H1) : rdE g cl W e σ H Q :=
  ⟨ρ, ds, S, r, sl, h.bindE.imp (fun d S1 q ρ1 H1 v a b c dv => hq ρ1 H1 S1 d v a b c dv (sl.mono a b) q.1 (q.2.imp (fun _ _ z => z) fun _ _ _ z => z.mono a b)) fun _ _ _ z => z⟩
theorem rdEs.bindE {α : Type} {es : Es} {f : List D → M α} {k : α → Sto → Prop} {Q : List V → Hp → Prop} (r : Rel g.toGd ρ S H) (sl : SlR g.toGd ρ H ds σ)
    (h : MPost (M.bind (evEs g.pg cl ds es) f S) k (fun c fs S' => PostX g ρ H c fs S' fun cls dd H' => W cls dd σ H'))
    (hq : ∀ ρ1 H1 S1 d v, ρ <+: ρ1 → TupK g.toGd H H1 → Rel g.toGd ρ1 S1 H1 → DVs g.toGd ρ1 H1 d v → SlR g.toGd ρ1 H1 ds σ → evEs g.pg cl ds es S = some (.ok d, S1) →
      MPost (f d S1) k (fun c fs S' => PostX g ρ1 H1 c fs S' fun cls dd H' => W cls dd σ H') → Q v H1) : rdEs g cl W es σ H Q :=
  ⟨ρ, ds, S, r, sl, h.bindE.imp (fun d S1 q ρ1 H1 v a b c dv => hq ρ1 H1 S1 d v a b c dv (sl.mono a b) q.1 (q.2.imp (fun _ _ z => z) fun _ _ _ z => z.mono a b)) fun _ _ _ z => z⟩
end

/-! ### weakening a reading -/
section
variable {X : Cx}
theorem PEto {e : Expr} {t t' : TE} (h : PE X e t) (i : ∀ σ H Q, t' σ H Q → t σ H Q) : PE X e t' := ⟨fun pins s σ H Q I q => h.run pins s σ H Q I (i _ _ _ q)⟩
theorem PAto {e : List Expr} {t t' : TA} (h : PA X e t) (i : ∀ σ H Q, t' σ H Q → t σ H Q) : PA X e t' := ⟨fun pos pins s σ H Q I q => h.run pos pins s σ H Q I (i _ _ _ q)⟩
theorem PTto {e : Expr} {t t' : TT} (h : PT X e t) (i : ∀ σ H Q, t' σ H Q → t σ H Q) : PT X e t' := ⟨fun pins s σ H Q I q => h.run pins s σ H Q I (i _ _ _ q)⟩
theorem PSto {e : Stmt} {t t' : TS} (h : PS X e t) (i : ∀ D σ H, t' D σ H → t D σ H) : PS X e t' := ⟨fun pins s σ H D I q => h.run pins s σ H D I (i _ _ _ q)⟩
theorem PSsto {e : List Stmt} {t t' : TS} (h : PSs X e t) (i : ∀ D σ H, t' D σ H → t D σ H) : PSs X e t' := ⟨fun pins s σ H D I q => h.run pins s σ H D I (i _ _ _ q)⟩
theorem PEor2 {e : Expr} {t u : TE} (h : PE X e t) (h' : PE X e u) : PE X e (fun σ H Q => t σ H Q ∨ u σ H Q) := ⟨fun pins s σ H Q I q => q.elim (h.run pins s σ H Q I) (h'.run pins s σ H Q I)⟩
theorem PEor {e : Expr} {ι : Type} {t : ι → TE} (h : ∀ i, PE X e (t i)) : PE X e (fun σ H Q => ∃ i, t i σ H Q) := ⟨fun pins s σ H Q I ⟨i, q⟩ => (h i).run pins s σ H Q I q⟩
end

/-! ### the context -/
structure Gk (g : GdX) (k : Nat) (c : Cc) (X : Cx) : Prop where
  prog : X.prog = g.P
  w : X.w = g.w
  K : X.K = g.K
  mg : X.mg = g.mg
  base : X.base = g.base
  N : X.N = c.N
  nd : c.N.Nodup
  sc : X.env.scope = c.sc
  gl : c.gl = g.gl
  an : c.an = g.an
  room : Room k X.A
  calm : X.calm = true
theorem Gk.hu {g : GdX} {k : Nat} {c : Cc} {X : Cx} (k : Gk g k c X) : X.A.units + 1 < cLine := hu_of k.room
theorem ixOf_get {x : Str} : ∀ {l : List Str} {i : Nat}, ixOf x l = some i → l[i]? = some x
  | [], _, h => by cases h
  | y :: r, i, h => by
    unfold ixOf at h
    by_cases e : x = y
    · rw [if_pos e] at h; cases h; simp [e]
    · rw [if_neg e] at h
      obtain ⟨j, hj, rfl⟩ := Option.map_eq_some_iff.mp h
      simpa using ixOf_get hj
section
variable {g : GdX} {k : Nat} {c : Cc} {X : Cx}
theorem Cc.loc_ok {x : Str} {i : Nat} (h : c.loc? x = some i) : c.N[i]? = some x ∧ Vis c.sc x := by
  unfold Cc.loc? at h
  cases e : c.sc.names.lookup x with
  | none => rw [e] at h; cases h
  | some q =>
    rw [e] at h
    cases q with
    | «local» => exact ⟨ixOf_get h, .inl e⟩
    | cell => exact ⟨ixOf_get h, .inr (.inl e)⟩
    | free => exact ⟨ixOf_get h, .inr (.inr e)⟩
    | globalExplicit => cases h
    | globalImplicit => cases h
theorem Cc.glob_ok {x : Str} {q : Gn} (h : c.glob? x = some q) : c.sc.names.lookup x = some .globalImplicit ∧ c.gl.lookup x = some q := by
  unfold Cc.glob? at h
  cases e : c.sc.names.lookup x with
  | none => rw [e] at h; cases h
  | some q =>
    rw [e] at h
    cases q with
    | globalImplicit => exact ⟨rfl, h⟩
    | _ => cases h
theorem Cc.blt_ok {x : Str} (h : c.blt? x = true) : c.sc.names.lookup x = some .globalImplicit ∧ c.gl.lookup x = none := by
  unfold Cc.blt? at h
  cases e : c.sc.names.lookup x with
  | none => rw [e] at h; cases h
  | some q =>
    rw [e] at h
    cases q with
    | globalImplicit => exact ⟨rfl, by simpa using h⟩
    | _ => cases h
theorem Gk.gl_ (G : Gk g k c X) {x : Str} (h : c.sc.names.lookup x = some .globalImplicit) : Gl X x := by
  show X.env.scope.names.lookup x = _
  rw [G.sc]; exact h
end
/-- what the constants of the module are -/
structure Cons (g : GdX) : Prop where
  con : ∀ x d, g.gl.lookup x = some (.con d) → ∃ v u, g.mg x = some u ∧ RelV v u ∧ ∀ ρ H, DV g.toGd ρ H d v

/-! ### names, constants -/
section
variable {g : GdX} {cl : Nat → List D → M D} {W : WX} {k : Nat} {c : Cc} {X : Cx}
theorem snd_loc (G : Gk g k c X) {x : Str} {i : Nat} {pos : Pos} (h : c.loc? x = some i) (hd : x ∉ dunders) : PE X (.Name x pos) (rdE g cl W (.loc i)) := by
  obtain ⟨h1, h2⟩ := Cc.loc_ok h
  refine PEto (pe_var (i := i) (by rw [G.N]; exact h1) (by rw [G.sc]; exact h2) (by simp [dunders] at hd; simpa using hd.1) (by simp [dunders] at hd; simpa using hd.2)) ?_
  rintro σ H Q ⟨ρ, ds, S, r, sl, q⟩
  unfold evE at q
  cases e : ds[i]? with
  | none => rw [e] at q; exact q.elim
  | some o =>
    cases o with
    | none => rw [e] at q; exact q.elim
    | some d =>
      rw [e] at q
      obtain ⟨v, e1, dv⟩ := sl.at_ i d e
      exact ⟨v, e1, q ρ H v (List.prefix_refl _) .refl r dv⟩
theorem snd_con (G : Gk g k c X) {e : Expr} {d : D} {v : V} (h : PE X e (tC v)) (hv : ∀ ρ H, DV g.toGd ρ H d v) : PE X e (rdE g cl W (.con d)) :=
  PEto h fun σ H Q ⟨ρ, ds, S, r, sl, q⟩ => q ρ H v (List.prefix_refl _) .refl r (hv ρ H)
end
end LA

/-! Soundness: displays, arguments, operators. -/
namespace LA
open PySem PySem.Spec PyProof.Rows L2
section
variable {G : Gd} {ρ : List Addr} {H : Hp} {S : Sto}
theorem DV.ref_seq {x : D} {v : V} {xs : List D} (r : Rel G ρ S H) (h : DV G ρ H x v) (e : seqOf S x = some xs) : ∃ a vs, v = .ref a ∧ (SqT G.K H a vs ∨ SqL G.K H a vs) ∧ DVs G ρ H xs vs := by
  cases x with
  | tup ys =>
    unfold DV at h
    obtain ⟨a, vs, e1, s, q⟩ := h
    simp only [seqOf, Option.some.injEq] at e
    subst e
    exact ⟨a, vs, e1, .inl s, q⟩
  | obj i =>
    unfold DV at h
    obtain ⟨a, e1, q⟩ := h
    simp only [seqOf] at e
    cases hs : S[i]? with
    | none => rw [hs] at e; cases e
    | some o =>
      rw [hs] at e
      cases o with
      | lst ys lk =>
        cases e
        obtain ⟨vs, dv, hh⟩ := r.ob i _ a hs q
        refine ⟨a, vs, e1, .inr (.inl ?_), dv⟩
        cases lk with
        | true => obtain ⟨o, hh⟩ := hh; exact .inr ⟨o, hh⟩
        | false => exact .inl hh
      | dct _ _ => cases e
      | ins _ _ => cases e
  | non => cases e
  | bl _ => cases e
  | int _ => cases e
  | str _ => cases e
end
theorem toStr_app (x y : List Nat) : toStr (x ++ y) = toStr x ++ toStr y := by
  show (⟨(x ++ y).toArray⟩ : Str) = ⟨x.toArray ++ y.toArray⟩
  simp
theorem toStr_len (x : List Nat) : (toStr x).length = x.length := by
  show x.toArray.size = _
  simp
theorem sizeL_eq : sizeL = sizeLine := by rw [sizeLine_eq]; rfl
theorem starEach_no {e : Expr} {r : List Expr} {env : Env} (h : isStar e = false) : starEach (e :: r) env = (false, eval e env) :: starEach r env := by
  cases e <;> first | rfl | (exact absurd h (by simp [isStar]))
theorem upd_new {g : Gd} {ρ : List Addr} {H : Hp} {S : Sto} (r : Rel g ρ S H) {p : Addr} (hp : H p = none) : p ∉ ρ := r.notin hp
section
variable {g : GdX} {cl : Nat → List D → M D} {W : WX} {k : Nat} {c : Cc} {X : Cx}
/-! ### argument lists -/
theorem snd_nil : PA X [] (rdEs g cl W .nil) := PAto pa_nil fun σ H Q ⟨ρ, ds, S, r, sl, q⟩ => q ρ H [] (List.prefix_refl _) .refl r .nil
theorem snd_cons {e : Expr} {es : List Expr} {a : LA.E} {as : Es} (he : PE X e (rdE g cl W a)) (hs : PA X es (rdEs g cl W as)) (h : isStar e = false) : PA X (e :: es) (rdEs g cl W (.cons false a as)) := by
  refine PAto (pa_cons he hs (starEach_no h)) ?_
  rintro σ H Q ⟨ρ, ds, S, r, sl, q⟩
  unfold evEs at q
  refine rdE.bind r sl q fun ρ1 H1 S1 d v p1 t1 r1 dv sl1 q1 => ?_
  refine rdEs.bind r1 sl1 q1 fun ρ2 H2 S2 d2 v2 p2 t2 r2 dv2 sl2 q2 => ?_
  have q3 : PostVs g ρ H (d :: d2) S2 Q := q2
  exact q3 ρ2 H2 _ (p1.trans p2) (t1.trans t2) r2 (DVs.cons (dv.mono p2 t2) dv2)
theorem snd_star (G : Gk g k c X) {e : Expr} {p : Pos} {es : List Expr} {a : LA.E} {as : Es} (he : PE X e (rdE g cl W a)) (hs : PA X es (rdEs g cl W as)) : PA X (.Starred e p :: es) (rdEs g cl W (.cons true a as)) := by
  refine PAto (StX.pa_star he hs) ?_
  rintro σ H Q ⟨ρ, ds, S, r, sl, q⟩
  unfold evEs at q
  refine rdE.bind r sl q fun ρ1 H1 S1 d v p1 t1 r1 dv sl1 q1 => ?_
  have q1' : MPost (M.bind (seqM d) (fun xs => M.bind (evEs g.pg cl ds as) fun ys => M.pure (xs ++ ys)) S1) (fun d S' => PostVs g ρ H d S' Q) (fun c fs S' => PostX g ρ1 H1 c fs S' fun cls dd H' => W cls dd σ H') := q1
  unfold M.bind seqM at q1'
  cases e : seqOf S1 d with
  | none => rw [e] at q1'; exact q1'.elim
  | some xs =>
    rw [e] at q1'
    obtain ⟨b, vs, rfl, sq, dvs⟩ := dv.ref_seq r1 e
    refine ⟨b, vs, rfl, by rw [G.K]; exact sq, ?_⟩
    refine rdEs.bind r1 sl1 q1' fun ρ2 H2 S2 d2 v2 p2 t2 r2 dv2 sl2 q2 => ?_
    have q3 : PostVs g ρ H (xs ++ d2) S2 Q := q2
    exact q3 ρ2 H2 _ (p1.trans p2) (t1.trans t2) r2 ((dvs.mono p2 t2).append dv2)
/-! ### displays -/
theorem post_tup {ρ ρ1 : List Addr} {H H1 : Hp} {S1 : Sto} {ds : List D} {vs : List V} {Q : VK} {p : Addr} (q : PostV g ρ H (.tup ds) S1 Q) (p1 : ρ <+: ρ1) (t1 : TupK g.toGd H H1) (r1 : Rel g.toGd ρ1 S1 H1) (dv : DVs g.toGd ρ1 H1 ds vs) (hp : H1 p = none) :
    Q (.ref p) (upd H1 p (.tup vs)) := by
  refine q ρ1 _ _ p1 (t1.trans (.new hp)) (r1.tup hp) ?_
  unfold DV
  exact ⟨p, vs, rfl, .of upd_same, dv.mono (List.prefix_refl _) (.new hp)⟩
theorem post_new {ρ ρ1 : List Addr} {H H1 : Hp} {S1 : Sto} {o : Ob} {ho : HO} {Q : VK} {p : Addr} (q : PostV g ρ H (.obj S1.length) (S1 ++ [o]) Q) (p1 : ρ <+: ρ1) (t1 : TupK g.toGd H H1) (r1 : Rel g.toGd ρ1 S1 H1) (hp : H1 p = none)
    (ov : OV g.toGd (ρ1 ++ [p]) (upd H1 p ho) o p) : Q (.ref p) (upd H1 p ho) := by
  refine q (ρ1 ++ [p]) _ _ (p1.trans (List.prefix_append _ _)) (t1.trans (.new hp)) (r1.new hp ov) ?_
  unfold DV
  exact ⟨p, rfl, by rw [← r1.len]; simp⟩
theorem post_lst {ρ ρ1 : List Addr} {H H1 : Hp} {S1 : Sto} {ds : List D} {vs : List V} {Q : VK} {p : Addr} (q : PostV g ρ H (.obj S1.length) (S1 ++ [.lst ds false]) Q) (p1 : ρ <+: ρ1) (t1 : TupK g.toGd H H1) (r1 : Rel g.toGd ρ1 S1 H1) (dv : DVs g.toGd ρ1 H1 ds vs) (hp : H1 p = none) :
    Q (.ref p) (upd H1 p (.lst vs)) :=
  post_new q p1 t1 r1 hp ⟨vs, dv.mono (List.prefix_append _ _) (.new hp), upd_same⟩
theorem snd_tup {es : List Expr} {as : Es} {x1 : Nat} {pos : Pos} (h : PA X es (rdEs g cl W as)) : PE X (.Tuple es x1 pos) (rdE g cl W (.tup as)) := by
  refine PEto (pe_tup h) ?_
  rintro σ H Q ⟨ρ, ds, S, r, sl, q⟩
  unfold evE at q
  refine rdEs.bind r sl q fun ρ1 H1 S1 d v p1 t1 r1 dv sl1 q1 => ?_
  by_cases hz : d.length ≤ sizeL
  · rw [if_pos hz] at q1
    refine ⟨by rw [← dv.length, ← sizeL_eq]; exact hz, fun p hp => ?_⟩
    exact post_tup q1 p1 t1 r1 dv hp
  · rw [if_neg hz] at q1
    exact q1.elim
theorem snd_lst {es : List Expr} {as : Es} {pos : Pos} (h : PA X es (rdEs g cl W as)) : PE X (.List es pos) (rdE g cl W (.lst as)) := by
  refine PEto (pe_lst h) ?_
  rintro σ H Q ⟨ρ, ds, S, r, sl, q⟩
  unfold evE at q
  refine rdEs.bind r sl q fun ρ1 H1 S1 d v p1 t1 r1 dv sl1 q1 => ?_
  by_cases hz : d.length ≤ sizeL
  · rw [if_pos hz] at q1
    refine ⟨by rw [← dv.length, ← sizeL_eq]; exact hz, fun p hp => ?_⟩
    exact post_lst q1 p1 t1 r1 dv hp
  · rw [if_neg hz] at q1
    exact q1.elim
/-! ### binary operators -/
theorem snd_bin {a b : Expr} {op : Operator} {o : BO} {x y : LA.E} {pos : Pos} {rr : R2} (ho : OpR X (binaryOp op) rr) (ha : PE X a (rdE g cl W x)) (hb : PE X b (rdE g cl W y))
    (h : ∀ ρ H S dx dy vx vy Q, Rel g.toGd ρ S H → DV g.toGd ρ H dx vx → DV g.toGd ρ H dy vy → MPost (binD o dx dy S) (fun d S' => PostV g ρ H d S' Q) (fun _ _ _ => True) → rr vx vy H Q) :
    PE X (.BinOp a op b pos) (rdE g cl W (.bin o x y)) := by
  refine PEto (pe_op ho ha hb) ?_
  rintro σ H Q ⟨ρ, ds, S, r, sl, q⟩
  unfold evE at q
  refine rdE.bind r sl q fun ρ1 H1 S1 d v p1 t1 r1 dv sl1 q1 => ?_
  refine rdE.bind r1 sl1 q1 fun ρ2 H2 S2 d2 v2 p2 t2 r2 dv2 sl2 q2 => ?_
  refine h ρ2 H2 S2 d d2 v v2 Q r2 (dv.mono p2 t2) dv2 (q2.imp (fun d S' z => z.mono (p1.trans p2) (t1.trans t2)) fun _ _ _ _ => trivial)
theorem post_here {ρ : List Addr} {H : Hp} {S : Sto} {d : D} {v : V} {Q : VK} (q : PostV g ρ H d S Q) (r : Rel g.toGd ρ S H) (dv : DV g.toGd ρ H d v) : Q v H := q ρ H v (List.prefix_refl _) .refl r dv
theorem dv_int {ρ : List Addr} {H : Hp} {i : Int} : DV g.toGd ρ H (.int i) (.int i) := by unfold DV; rfl
theorem dv_bl {ρ : List Addr} {H : Hp} {i : Bool} : DV g.toGd ρ H (.bl i) (.bl i) := by unfold DV; rfl
theorem dv_str {ρ : List Addr} {H : Hp} {x : List Nat} : DV g.toGd ρ H (.str x) (.str (toStr x)) := by unfold DV; rfl
theorem dv_non {ρ : List Addr} {H : Hp} : DV g.toGd ρ H .non .non := by unfold DV; rfl
theorem int_dv {ρ : List Addr} {H : Hp} {i : Int} {v : V} (h : DV g.toGd ρ H (.int i) v) : v = .int i := by unfold DV at h; exact h
theorem str_dv {ρ : List Addr} {H : Hp} {x : List Nat} {v : V} (h : DV g.toGd ρ H (.str x) v) : v = .str (toStr x) := by unfold DV at h; exact h
theorem bl_dv {ρ : List Addr} {H : Hp} {x : Bool} {v : V} (h : DV g.toGd ρ H (.bl x) v) : v = .bl x := by unfold DV at h; exact h
theorem non_dv {ρ : List Addr} {H : Hp} {v : V} (h : DV g.toGd ρ H .non v) : v = .non := by unfold DV at h; exact h
theorem tup_dv {ρ : List Addr} {H : Hp} {x : List D} {v : V} (h : DV g.toGd ρ H (.tup x) v) : ∃ a vs, v = .ref a ∧ SqT g.K H a vs ∧ DVs g.toGd ρ H x vs := by unfold DV at h; exact h
theorem obj_dv {ρ : List Addr} {H : Hp} {i : Nat} {v : V} (h : DV g.toGd ρ H (.obj i) v) : ∃ a, v = .ref a ∧ ρ[i]? = some a := by unfold DV at h; exact h
/-- a list that is written to -/
theorem lst_at {ρ : List Addr} {H : Hp} {S : Sto} {i : Nat} {v : V} {xs : List D} (r : Rel g.toGd ρ S H) (h : DV g.toGd ρ H (.obj i) v) (e : S[i]? = some (.lst xs false)) : ∃ a vs, v = .ref a ∧ ρ[i]? = some a ∧ H a = some (.lst vs) ∧ DVs g.toGd ρ H xs vs := by
  obtain ⟨a, rfl, q⟩ := obj_dv h
  obtain ⟨vs, dv, hh⟩ := r.ob i _ a e q
  exact ⟨a, vs, rfl, q, hh, dv⟩
theorem snd_sub {a b : Expr} {x y : LA.E} {pos : Pos} (ha : PE X a (rdE g cl W x)) (hb : PE X b (rdE g cl W y)) : PE X (.BinOp a .Sub b pos) (rdE g cl W (.bin .sub x y)) := by
  refine snd_bin op_sub ha hb fun ρ H S dx dy vx vy Q r h1 h2 q => ?_
  cases dx <;> cases dy <;> first | exact q.elim | skip
  have q' := post_here q r dv_int
  exact ⟨_, _, int_dv h1, int_dv h2, q'⟩
theorem snd_mod {a b : Expr} {x y : LA.E} {pos : Pos} (ha : PE X a (rdE g cl W x)) (hb : PE X b (rdE g cl W y)) : PE X (.BinOp a .Mod b pos) (rdE g cl W (.bin .mod x y)) := by
  refine snd_bin op_mod ha hb fun ρ H S dx dy vx vy Q r h1 h2 q => ?_
  cases dx <;> cases dy <;> first | exact q.elim | skip
  rename_i i j
  simp only [binD] at q
  by_cases hj : 0 < j
  · rw [if_pos hj] at q
    exact ⟨_, _, int_dv h1, int_dv h2, hj, post_here q r dv_int⟩
  · rw [if_neg hj] at q; exact q.elim
theorem snd_fdiv {a b : Expr} {x y : LA.E} {pos : Pos} (ha : PE X a (rdE g cl W x)) (hb : PE X b (rdE g cl W y)) : PE X (.BinOp a .FloorDiv b pos) (rdE g cl W (.bin .fdiv x y)) := by
  refine snd_bin op_fdiv ha hb fun ρ H S dx dy vx vy Q r h1 h2 q => ?_
  cases dx <;> cases dy <;> first | exact q.elim | skip
  rename_i i j
  simp only [binD] at q
  by_cases hj : 0 < j ∧ j < 1073741824
  · rw [if_pos hj] at q
    exact ⟨_, _, int_dv h1, int_dv h2, hj, post_here q r dv_int⟩
  · rw [if_neg hj] at q; exact q.elim
theorem snd_pow {a b : Expr} {x y : LA.E} {pos : Pos} (ha : PE X a (rdE g cl W x)) (hb : PE X b (rdE g cl W y)) : PE X (.BinOp a .Pow b pos) (rdE g cl W (.bin .pow x y)) := by
  refine snd_bin op_pow ha hb fun ρ H S dx dy vx vy Q r h1 h2 q => ?_
  cases dx <;> cases dy <;> first | exact q.elim | skip
  rename_i i j
  simp only [binD] at q
  by_cases hj : 0 ≤ j ∧ j ≤ 1000000 ∧ i.natAbs < 2 ^ 64
  · rw [if_pos hj] at q
    exact ⟨_, _, int_dv h1, int_dv h2, hj, post_here q r dv_int⟩
  · rw [if_neg hj] at q; exact q.elim
theorem snd_add (G : Gk g k c X) {a b : Expr} {x y : LA.E} {pos : Pos} (ha : PE X a (rdE g cl W x)) (hb : PE X b (rdE g cl W y)) : PE X (.BinOp a .Add b pos) (rdE g cl W (.bin .add x y)) := by
  refine snd_bin (((op_add.or op_add_str).or op_catA).or op_cat) ha hb fun ρ H S dx dy vx vy Q r h1 h2 q => ?_
  cases dx <;> cases dy <;> first | exact q.elim | skip
  · exact .inl (.inl (.inl ⟨_, _, int_dv h1, int_dv h2, post_here q r dv_int⟩))
  · rename_i x y
    simp only [binD] at q
    by_cases hz : x.length + y.length ≤ sizeL
    · rw [if_pos hz] at q
      refine .inl (.inl (.inr ⟨_, _, str_dv h1, str_dv h2, by rw [toStr_len, toStr_len, ← sizeL_eq]; exact hz, ?_⟩))
      rw [← toStr_app]
      exact post_here q r dv_str
    · rw [if_neg hz] at q; exact q.elim
  · rename_i xs ys
    simp only [binD] at q
    by_cases hz : xs.length + ys.length ≤ sizeL
    · rw [if_pos hz] at q
      obtain ⟨a, vs, rfl, sa, da⟩ := tup_dv h1
      obtain ⟨b, ws, rfl, sb, db⟩ := tup_dv h2
      have q' : PostV g ρ H (.tup (xs ++ ys)) S Q := q
      refine .inl (.inr ⟨a, b, vs, ws, rfl, rfl, by rw [G.K]; exact sa, by rw [G.K]; exact sb, by rw [← da.length, ← db.length, ← sizeL_eq]; exact hz, fun e => ?_, fun n e => ?_, fun n1 n2 p hp => ?_⟩)
      · subst e
        have : xs = [] := by have := da.length; cases xs <;> simp_all
        subst this
        exact post_here q' r h2
      · subst e
        have : ys = [] := by have := db.length; cases ys <;> simp_all
        subst this
        rw [List.append_nil] at q'
        exact post_here q' r h1
      · exact post_tup q' (List.prefix_refl _) .refl r (da.append db) hp
    · rw [if_neg hz] at q; exact q.elim
  · rename_i i j
    simp only [binD] at q
    cases ei : S[i]? with
    | none => simp only [ei] at q; exact q.elim
    | some oi =>
      cases ej : S[j]? with
      | none => simp only [ei, ej] at q; cases oi <;> first | exact q.elim | (rename_i lk; cases lk <;> exact q.elim)
      | some oj =>
        cases oi with
        | lst xs lk =>
          cases lk with
          | true => simp only [ei, ej] at q; exact q.elim
          | false =>
            cases oj with
            | lst ys lk =>
              cases lk with
              | true => simp only [ei, ej] at q; exact q.elim
              | false =>
                simp only [ei, ej] at q
                by_cases hz : xs.length + ys.length ≤ sizeL
                · rw [if_pos hz] at q
                  obtain ⟨a, vs, rfl, _, ha', da⟩ := lst_at r h1 ei
                  obtain ⟨b, ws, rfl, _, hb', db⟩ := lst_at r h2 ej
                  refine .inr ⟨a, b, vs, ws, rfl, rfl, ha', hb', by rw [← da.length, ← db.length, ← sizeL_eq]; exact hz, fun p hp => ?_⟩
                  exact post_lst q (List.prefix_refl _) .refl r (da.append db) hp
                · rw [if_neg hz] at q; exact q.elim
            | dct _ _ => simp only [ei, ej] at q; exact q.elim
            | ins _ _ => simp only [ei, ej] at q; exact q.elim
        | dct _ _ => simp only [ei, ej] at q; exact q.elim
        | ins _ _ => simp only [ei, ej] at q; exact q.elim
end
end LA

/-! Soundness: == . -/
namespace LA
open PySem PySem.Spec PyProof.Rows L2
open PySem.SeqAt (EqAt RcAt RcNeAt EqIn)
open PySem.W (KeqHitsIn)
def RcIn (P : Program) (w : World) (A : Around) (s : Shared) (u v : Value) (b : Bool) : Prop :=
  ∀ (E : Value → Shared → Prop) (Q : Value → Shared → Prop), Q (.bool b) s → wpAny (model P w) A (richCompare .Eq u v) Q E s
theorem RcIn.of {P : Program} {w : World} {A : Around} {s : Shared} {u v : Value} {b : Bool} (h : RcAt A s u v b) : RcIn P w A s u v b := fun E Q q => h P w E Q q
theorem toStr_beq (x y : List Nat) : (toStr x == toStr y) = decide (x = y) := by
  by_cases h : x = y
  · subst h; simp
  · rw [decide_eq_false h]
    exact beq_eq_false_iff_ne.mpr fun e => h (toStr_inj e)
theorem toStr_beqL (x y : List Nat) : ((toStr x).cps.toList == (toStr y).cps.toList) = decide (x = y) := by
  show (x.toArray.toList == y.toArray.toList) = _
  simp
  by_cases h : x = y
  · subst h; simp
  · rw [decide_eq_false h]; exact beq_eq_false_iff_ne.mpr h
theorem int_beq (i j : Int) : (i == j) = decide (i = j) := by
  by_cases h : i = j
  · subst h; simp
  · rw [decide_eq_false h]; exact beq_eq_false_iff_ne.mpr h
theorem all_range_succ (n : Nat) (e : Nat → Bool) : (List.range (n + 1)).all e = (e 0 && (List.range n).all fun j => e (j + 1)) := by
  rw [List.range_succ_eq_map, List.all_cons, List.all_map]
  rfl
section
variable {G : Gd} {ρ : List Addr} {H : Hp} {S : Sto}
/-- a key's value -/
theorem look_val {k : Ky} : ∀ {kvs : List (Ky × D)} {vs : List (Key × V)} {us : List (Key × Value)}, KVs G ρ H kvs vs → KV vs us →
    match lookK k kvs with
    | none => valueAt us (kyKey k) = none
    | some d => ∃ v u, valueAt us (kyKey k) = some u ∧ DV G ρ H d v ∧ RelV v u
  | [], vs, us, h, q => by
    have e : vs = [] := h
    subst e
    cases q
    show valueAt ([] : List (Key × Value)) _ = none
    rfl
  | (j, d) :: r, vs, us, h, q => by
    obtain ⟨v, ws, rfl, dv, hr⟩ := h
    cases q with
    | cons z zr =>
      rename_i b l
      obtain ⟨b1, u⟩ := b
      obtain ⟨e1, ru⟩ := z
      have e1' : kyKey j = b1 := e1
      subst e1'
      have ru' : RelV v u := ru
      have ih := look_val (k := k) hr zr
      unfold lookK
      by_cases hk : k = j
      · subst hk
        rw [if_pos rfl]
        exact ⟨v, u, by simp [valueAt], dv, ru'⟩
      · rw [if_neg hk]
        have hne : ¬ (kyKey j = kyKey k) := fun z => hk (kyKey_inj z).symm
        have ev : valueAt ((kyKey j, u) :: l) (kyKey k) = valueAt l (kyKey k) := by
          unfold valueAt
          rw [List.find?_cons]
          simp [hne]
        rw [ev]
        exact ih
theorem kv_len {kvs : List (Ky × D)} {vs : List (Key × V)} : KVs G ρ H kvs vs → kvs.length = vs.length := by
  induction kvs generalizing vs with
  | nil => intro h; have e : vs = [] := h; rw [e]; rfl
  | cons p r ih =>
    intro h
    obtain ⟨k, d⟩ := p
    obtain ⟨v, ws, rfl, _, hr⟩ := h
    rw [List.length_cons, List.length_cons, ih hr]
theorem paired_len {α β : Type} {F : α → β → Prop} : ∀ {l : List α} {m : List β}, Paired F l m → l.length = m.length
  | _, _, .nil => rfl
  | _, _, .cons _ t => by rw [List.length_cons, List.length_cons, paired_len t]
end
theorem eqD_refl (S : Sto) : ∀ n : Nat, (∀ x b, eqD S n x x = some b → b = true) ∧ (∀ xs b, eqDs S n xs xs = some b → b = true)
  | 0 => ⟨fun _ _ h => by simp [eqD] at h, fun _ _ h => by simp [eqDs] at h⟩
  | n + 1 => by
    obtain ⟨i1, i2⟩ := eqD_refl S n
    refine ⟨fun x b h => ?_, fun xs b h => ?_⟩
    · cases x with
      | non => cases h; rfl
      | bl b => cases h; simp
      | int i => cases h; simp
      | str x => cases h; simp
      | tup xs =>
        simp only [eqD] at h
        cases e : eqDs S n xs xs with
        | none => rw [e] at h; cases h
        | some q => rw [e] at h; cases h; rw [i2 xs q e]; simp
      | obj i =>
        simp only [eqD] at h
        cases e : S[i]? with
        | none => rw [e] at h; cases h
        | some o =>
          rw [e] at h
          cases o with
          | lst xs lk => simp only [if_true] at h; cases h; rfl
          | dct _ _ => cases h
          | ins _ _ => cases h
    · cases xs with
      | nil => cases h; rfl
      | cons x xs =>
        simp only [eqDs] at h
        cases e1 : eqD S n x x with
        | none => rw [e1] at h; cases h
        | some q1 =>
          cases e2 : eqDs S n xs xs with
          | none => rw [e1, e2] at h; cases h
          | some q2 => rw [e1, e2] at h; cases h; rw [i1 x q1 e1, i2 xs q2 e2]; rfl
section
variable {g : GdX} {X : Cx} {pins : List (Addr × Obj)} {σ : L2.St} {H : Hp} {s : Shared} {ρ : List Addr} {S : Sto}
theorem plainL_list {h : Heap} {a : Addr} {its : Array Value} (p : PlainL h a its) : h.IsList a its := by
  obtain ⟨o, n, ho, hc, _, hd⟩ := p
  exact ⟨o, ho, hc, n, hd⟩
theorem isTup_tuple {h : Heap} {a : Addr} {its : Array Value} (p : IsTup h a its) : h.IsTuple a its := p
theorem lst_read (I : Inv X pins σ H s) (r : Rel g.toGd ρ S H) {i : Nat} {v : V} {u : Value} {xs : List D} {lk : Bool} (hx : DV g.toGd ρ H (.obj i) v) (ru : RelV v u) (e : S[i]? = some (.lst xs lk)) :
    ∃ a vs its, u = .ref a ∧ v = .ref a ∧ ρ[i]? = some a ∧ DVs g.toGd ρ H xs vs ∧ Vals vs its ∧ s.heap.IsList a its.toArray ∧ SqL X.K H a vs := by
  obtain ⟨a, rfl, q⟩ := obj_dv hx
  obtain ⟨vs, dv, hh⟩ := r.ob i _ a e q
  have sq : SqL X.K H a vs := by
    refine .inl ?_
    cases lk with
    | true => obtain ⟨o, hh⟩ := hh; exact .inr ⟨o, hh⟩
    | false => exact .inl hh
  obtain ⟨its, va, pl, _⟩ := I.list sq
  exact ⟨a, vs, its, ru, rfl, q, dv, va, plainL_list pl, sq⟩
theorem tup_read (I : Inv X pins σ H s) (hK : X.K = g.K) {v : V} {u : Value} {xs : List D} (hx : DV g.toGd ρ H (.tup xs) v) (ru : RelV v u) :
    ∃ a vs its, u = .ref a ∧ v = .ref a ∧ DVs g.toGd ρ H xs vs ∧ Vals vs its ∧ s.heap.IsTuple a its.toArray ∧ SqT X.K H a vs := by
  obtain ⟨a, vs, rfl, sq, dv⟩ := tup_dv hx
  rw [← hK] at sq
  obtain ⟨its, va, pl, _⟩ := I.tuple sq
  exact ⟨a, vs, its, ru, rfl, dv, va, isTup_tuple pl, sq⟩
theorem dct_read (I : Inv X pins σ H s) (r : Rel g.toGd ρ S H) {i : Nat} {v : V} {u : Value} {xs : List (Ky × D)} {lk : Bool} (hx : DV g.toGd ρ H (.obj i) v) (ru : RelV v u) (e : S[i]? = some (.dct xs lk)) :
    ∃ a vs us, u = .ref a ∧ v = .ref a ∧ ρ[i]? = some a ∧ KVs g.toGd ρ H xs vs ∧ KV vs us ∧ (a == sysModules) = false ∧ s.heap.DictOf (mixKind X.prog X.w) a us := by
  obtain ⟨a, rfl, q⟩ := obj_dv hx
  obtain ⟨vs, dv, hh⟩ := r.ob i _ a e q
  have ok : ObjOk X.prog X.w H s.heap a (.dK vs) := by
    cases lk with
    | true =>
      obtain ⟨o, hh⟩ := hh
      obtain ⟨_, q⟩ := I.hok a _ hh
      exact q
    | false => exact I.hok a _ hh
  obtain ⟨_, hs, us, kv, d⟩ := ok
  exact ⟨a, vs, us, ru, rfl, q, dv, kv, hs, d⟩
theorem DV.apart (I : Inv X pins σ H s) (r : Rel g.toGd ρ S H) (hK : X.K = g.K) (hs : ∀ (i : Nat) (a : Addr), ρ[i]? = some a → ∃ o : Ob, S[i]? = some o) {xs : List D} {j : Nat} {v : V} (h : DV g.toGd ρ H (.tup xs) v) (q : DV g.toGd ρ H (.obj j) v) : False := by
  obtain ⟨a, vs, rfl, sq, dv⟩ := tup_dv h
  obtain ⟨b, e, hj⟩ := obj_dv q
  injection e with e
  subst e
  obtain ⟨o, ho⟩ := hs j _ hj
  rw [← hK] at sq
  obtain ⟨its, _, ⟨ob, g1, g2, _⟩, _⟩ := I.tuple sq
  have ov := r.ob j o _ ho hj
  cases o with
  | lst zs lk =>
    obtain ⟨vs2, _, hh⟩ := ov
    have sq3 : SqL X.K H a vs2 := by
      cases lk with
      | true => obtain ⟨o, hh⟩ := hh; exact .inl (.inr ⟨o, hh⟩)
      | false => exact .inl (.inl hh)
    obtain ⟨_, _, ⟨_, ob2, g3, g4, _⟩, _⟩ := I.list sq3
    rw [g1] at g3
    cases g3
    rw [g2] at g4
    exact absurd g4 (by decide)
  | dct zs lk =>
    obtain ⟨vs2, _, hh⟩ := ov
    have ok : ObjOk X.prog X.w H s.heap a (.dK vs2) := by
      cases lk with
      | true => obtain ⟨o, hh⟩ := hh; exact (I.hok a _ hh).2
      | false => exact I.hok a _ hh
    obtain ⟨_, _, us, kv, d⟩ := ok
    have := d.typeIs
    obtain ⟨ob3, g3, g4⟩ := this
    rw [g1] at g3
    cases g3
    rw [g2] at g4
    exact absurd g4 (by decide)
  | ins c fs =>
    obtain ⟨C, dx, vs2, _, _, hh⟩ := ov
    obtain ⟨_, _, _, g3, _⟩ := I.hok a _ hh
    rw [g1] at g3
    cases g3
    exact absurd g2 (by simp [PySem.W.instObj])
mutual
theorem DV.same (I : Inv X pins σ H s) (r : Rel g.toGd ρ S H) (hK : X.K = g.K) (hs : ∀ (i : Nat) (a : Addr), ρ[i]? = some a → ∃ o : Ob, S[i]? = some o) : ∀ {x y : D} {v : V}, DV g.toGd ρ H x v → DV g.toGd ρ H y v → x = y
  | .non, y, v, h, q => by
    cases non_dv h
    cases y <;> (unfold DV at q) <;> first | rfl | (cases q; done) | (obtain ⟨_, e, _⟩ := q; exact nomatch e) | (obtain ⟨_, _, e, _⟩ := q; exact nomatch e)
  | .bl b, y, v, h, q => by
    cases bl_dv h
    cases y <;> (unfold DV at q) <;> first | (cases q; rfl) | (cases q; done) | (obtain ⟨_, e, _⟩ := q; exact nomatch e) | (obtain ⟨_, _, e, _⟩ := q; exact nomatch e)
  | .int b, y, v, h, q => by
    cases int_dv h
    cases y <;> (unfold DV at q) <;> first | (cases q; rfl) | (cases q; done) | (obtain ⟨_, e, _⟩ := q; exact nomatch e) | (obtain ⟨_, _, e, _⟩ := q; exact nomatch e)
  | .str b, y, v, h, q => by
    cases str_dv h
    cases y <;> (unfold DV at q) <;> first | (injection q with q; rw [toStr_inj q]) | (cases q; done) | (obtain ⟨_, e, _⟩ := q; exact nomatch e) | (obtain ⟨_, _, e, _⟩ := q; exact nomatch e)
  | .tup xs, y, v, h, q => by
    obtain ⟨a, vs, rfl, sq, dv⟩ := tup_dv h
    cases y with
    | tup ys =>
      obtain ⟨b, ws, e, sq2, dv2⟩ := tup_dv q
      injection e with e
      subst e
      rw [← hK] at sq sq2
      have := I.tuple_inj sq sq2
      subst this
      rw [DVs.same I r hK hs dv dv2]
    | obj j => exact (DV.apart I r hK hs h q).elim
    | non => cases non_dv q
    | bl _ => cases bl_dv q
    | int _ => cases int_dv q
    | str _ => cases str_dv q
  | .obj i, y, v, h, q => by
    obtain ⟨a, rfl, hi⟩ := obj_dv h
    cases y with
    | obj j =>
      obtain ⟨b, e, hj⟩ := obj_dv q
      injection e with e
      subst e
      obtain ⟨h1, e1⟩ := List.getElem?_eq_some_iff.mp hi
      obtain ⟨h2, e2⟩ := List.getElem?_eq_some_iff.mp hj
      rw [(List.getElem_inj r.nd).mp (e1.trans e2.symm)]
    | tup ys => exact (DV.apart I r hK hs q h).elim
    | non => cases non_dv q
    | bl _ => cases bl_dv q
    | int _ => cases int_dv q
    | str _ => cases str_dv q
theorem DVs.same (I : Inv X pins σ H s) (r : Rel g.toGd ρ S H) (hK : X.K = g.K) (hs : ∀ (i : Nat) (a : Addr), ρ[i]? = some a → ∃ o : Ob, S[i]? = some o) : ∀ {x y : List D} {v : List V}, DVs g.toGd ρ H x v → DVs g.toGd ρ H y v → x = y
  | [], y, v, h, q => by
    cases h.nil_inv
    cases y with
    | nil => rfl
    | cons _ _ => obtain ⟨_, _, e, _⟩ := q.cons_inv; cases e
  | x :: xs, y, v, h, q => by
    obtain ⟨u, us, rfl, d1, d2⟩ := h.cons_inv
    cases y with
    | nil => cases q.nil_inv
    | cons y ys =>
      obtain ⟨u2, us2, e, d3, d4⟩ := q.cons_inv
      cases e
      rw [DV.same I r hK hs d1 d3, DVs.same I r hK hs d2 d4]
end
theorem both {A : Around} {s : Shared} {u v : Value} {b : Bool} (h1 : RcAt A s u v b) (h2 : EqAt A s u v b) (h3 : RcNeAt A s u v (!b)) : RcAt A s u v b ∧ EqAt A s u v b ∧ RcNeAt A s u v (!b) := ⟨h1, h2, h3⟩
theorem get_arr {its : List Value} {j : Nat} (h : j < its.toArray.size) : its.toArray[j] = its[j]'(by simpa using h) := by simp
theorem eq_snd (I : Inv X pins σ H s) (r : Rel g.toGd ρ S H) (hK : X.K = g.K) (hs : ∀ (i : Nat) (a : Addr), ρ[i]? = some a → ∃ o : Ob, S[i]? = some o) : ∀ n : Nat,
    (∀ x y b vx vy u1 u2, eqD S n x y = some b → DV g.toGd ρ H x vx → DV g.toGd ρ H y vy → RelV vx u1 → RelV vy u2 → ∀ A : Around, A.units + n + 2 < cLine → RcAt A s u1 u2 b ∧ EqAt A s u1 u2 b ∧ RcNeAt A s u1 u2 (!b)) ∧
    (∀ xs ys b vs ws us1 us2, eqDs S n xs ys = some b → DVs g.toGd ρ H xs vs → DVs g.toGd ρ H ys ws → Vals vs us1 → Vals ws us2 → ∀ A : Around, A.units + n + 2 < cLine →
      ∃ e : Nat → Bool, (∀ j (h1 : j < us1.length) (h2 : j < us2.length), EqAt A s us1[j] us2[j] (e j)) ∧ b = (List.range (min us1.length us2.length)).all e) ∧
    (∀ xs ys b vs ws us1 us2, eqKs S n xs ys = some b → KVs g.toGd ρ H xs vs → KVs g.toGd ρ H ys ws → KV vs us1 → KV ws us2 → ∀ A : Around, A.units + n + 2 < cLine → KeqHitsIn X.prog X.w A s us2 us1 b)
  | 0 => ⟨fun _ _ _ _ _ _ _ h => by simp [eqD] at h, fun _ _ _ _ _ _ _ h => by simp [eqDs] at h, fun _ _ _ _ _ _ _ h => by simp [eqKs] at h⟩
  | n + 1 => by
    obtain ⟨ih1, ih2, ih3⟩ := eq_snd I r hK hs n
    refine ⟨?_, ?_, ?_⟩
    · intro x y b vx vy u1 u2 h hx hy r1 r2 A hu
      have hu0 : A.units < cLine := by omega
      have hu1 : A.in1.units + n + 2 < cLine := by show A.units + 1 + n + 2 < cLine; omega
      cases x with
      | non =>
        cases non_dv hx
        cases (show u1 = Value.none from r1)
        cases y with
        | non => cases non_dv hy; cases (show u2 = Value.none from r2); cases h; exact both .none_none (.same _) .none_none
        | bl j => cases bl_dv hy; cases (show u2 = Value.bool j from r2); cases h; exact both (.none_bool _) (.none_bool _) (.none_bool _)
        | int j => cases int_dv hy; obtain ⟨t, rfl⟩ := r2; cases h; exact both (.none_int _ _) (.none_int _ _) (.none_int _ _)
        | str j => cases str_dv hy; obtain ⟨t, rfl⟩ := r2; cases h; exact both (.none_str _ _) (.none_str _ _) (.none_str _ _)
        | tup ys =>
          cases h
          obtain ⟨a, vs, its, rfl, _, _, _, ht, _⟩ := tup_read I hK hy r2
          exact both (.none_tuple ht hu0) (.none_tuple ht hu0) (.none_tuple ht hu0)
        | obj j =>
          simp only [eqD] at h
          cases e : S[j]? with
          | none => rw [e] at h; cases h
          | some o =>
            rw [e] at h
            cases o with
            | lst ys lk =>
              cases h
              obtain ⟨a, vs, its, rfl, _, _, _, _, ht, _⟩ := lst_read I r hy r2 e
              exact both (.none_list ht hu0) (.none_list ht hu0) (.none_list ht hu0)
            | dct _ _ => cases h
            | ins _ _ => cases h
      | bl i =>
        cases bl_dv hx
        cases (show u1 = Value.bool i from r1)
        cases y with
        | non => cases non_dv hy; cases (show u2 = Value.none from r2); cases h; exact both (.bool_none _) (.bool_none _) (.bool_none _)
        | bl j => cases bl_dv hy; cases (show u2 = Value.bool j from r2); cases h; exact both (.bool_bool _ _) (.bool_bool _ _) (.bool_bool _ _)
        | int j =>
          cases int_dv hy; obtain ⟨t, rfl⟩ := r2; cases h
          rw [← int_beq]
          exact both (.bool_int _ _ _) (.bool_int _ _ _) (.bool_int _ _ _)
        | str j => cases str_dv hy; obtain ⟨t, rfl⟩ := r2; cases h; exact both (.bool_str _ _ _) (.bool_str _ _ _) (.bool_str _ _ _)
        | tup ys =>
          cases h
          obtain ⟨a, vs, its, rfl, _, _, _, ht, _⟩ := tup_read I hK hy r2
          exact both (.bool_tuple _ ht hu0) (.bool_tuple _ ht hu0) (.bool_tuple _ ht hu0)
        | obj j =>
          simp only [eqD] at h
          cases e : S[j]? with
          | none => rw [e] at h; cases h
          | some o =>
            rw [e] at h
            cases o with
            | lst ys lk =>
              cases h
              obtain ⟨a, vs, its, rfl, _, _, _, _, ht, _⟩ := lst_read I r hy r2 e
              exact both (.bool_list _ ht hu0) (.bool_list _ ht hu0) (.bool_list _ ht hu0)
            | dct _ _ => cases h
            | ins _ _ => cases h
      | int i =>
        cases int_dv hx
        obtain ⟨t1, rfl⟩ := r1
        cases y with
        | non => cases non_dv hy; cases (show u2 = Value.none from r2); cases h; exact both (.int_none _ _) (.int_none _ _) (.int_none _ _)
        | bl j =>
          cases bl_dv hy; cases (show u2 = Value.bool j from r2); cases h
          rw [← int_beq]
          exact both (.int_bool _ _ _) (.int_bool _ _ _) (.int_bool _ _ _)
        | int j =>
          cases int_dv hy; obtain ⟨t, rfl⟩ := r2; cases h
          rw [← int_beq]
          exact both (.int_int _ _ _ _) (.int_int _ _ _ _) (.int_int _ _ _ _)
        | str j => cases str_dv hy; obtain ⟨t, rfl⟩ := r2; cases h; exact both (.int_str _ _ _ _) (.int_str _ _ _ _) (.int_str _ _ _ _)
        | tup ys =>
          cases h
          obtain ⟨a, vs, its, rfl, _, _, _, ht, _⟩ := tup_read I hK hy r2
          exact both (.int_tuple _ _ ht hu0) (.int_tuple _ _ ht hu0) (.int_tuple _ _ ht hu0)
        | obj j =>
          simp only [eqD] at h
          cases e : S[j]? with
          | none => rw [e] at h; cases h
          | some o =>
            rw [e] at h
            cases o with
            | lst ys lk =>
              cases h
              obtain ⟨a, vs, its, rfl, _, _, _, _, ht, _⟩ := lst_read I r hy r2 e
              exact both (.int_list _ _ ht hu0) (.int_list _ _ ht hu0) (.int_list _ _ ht hu0)
            | dct _ _ => cases h
            | ins _ _ => cases h
      | str i =>
        cases str_dv hx
        obtain ⟨t1, rfl⟩ := r1
        cases y with
        | non => cases non_dv hy; cases (show u2 = Value.none from r2); cases h; exact both (.str_none _ _) (.str_none _ _) (.str_none _ _)
        | bl j => cases bl_dv hy; cases (show u2 = Value.bool j from r2); cases h; exact both (.str_bool _ _ _) (.str_bool _ _ _) (.str_bool _ _ _)
        | int j => cases int_dv hy; obtain ⟨t, rfl⟩ := r2; cases h; exact both (.str_int _ _ _ _) (.str_int _ _ _ _) (.str_int _ _ _ _)
        | str j =>
          cases str_dv hy; obtain ⟨t, rfl⟩ := r2; cases h
          rw [← toStr_beq]
          exact both (.str_str _ _ _ _) (.str_str _ _ _ _) (.str_str _ _ _ _)
        | tup ys =>
          cases h
          obtain ⟨a, vs, its, rfl, _, _, _, ht, _⟩ := tup_read I hK hy r2
          exact both (.str_tuple _ _ ht hu0) (.str_tuple _ _ ht hu0) (.str_tuple _ _ ht hu0)
        | obj j =>
          simp only [eqD] at h
          cases e : S[j]? with
          | none => rw [e] at h; cases h
          | some o =>
            rw [e] at h
            cases o with
            | lst ys lk =>
              cases h
              obtain ⟨a, vs, its, rfl, _, _, _, _, ht, _⟩ := lst_read I r hy r2 e
              exact both (.str_list _ _ ht hu0) (.str_list _ _ ht hu0) (.str_list _ _ ht hu0)
            | dct _ _ => cases h
            | ins _ _ => cases h
      | tup xs =>
        obtain ⟨a, vs, its, rfl, rfl, dv1, va1, ht, sq1⟩ := tup_read I hK hx r1
        cases y with
        | non => cases non_dv hy; cases (show u2 = Value.none from r2); cases h; exact both (.tuple_none ht hu0) (.tuple_none ht hu0) (.tuple_none ht hu0)
        | bl j => cases bl_dv hy; cases (show u2 = Value.bool j from r2); cases h; exact both (.tuple_bool _ ht hu0) (.tuple_bool _ ht hu0) (.tuple_bool _ ht hu0)
        | int j => cases int_dv hy; obtain ⟨t, rfl⟩ := r2; cases h; exact both (.tuple_int _ _ ht hu0) (.tuple_int _ _ ht hu0) (.tuple_int _ _ ht hu0)
        | str j => cases str_dv hy; obtain ⟨t, rfl⟩ := r2; cases h; exact both (.tuple_str _ _ ht hu0) (.tuple_str _ _ ht hu0) (.tuple_str _ _ ht hu0)
        | tup ys =>
          obtain ⟨a2, vs2, its2, rfl, rfl, dv2, va2, ht2, sq2⟩ := tup_read I hK hy r2
          simp only [eqD] at h
          cases e : eqDs S n xs ys with
          | none => rw [e] at h; cases h
          | some q =>
            rw [e] at h
            cases h
            obtain ⟨f, hf, rfl⟩ := ih2 xs ys q vs vs2 its its2 e dv1 dv2 va1 va2 A.in1 hu1
            have l1 : xs.length = its.length := dv1.length.trans va1.length
            have l2 : ys.length = its2.length := dv2.length.trans va2.length
            have el : ∀ j (h1 : j < its.toArray.size) (h2 : j < its2.toArray.size), EqAt A.in1 s its.toArray[j] its2.toArray[j] (f j) := fun j h1 h2 => by
              rw [get_arr, get_arr]; exact hf j _ _
            have ez : ((List.range (min its.toArray.size its2.toArray.size)).all f && its.toArray.size == its2.toArray.size) = ((List.range (min its.length its2.length)).all f && xs.length == ys.length) := by
              simp only [List.size_toArray, l1, l2]
            have rc : RcAt A s (.ref a) (.ref a2) ((List.range (min its.length its2.length)).all f && xs.length == ys.length) := by
              rw [← ez]; exact RcAt.tuples ht ht2 hu0 el
            have rn : RcNeAt A s (.ref a) (.ref a2) (!((List.range (min its.length its2.length)).all f && xs.length == ys.length)) := by
              rw [← ez]; exact RcNeAt.tuples ht ht2 hu0 el
            refine ⟨rc, ?_, rn⟩
            by_cases ne : a = a2
            · subst ne
              have ev : vs = vs2 := I.tuple_inj sq1 sq2
              subst ev
              have exy := DVs.same I r hK hs dv1 dv2
              subst exy
              have tt : ((List.range (min its.length its2.length)).all f && xs.length == xs.length) = true := by
                rw [(eqD_refl S n).2 _ _ e]; simp
              rw [tt]
              exact EqAt.same _
            · exact EqAt.of_refs ne rc
        | obj j =>
          simp only [eqD] at h
          cases e : S[j]? with
          | none => rw [e] at h; cases h
          | some o =>
            rw [e] at h
            cases o with
            | lst ys lk =>
              cases h
              obtain ⟨a2, vs2, its2, rfl, _, _, _, _, ht2, _⟩ := lst_read I r hy r2 e
              exact both (RcAt.tuple_list ht ht2 hu0) (EqAt.tuple_list ht ht2 hu0) (RcNeAt.tuple_list ht ht2 hu0)
            | dct _ _ => cases h
            | ins _ _ => cases h
      | obj i =>
        cases ei : S[i]? with
        | none =>
          cases y <;> (simp only [eqD, ei] at h) <;> cases h
        | some o =>
          cases o with
          | ins _ _ => cases y <;> (simp only [eqD, ei] at h) <;> cases h
          | dct _ _ => cases y <;> (simp only [eqD, ei] at h) <;> cases h
          | lst xs lk =>
            obtain ⟨a, vs, its, rfl, rfl, q1, dv1, va1, ht, sq1⟩ := lst_read I r hx r1 ei
            cases y with
            | non => cases non_dv hy; cases (show u2 = Value.none from r2); simp only [eqD, ei] at h; cases h; exact both (.list_none ht hu0) (.list_none ht hu0) (.list_none ht hu0)
            | bl j => cases bl_dv hy; cases (show u2 = Value.bool j from r2); simp only [eqD, ei] at h; cases h; exact both (.list_bool _ ht hu0) (.list_bool _ ht hu0) (.list_bool _ ht hu0)
            | int j => cases int_dv hy; obtain ⟨t, rfl⟩ := r2; simp only [eqD, ei] at h; cases h; exact both (.list_int _ _ ht hu0) (.list_int _ _ ht hu0) (.list_int _ _ ht hu0)
            | str j => cases str_dv hy; obtain ⟨t, rfl⟩ := r2; simp only [eqD, ei] at h; cases h; exact both (.list_str _ _ ht hu0) (.list_str _ _ ht hu0) (.list_str _ _ ht hu0)
            | tup ys =>
              simp only [eqD, ei] at h
              cases h
              obtain ⟨a2, vs2, its2, rfl, _, _, _, ht2, _⟩ := tup_read I hK hy r2
              exact both (RcAt.list_tuple ht ht2 hu0) (EqAt.list_tuple ht ht2 hu0) (RcNeAt.list_tuple ht ht2 hu0)
            | obj j =>
              simp only [eqD, ei] at h
              cases ej : S[j]? with
              | none => rw [ej] at h; cases h
              | some o2 =>
                rw [ej] at h
                cases o2 with
                | dct _ _ => cases h
                | ins _ _ => cases h
                | lst ys lk2 =>
                  obtain ⟨a2, vs2, its2, rfl, rfl, q2, dv2, va2, ht2, sq2⟩ := lst_read I r hy r2 ej
                  by_cases hij : i = j
                  · subst hij
                    simp only [if_true] at h
                    cases h
                    have ea : a = a2 := by rw [q1] at q2; exact Option.some.inj q2
                    subst ea
                    have ev : its = its2 := by
                      have e1 := I.list_inj sq1 sq2
                      subst e1
                      obtain ⟨o1, g1, _, n1, g2⟩ := ht
                      obtain ⟨o2, g3, _, n2, g4⟩ := ht2
                      rw [g1] at g3
                      cases g3
                      rw [g2] at g4
                      injection g4 with g4
                      have := congrArg Array.toList g4
                      simpa using this
                    subst ev
                    have tt : ((List.range its.toArray.size).all fun _ => true) = true := by rw [List.all_eq_true]; intros; rfl
                    have r1' := RcAt.lists (e := fun _ => true) ht ht2 rfl hu0 (fun j h1 h2 => EqAt.same _)
                    have r2' := RcNeAt.lists (e := fun _ => true) ht ht2 rfl hu0 (fun j h1 h2 => EqAt.same _)
                    rw [tt] at r1' r2'
                    exact ⟨r1', EqAt.same _, r2'⟩
                  · simp only [if_neg hij] at h
                    have ne : a ≠ a2 := by
                      rintro rfl
                      obtain ⟨h1, e1⟩ := List.getElem?_eq_some_iff.mp q1
                      obtain ⟨h2, e2⟩ := List.getElem?_eq_some_iff.mp q2
                      exact hij ((List.getElem_inj r.nd).mp (e1.trans e2.symm))
                    have l1 : xs.length = its.length := dv1.length.trans va1.length
                    have l2 : ys.length = its2.length := dv2.length.trans va2.length
                    by_cases hl : xs.length = ys.length
                    · rw [if_pos hl] at h
                      obtain ⟨f, hf, rfl⟩ := ih2 xs ys b vs vs2 its its2 h dv1 dv2 va1 va2 A.in1 hu1
                      have hll : its.length = its2.length := by omega
                      have el : ∀ j (h1 : j < its.toArray.size) (h2 : j < its2.toArray.size), EqAt A.in1 s its.toArray[j] its2.toArray[j] (f j) := fun j h1 h2 => by
                        rw [get_arr, get_arr]; exact hf j _ _
                      have ez : (List.range its.toArray.size).all f = (List.range (min its.length its2.length)).all f := by
                        rw [← hll, Nat.min_self, List.size_toArray]
                      have rc := RcAt.lists ht ht2 (by simpa using hll) hu0 el
                      have rn := RcNeAt.lists ht ht2 (by simpa using hll) hu0 el
                      rw [ez] at rc rn
                      exact ⟨rc, EqAt.of_refs ne rc, rn⟩
                    · rw [if_neg hl] at h
                      cases h
                      have hz : (its.toArray.size != its2.toArray.size) = true := by
                        simp only [List.size_toArray, bne_iff_ne, ne_eq]; omega
                      exact ⟨RcAt.lists_lengths ht ht2 hz hu0, EqAt.of_refs ne (RcAt.lists_lengths ht ht2 hz hu0), RcNeAt.lists_lengths ht ht2 hz hu0⟩
    · intro xs ys b vs ws us1 us2 h hx hy r1 r2 A hu
      cases xs with
      | nil =>
        cases h
        cases hx.nil_inv
        cases r1
        exact ⟨fun _ => true, fun j h1 _ => absurd h1 (by simp), by simp⟩
      | cons x xs =>
        cases ys with
        | nil =>
          cases h
          cases hy.nil_inv
          cases r2
          exact ⟨fun _ => true, fun j _ h2 => absurd h2 (by simp), by simp⟩
        | cons y ys =>
          simp only [eqDs] at h
          cases e1 : eqD S n x y with
          | none => rw [e1] at h; cases h
          | some q1 =>
            cases e2 : eqDs S n xs ys with
            | none => rw [e1, e2] at h; cases h
            | some q2 =>
              rw [e1, e2] at h
              cases h
              obtain ⟨v, vs', rfl, dx, dxs⟩ := hx.cons_inv
              obtain ⟨w', ws', rfl, dy, dys⟩ := hy.cons_inv
              cases r1 with
              | cons ra ras =>
                cases r2 with
                | cons rb rbs =>
                  obtain ⟨_, h1, _⟩ := ih1 x y q1 v w' _ _ e1 dx dy ra rb A (by omega)
                  obtain ⟨f, hf, rfl⟩ := ih2 xs ys q2 vs' ws' _ _ e2 dxs dys ras rbs A (by omega)
                  refine ⟨fun j => match j with | 0 => q1 | j + 1 => f j, fun j l1 l2 => ?_, ?_⟩
                  · cases j with
                    | zero => exact h1
                    | succ j => exact hf j (by simpa using l1) (by simpa using l2)
                  · rw [List.length_cons, List.length_cons, Nat.add_min_add_right, all_range_succ]
    · intro xs ys b vs ws us1 us2 h hx hy r1 r2 A hu
      cases xs with
      | nil =>
        cases h
        have : vs = [] := hx
        subst this
        cases r1
        exact .nil
      | cons p xs =>
        obtain ⟨k, d⟩ := p
        obtain ⟨v, vs', rfl, dx, dxs⟩ := hx
        cases r1 with
        | cons ra ras =>
          rename_i u1 us1'
          obtain ⟨k1, u1⟩ := u1
          obtain ⟨ek, ru⟩ := ra
          have ek' : kyKey k = k1 := ek
          subst ek'
          have lv := look_val (k := k) hy r2
          simp only [eqKs] at h
          cases el : lookK k ys with
          | none =>
            rw [el] at h lv
            cases h
            exact .miss lv
          | some d2 =>
            rw [el] at h lv
            obtain ⟨v2, u2, ev, dv2, ru2⟩ := lv
            simp only at h
            cases e1 : eqD S n d d2 with
            | none => rw [e1] at h; cases h
            | some q1 =>
              cases e2 : eqKs S n xs ys with
              | none => rw [e1, e2] at h; cases h
              | some q2 =>
                rw [e1, e2] at h
                cases h
                exact .hit ev ((ih1 d d2 q1 v v2 _ _ e1 dx dv2 ru ru2 A (by omega)).2.1.inModel _ _) (ih3 xs ys q2 vs' ws _ _ e2 dxs hy ras r2 A (by omega))
theorem eqT_snd (I : Inv X pins σ H s) (r : Rel g.toGd ρ S H) (hK : X.K = g.K) (hs : ∀ (i : Nat) (a : Addr), ρ[i]? = some a → ∃ o : Ob, S[i]? = some o) {x y : D} {b : Bool} {vx vy : V} {u1 u2 : Value} (h : eqT S x y = some b) (hx : DV g.toGd ρ H x vx) (hy : DV g.toGd ρ H y vy)
    (r1 : RelV vx u1) (r2 : RelV vy u2) (hu : X.A.units + 110 < cLine) : RcIn X.prog X.w X.A s u1 u2 b := by
  have gen : eqD S deep x y = some b → RcIn X.prog X.w X.A s u1 u2 b := fun h => .of ((eq_snd I r hK hs deep).1 x y b vx vy u1 u2 h hx hy r1 r2 X.A (by show X.A.units + 100 + 2 < cLine; omega)).1
  cases x with
  | obj i =>
    cases y with
    | obj j =>
      simp only [eqT] at h
      cases ei : S[i]? with
      | none => rw [ei] at h; exact gen h
      | some o1 =>
        cases ej : S[j]? with
        | none => rw [ei, ej] at h; cases o1 <;> exact gen h
        | some o2 =>
          rw [ei, ej] at h
          cases o1 with
          | lst _ _ => exact gen h
          | ins _ _ => exact gen h
          | dct kvs lk =>
            cases o2 with
            | lst _ _ => exact gen h
            | ins _ _ => exact gen h
            | dct kvs2 lk2 =>
              by_cases hij : i = j
              · simp only [hij, if_true] at h; cases h
              · simp only [if_neg hij] at h
                obtain ⟨a, vs, us, rfl, rfl, q1, kv1, kw1, n1, d1⟩ := dct_read I r hx r1 ei
                obtain ⟨a2, vs2, us2, rfl, rfl, q2, kv2, kw2, n2, d2⟩ := dct_read I r hy r2 ej
                have l1 : kvs.length = us.length := (kv_len kv1).trans (paired_len kw1)
                have l2 : kvs2.length = us2.length := (kv_len kv2).trans (paired_len kw2)
                intro E Q q
                by_cases hl : kvs.length = kvs2.length
                · rw [if_pos hl] at h
                  refine PySem.W.keq_eqIn (r := b) n1 n2 d1 d2 (by omega) (fun _ => (eq_snd I r hK hs deep).2.2 kvs kvs2 b vs vs2 us us2 h kv1 kv2 kw1 kw2 X.A.in1 (by show X.A.units + 1 + 100 + 2 < cLine; omega)) ?_
                  rw [← l1, ← l2, hl]
                  simpa using q
                · rw [if_neg hl] at h
                  cases h
                  refine PySem.W.keq_eqIn (r := true) n1 n2 d1 d2 (by omega) (fun z => absurd (l1.trans (z.trans l2.symm)) hl) ?_
                  rw [← l1, ← l2]
                  have : (kvs.length == kvs2.length) = false := beq_eq_false_iff_ne.mpr hl
                  rw [this]
                  exact q
    | _ => exact gen h
  | _ => exact gen h
end
end LA

/-! Soundness: comparisons, tests. -/
namespace LA
open PySem PySem.Spec PyProof.Rows L2
open PySem.SeqAt (EqAt RcAt RcNeAt EqIn)
/-- what a def promises: the interpreter's answer -/
def spI (g : GdX) (cl : Nat → List D → M D) (f np : Nat) : Sp := fun vs H Q E => ∃ ρ S ds, Rel g.toGd ρ S H ∧ DVs g.toGd ρ H ds vs ∧ ds.length = np ∧
  MPost (cl f ds S) (fun d S' => PostV g ρ H d S' Q) (fun c fs S' => PostX g ρ H c fs S' E)
/-- the defs keep their promises at a level -/
structure Lvl (g : GdX) (k : Nat) (cl : Nat → List D → M D) : Prop where
  fn : ∀ (f : Nat) (a : Addr), g.fnA[f]? = some a → ∃ fd ps, FnOk g.P g.w g.K g.mg g.base (L2.CX g.P g.w) k a fd ps (spI g cl f ps.length) ∧ Binds g.K fd ps [] ∧ ∀ fi, g.pg.fns[f]? = some fi → fi.np = ps.length
  np : ∀ (f : Nat) (ds : List D) (S : Sto) (r : R D × Sto), cl f ds S = some r → ∃ fi, g.pg.fns[f]? = some fi ∧ ds.length = fi.np
/-- what the text says of a class -/
structure ClF (g : GdX) (C : Addr) (ci : ClI) : Prop where
  cl : Cls g.K C
  no : ∀ a n, a ∈ ci.flds → g.an[a]? = some n → NoAttr g.K C n
  me : ∀ m f n, lookA m ci.meths = some f → g.an[m]? = some n → ∃ fa, g.fnA[f]? = some fa ∧ Meth g.K C n fa
  pr : ∀ m f n, lookA m ci.props = some f → g.an[m]? = some n → ∃ fa p, g.fnA[f]? = some fa ∧ PropOf g.K C n p fa
  mkr : ∀ f, ci.init = some f → ∃ fa, g.fnA[f]? = some fa ∧ Mk g.K C fa
  eq : ∀ f, ci.eqf = some f → ∃ fa, g.fnA[f]? = some fa ∧ PySem.W.findIn g.K (.ref C) "__eq__" = some (some (.ref fa)) ∧ PySem.W.isFn g.K (.ref fa) = true ∧
    PySem.W.notFirst g.K C (.type "list") = true ∧ PySem.W.notFirst g.K C (.type "dict") = true ∧ ∀ C' ∈ g.clA, PySem.W.notFirst g.K C (.ref C') = true
def primTy : List String := ["NoneType", "bool", "int", "str", "list", "tuple", "dict"]
/-- what the classes say of isinstance -/
structure IsiF (g : GdX) : Prop where
  pp : ∀ T ∈ primTy, ∀ T' ∈ primTy, PySem.W.kitOne g.K (.type T) (.type T') = some (decide (T = T') || (decide (T = "bool") && decide (T' = "int")))
  pc : ∀ T ∈ primTy, ∀ (i : Nat) (C : Addr) (ci : ClI), g.clA[i]? = some C → g.pg.cls[i]? = some ci → PySem.W.kitOne g.K (.type T) (.ref C) = some false
  cp : ∀ T ∈ primTy, ∀ (i : Nat) (C : Addr) (ci : ClI), g.clA[i]? = some C → g.pg.cls[i]? = some ci → PySem.W.kitOne g.K (.ref C) (.type T) = some false
  cc : ∀ (i j : Nat) (C C' : Addr) (ci : ClI), g.clA[i]? = some C → g.pg.cls[i]? = some ci → g.clA[j]? = some C' → PySem.W.kitOne g.K (.ref C) (.ref C') = some (ci.up.contains j)
  ins : ∀ (i : Nat) (C : Addr) (ci : ClI), g.clA[i]? = some C → g.pg.cls[i]? = some ci → PySem.W.findIn g.K (.ref C) "__class__" = some (some (.builtin "object.__class__")) ∧
    PySem.W.specialIn g.K (.builtin "object.__class__") "__get__" = some (some (.builtin "getset_descriptor.__get__")) ∧ PySem.W.takesIn g.K (.builtin "object.__class__") = some true ∧ PySem.W.mroIn g.K C (.type "object") = some true
/-- an exception class of the program's own that is made with arguments; m: its fields by them -/
def ExcOk (g : GdX) (cc : Nat) (C : Addr) (m : Nat × List (Nat × Nat)) : Prop :=
  ∀ (X : Cx) (pins : List (Addr × Obj)) (s : Shared) (σ : L2.St) (H : Hp) (us : List Value) (vs : List V) (ds : List D) (ρ : List Addr) (S : Sto) (fs : List (Nat × D)) (Q : XK), X.prog = g.P → X.w = g.w → X.K = g.K → X.mg = g.mg → X.base = g.base → Room 3 X.A → X.calm = true →
    Inv X pins σ H s → Vals vs us → Rel g.toGd ρ S H → DVs g.toGd ρ H ds vs → exFs ds m = some fs → (∀ ρ1 H1 dd, ρ <+: ρ1 → TupK g.toGd H H1 → Rel g.toGd ρ1 S H1 → XV g ρ1 H1 cc fs (.ref C) dd → Q (.ref C) dd H1) →
    wpAny (model X.prog X.w) X.A (PySem.call (.ref C) us) (MkP X pins σ Q) X.xe s
/-- such a def, called with the exception that a suite holds -/
def KinF (g : GdX) (fa : Addr) (ks : List (Option Nat)) : Prop :=
  ∀ (X : Cx) (a : Addr) (oe : Obj) (dd : Option Addr) (pn pins : List (Addr × Obj)) (s : Shared) (σ : L2.St) (H : Hp) (cc : Nat) (C : Addr) (ci : ExI) (Q : VK), X.prog = g.P → X.w = g.w → X.K = g.K → X.mg = g.mg → X.base = g.base → Room 3 X.A →
    Inv (X.suite a ((a, oe) :: pn)) pins σ H s → Zc (.ref C) dd oe → (∃ vs, oe.data = .fields vs) → (∀ dx, dd = some dx → ∃ vs, H dx = some (.xd vs)) → g.exA[cc]? = some C → g.pg.exs[cc]? = some ci →
    (∀ (H2 : Hp) (p : Addr), (∀ b u, H b = some u → H2 b = some u) → H2 p = none → Q (.ref p) (upd H2 p (.lst (ks.map fun k => V.bl (match k with | some j => ci.up.contains j | none => true))))) →
    wpAny (model X.prog X.w) (X.suite a ((a, oe) :: pn)).A (PySem.call (.ref fa) [.ref a]) (EP (X.suite a ((a, oe) :: pn)) pins σ Q) (X.suite a ((a, oe) :: pn)).xe s
/-- what the head tells for it -/
structure KinG (g : GdX) : Prop where
  ec : ∀ (i : Nat) (C : Addr), g.exA[i]? = some C → ExcC g.K C
  kk : ∀ (i j : Nat) (C C' : Addr) (ci : ExI), g.exA[i]? = some C → g.pg.exs[i]? = some ci → g.exA[j]? = some C' → PySem.W.kitOne g.K (.ref C) (.ref C') = some (ci.up.contains j)
  kv : ∀ (i : Nat) (C : Addr), g.exA[i]? = some C → PySem.W.kitOne g.K (.ref C) (.type "ValueError") = some true
  ve : g.mg "ValueError" = none
  is : g.mg "isinstance" = none
  exc : ∀ x i, g.gl.lookup x = some (.exc i) → ∃ C, g.exA[i]? = some C ∧ g.mg x = some (.ref C) ∧ PySem.W.keepIn g.K (.ref C) = true
structure Facts (g : GdX) : Prop where
  kg : g.pg.sx = true → KinG g
  xf : g.pg.sx = true → ∀ (cc a : Nat) (C : Addr) (nm : Str), g.exA[cc]? = some C → fldOk g.pg cc a = true → g.an[a]? = some nm → PySem.W.findIn g.K (.ref C) nm = some none
  kin : ∀ (f : Nat) (ks : List (Option Nat)) (fa : Addr), lookA f g.pg.kin = some ks → g.fnA[f]? = some fa → KinF g fa ks
  exm2 : ∀ (i j : Nat) (C C' : Addr) (ci : ExI), g.exA[i]? = some C → g.pg.exs[i]? = some ci → g.exA[j]? = some C' → PySem.W.exmOne g.K (.ref C) (.ref C') = some (ci.up.contains j)
  isi : IsiF g
  con : ∀ x d, g.gl.lookup x = some (.con d) → ∃ v u, g.mg x = some u ∧ RelV v u ∧ ∀ ρ H, DV g.toGd ρ H d v
  fn : ∀ x i, g.gl.lookup x = some (.fn i) → ∃ a, g.fnA[i]? = some a ∧ g.mg x = some (.ref a) ∧ PySem.W.keepIn g.K (.ref a) = true
  cls : ∀ x i, g.gl.lookup x = some (.cls i) → ∃ C, g.clA[i]? = some C ∧ g.mg x = some (.ref C)
  cll : ∀ (i : Nat) (ci : ClI), g.pg.cls[i]? = some ci → ∃ C : Addr, g.clA[i]? = some C
  clf : ∀ (i : Nat) (C : Addr) (ci : ClI), g.clA[i]? = some C → g.pg.cls[i]? = some ci → ClF g C ci
  kpc : ∀ x i C, g.gl.lookup x = some (.cls i) → g.clA[i]? = some C → PySem.W.keepIn g.K (.ref C) = true
  cle : ∀ x i, g.gl.lookup x = some (.cls i) → ∃ ci, g.pg.cls[i]? = some ci
  exc : ∀ x i, g.gl.lookup x = some (.exc i) → ∃ C, g.exA[i]? = some C ∧ g.mg x = some (.ref C) ∧ PySem.W.keepIn g.K (.ref C) = true
  exm : ∀ (i : Nat) (C : Addr) (ci : ExI) m, g.exA[i]? = some C → g.pg.exs[i]? = some ci → ci.exf = some m → ExcOk g i C m
  anNd : g.an.Nodup
  free : ∀ x, x ∈ (["isinstance", "len", "list", "tuple", "dict", "sorted", "all", "max", "min", "int", "str", "bool", "range", "enumerate", "zip"] : List Str) → g.mg x = none
/-- all that a body stands on -/
structure Cxt (g : GdX) (k : Nat) (cl : Nat → List D → M D) (W : WX) (c : Cc) (X : Cx) : Prop extends Gk g k c X where
  fac : Facts g
  lvl : Lvl g k cl
  tk : Takes X W
def Op2 (X : Cx) (f : Value → Value → Sem Value) (r : L2.St → R2) : Prop :=
  ∀ (pins : List (Addr × Obj)) (s : Shared) (σ : L2.St) (H : Hp) (x y : V) (v u : Value) (Q : VK), Inv X pins σ H s → RelV x v → RelV y u → r σ x y H Q →
    wpAny (model X.prog X.w) X.A (f v u) (EP X pins σ Q) X.xe s
theorem Op2.of {X : Cx} {f : Value → Value → Sem Value} {r : R2} (h : OpR X f r) : Op2 X f (fun _ => r) := fun pins s σ H x y v u Q I rx ry q => h pins s σ H x y v u Q I rx ry q
section
variable {g : GdX} {cl : Nat → List D → M D} {W : WX} {k : Nat} {c : Cc} {X : Cx}
theorem Rel.has {ρ : List Addr} {S : Sto} {H : Hp} (r : Rel g.toGd ρ S H) : ∀ (i : Nat) (a : Addr), ρ[i]? = some a → ∃ o : Ob, S[i]? = some o := fun i a h => by
  have hi := (List.getElem?_eq_some_iff.mp h).1
  rw [r.len] at hi
  exact ⟨S[i], List.getElem?_eq_getElem hi⟩
/-- a def called by its value -/
theorem own_call (G : Cxt g k cl W c X) {f : Nat} {fa : Addr} (hf : g.fnA[f]? = some fa) {pins : List (Addr × Obj)} {s : Shared} {σ : L2.St} {H : Hp} {us : List Value} {vs : List V} {ds : List D} {ρ : List Addr} {S : Sto} {Q : VK}
    (I : Inv X pins σ H s) (rv : Vals vs us) (r : Rel g.toGd ρ S H) (dv : DVs g.toGd ρ H ds vs)
    (q : MPost (cl f ds S) (fun d S' => PostV g ρ H d S' Q) (fun c fs S' => PostX g ρ H c fs S' fun cls dd H' => W cls dd σ H')) :
    wpAny (model X.prog X.w) X.A (PySem.call (.ref fa) us) (EP X pins σ Q) X.xe s := by
  obtain ⟨fd, ps, F, B, L⟩ := G.lvl.fn f fa hf
  have hl : ds.length = ps.length := by
    cases e : cl f ds S with
    | none => rw [e] at q; exact q.elim
    | some r =>
      obtain ⟨fi, h1, h2⟩ := G.lvl.np f ds S r e
      rw [h2, L fi h1]
  have F' : FnOk X.prog X.w X.K X.mg X.base (L2.CX X.prog X.w) k fa fd ps (spI g cl f ps.length) := by rw [G.prog, G.w, G.K, G.mg, G.base]; exact F
  exact run_fnS (E := fun σ cls d H => W cls d σ H) F' G.room (by rw [G.K]; exact B) (passAt G.tk σ) I rv ⟨ρ, S, ds, r, dv, hl, q⟩
def rCmp (g : GdX) (cl : Nat → List D → M D) (W : WX) (o : CO) : L2.St → R2 := fun σ x y H Q => ∃ ρ S dx dy, Rel g.toGd ρ S H ∧ DV g.toGd ρ H dx x ∧ DV g.toGd ρ H dy y ∧
  MPost (cmpD g.pg cl o dx dy S) (fun d S' => PostV g ρ H d S' Q) (fun c fs S' => PostX g ρ H c fs S' fun cls dd H' => W cls dd σ H')
theorem ltL_lt : ∀ (x y : List Nat), ltL x y = decide (x < y)
  | [], [] => by simp [ltL]
  | [], _ :: _ => by simp [ltL]
  | _ :: _, [] => by simp [ltL]
  | x :: xs, y :: ys => by
    unfold ltL
    by_cases h : x = y
    · subst h
      rw [if_pos rfl, ltL_lt xs ys]
      simp
    · rw [if_neg h]
      by_cases h2 : x < y
      · rw [decide_eq_true h2, decide_eq_true (List.cons_lt_cons_iff.mpr (.inl h2))]
      · rw [decide_eq_false h2, decide_eq_false fun z => ?_]
        rcases List.cons_lt_cons_iff.mp z with q | q
        · exact h2 q
        · exact h q.1
theorem ltS (i j : List Nat) : ltL i j = decide ((toStr i).cps.toList < (toStr j).cps.toList) := by
  rw [ltL_lt]
  exact decide_eq_decide.mpr (by simp [toStr])
theorem fin_v {pins : List (Addr × Obj)} {s : Shared} {σ : L2.St} {H : Hp} {Q : VK} {b : Bool} (I : Inv X pins σ H s) (q : Q (.bl b) H) : EP X pins σ Q (.bool b) s := ⟨.bl b, H, I, rfl, q⟩
/-- an int or text comparison by its rules -/
theorem op2_ord (hI : ∀ i j b, cmpI o i j = some b → ∀ pins s σ H t u Q, Inv X pins σ H s → Q (.bl b) H → wpAny (model X.prog X.w) X.A (compareOp op (.int i t) (.int j u)) (EP X pins σ Q) X.xe s)
    (hS : ∀ i j b, cmpS o i j = some b → ∀ pins s σ H t u Q, Inv X pins σ H s → Q (.bl b) H → wpAny (model X.prog X.w) X.A (compareOp op (.str (toStr i) t) (.str (toStr j) u)) (EP X pins σ Q) X.xe s)
    (ho : ∀ dx dy S, cmpD g.pg cl o dx dy S = match dx, dy with
      | .int i, .int j => (match cmpI o i j with | some r => some (.ok (.bl r), S) | none => none)
      | .str x, .str y => (match cmpS o x y with | some r => some (.ok (.bl r), S) | none => none)
      | _, _ => none) : Op2 X (compareOp op) (rCmp g cl W o) := by
  rintro pins s σ H x y v u Q I rx ry ⟨ρ, S, dx, dy, r, hx, hy, q⟩
  rw [ho] at q
  cases dx <;> cases dy <;> first | exact q.elim | skip
  · rename_i i j
    cases int_dv hx
    cases int_dv hy
    obtain ⟨t, rfl⟩ := rx
    obtain ⟨t', rfl⟩ := ry
    simp only at q
    cases e : cmpI o i j with
    | none => rw [e] at q; exact q.elim
    | some b => rw [e] at q; exact hI i j b e pins s σ H t t' Q I (post_here q r dv_bl)
  · rename_i i j
    cases str_dv hx
    cases str_dv hy
    obtain ⟨t, rfl⟩ := rx
    obtain ⟨t', rfl⟩ := ry
    simp only at q
    cases e : cmpS o i j with
    | none => rw [e] at q; exact q.elim
    | some b => rw [e] at q; exact hS i j b e pins s σ H t t' Q I (post_here q r dv_bl)
theorem op2_lt : Op2 X (compareOp .Lt) (rCmp g cl W .lt) := by
  refine op2_ord (fun i j b e pins s σ H t u Q I q => ?_) (fun i j b e pins s σ H t u Q I q => ?_) fun dx dy S => by unfold cmpD; rfl
  · cases e; exact op_lt pins s σ H (.int i) (.int j) _ _ Q I ⟨_, rfl⟩ ⟨_, rfl⟩ ⟨_, _, rfl, rfl, q⟩
  · cases e
    refine op_lt_str pins s σ H (.str (toStr i)) (.str (toStr j)) _ _ Q I ⟨_, rfl⟩ ⟨_, rfl⟩ ⟨_, _, rfl, rfl, ?_⟩
    rw [← ltS]
    exact q
theorem op2_le : Op2 X (compareOp .LtE) (rCmp g cl W .le) := by
  refine op2_ord (fun i j b e pins s σ H t u Q I q => ?_) (fun i j b e pins s σ H t u Q I q => ?_) fun dx dy S => by unfold cmpD; rfl
  · cases e; exact op_le pins s σ H (.int i) (.int j) _ _ Q I ⟨_, rfl⟩ ⟨_, rfl⟩ ⟨_, _, rfl, rfl, q⟩
  · cases e
    refine op_le_str pins s σ H (.str (toStr i)) (.str (toStr j)) _ _ Q I ⟨_, rfl⟩ ⟨_, rfl⟩ ⟨_, _, rfl, rfl, ?_⟩
    rw [← ltS]
    exact q
theorem op2_gt : Op2 X (compareOp .Gt) (rCmp g cl W .gt) := by
  refine op2_ord (fun i j b e pins s σ H t u Q I q => ?_) (fun i j b e pins s σ H t u Q I q => ?_) fun dx dy S => by unfold cmpD; rfl
  · cases e; exact op_gt pins s σ H (.int i) (.int j) _ _ Q I ⟨_, rfl⟩ ⟨_, rfl⟩ ⟨_, _, rfl, rfl, q⟩
  · cases e
theorem op2_ge : Op2 X (compareOp .GtE) (rCmp g cl W .ge) := by
  refine op2_ord (fun i j b e pins s σ H t u Q I q => ?_) (fun i j b e pins s σ H t u Q I q => ?_) fun dx dy S => by unfold cmpD; rfl
  · cases e; exact op_ge pins s σ H (.int i) (.int j) _ _ Q I ⟨_, rfl⟩ ⟨_, rfl⟩ ⟨_, _, rfl, rfl, q⟩
  · cases e
theorem non_iff {ρ : List Addr} {H : Hp} {d : D} {v : V} (h : DV g.toGd ρ H d v) : decide (v = .non) = isNonD d := by
  cases d with
  | non => cases non_dv h; rfl
  | bl _ => cases bl_dv h; rfl
  | int _ => cases int_dv h; rfl
  | str _ => cases str_dv h; rfl
  | tup _ => obtain ⟨_, _, rfl, _⟩ := tup_dv h; rfl
  | obj _ => obtain ⟨_, rfl, _⟩ := obj_dv h; rfl
theorem op2_is : Op2 X (compareOp .Is) (rCmp g cl W .isN) := by
  rintro pins s σ H x y v u Q I rx ry ⟨ρ, S, dx, dy, r, hx, hy, q⟩
  unfold cmpD at q
  cases dy <;> first | exact q.elim | skip
  refine op_isN pins s σ H x y v u Q I rx ry ⟨non_dv hy, ?_⟩
  rw [non_iff hx]
  exact post_here q r dv_bl
theorem op2_isnot : Op2 X (compareOp .IsNot) (rCmp g cl W .notN) := by
  rintro pins s σ H x y v u Q I rx ry ⟨ρ, S, dx, dy, r, hx, hy, q⟩
  unfold cmpD at q
  cases dy <;> first | exact q.elim | skip
  refine op_notN pins s σ H x y v u Q I rx ry ⟨non_dv hy, ?_⟩
  rw [non_iff hx]
  exact post_here q r dv_bl
end
end LA

/-! Soundness: ==, !=, in; comparisons as expressions and tests; and, or, not, if. -/
namespace LA
open PySem PySem.Spec PyProof.Rows L2
open PySem.SeqAt (EqAt RcAt RcNeAt EqIn)
section
variable {g : GdX} {cl : Nat → List D → M D} {W : WX} {k : Nat} {c : Cc} {X : Cx}
theorem Cxt.hu (G : Cxt g k cl W c X) : X.A.units + 110 < cLine := by have := G.room.un; omega
theorem ins_at {ρ : List Addr} {H : Hp} {S : Sto} {i c : Nat} {v : V} {fs : List (Nat × D)} (r : Rel g.toGd ρ S H) (h : DV g.toGd ρ H (.obj i) v) (e : S[i]? = some (.ins c fs)) :
    ∃ a C dx vs, v = .ref a ∧ ρ[i]? = some a ∧ g.clA[c]? = some C ∧ FVs g.toGd ρ H fs vs ∧ H a = some (.ins C dx vs) := by
  obtain ⟨a, rfl, q⟩ := obj_dv h
  obtain ⟨C, dx, vs, h1, h2, h3⟩ := r.ob i _ a e q
  exact ⟨a, C, dx, vs, rfl, q, h1, h2, h3⟩
theorem ownF_inv {sel : ClI → Option Nat} {d : D} {S : Sto} {f : Nat} (h : ownF g.pg sel d S = some f) : ∃ i c fs ci, d = .obj i ∧ S[i]? = some (.ins c fs) ∧ g.pg.cls[c]? = some ci ∧ sel ci = some f := by
  unfold ownF at h
  cases d with
  | obj i =>
    simp only [clsOf] at h
    cases e : S[i]? with
    | none => rw [e] at h; cases h
    | some o =>
      rw [e] at h
      cases o with
      | lst _ _ => cases h
      | dct _ _ => cases h
      | ins c fs =>
        simp only at h
        cases e2 : g.pg.cls[c]? with
        | none => rw [e2] at h; cases h
        | some ci => rw [e2] at h; exact ⟨i, c, fs, ci, rfl, e, e2, h⟩
  | _ => cases h
theorem op2_eq (G : Cxt g k cl W c X) : Op2 X (compareOp .Eq) (rCmp g cl W .eq) := by
  rintro pins s σ H x y v u Q I rx ry ⟨ρ, S, dx, dy, r, hx, hy, q⟩
  unfold cmpD at q
  simp only at q
  cases eo : ownF g.pg (·.eqf) dx S with
  | none =>
    rw [eo] at q
    simp only at q
    cases e : eqT S dx dy with
    | none => rw [e] at q; exact q.elim
    | some b =>
      rw [e] at q
      exact eqT_snd I r G.K r.has e hx hy rx ry G.hu _ _ (fin_v I (post_here q r dv_bl))
  | some f =>
    rw [eo] at q
    obtain ⟨i, cc, fs, ci, rfl, ei, ec, ef⟩ := ownF_inv eo
    cases dy <;> first | exact q.elim | skip
    rename_i j
    obtain ⟨a, C, ddx, vs, rfl, _, hC, _, hH⟩ := ins_at r hx ei
    obtain ⟨fa, h1, h2, h3, n1, n2, n3⟩ := (G.fac.clf cc C ci hC ec).eq f ef
    cases rx
    obtain ⟨mA, J, _⟩ := ins_get I.hok hH
    obtain ⟨od, J, _⟩ := J.look
    obtain ⟨m, hF⟩ := I.fr
    -- the right side's type
    obtain ⟨b, tb, rfl, hb, hn⟩ : ∃ b tb, u = .ref b ∧ PySem.W.Looks (model X.prog X.w) s.heap (typeOf (.ref b)) tb ∧ PySem.W.notFirst X.K C tb = true := by
      obtain ⟨b, rfl, hj⟩ := obj_dv hy
      obtain ⟨o, ho⟩ := r.has j b hj
      cases ry
      have lk : ∀ (ob : Obj), s.heap.get? b = some ob → PySem.W.Looks (model X.prog X.w) s.heap (typeOf (.ref b)) ob.cls := fun ob e A Q E s' k q => wpAny_typeOf_ref (k _ _ e) q
      rw [G.K]
      cases o with
      | lst xs lk' =>
        obtain ⟨a2, vs2, its, e2, _, _, _, _, ⟨ob, g1, g2, _⟩, _⟩ := lst_read I r hy rfl ho
        cases e2
        exact ⟨_, _, rfl, lk ob g1, by rw [g2]; exact n1⟩
      | dct kvs lk' =>
        obtain ⟨a2, vs2, us, e2, _, _, _, _, _, d⟩ := dct_read I r hy rfl ho
        cases e2
        obtain ⟨ob, g1, g2⟩ := d.typeIs
        exact ⟨_, _, rfl, lk ob g1, by rw [g2]; exact n2⟩
      | ins c2 fs2 =>
        obtain ⟨a2, C2, dx2, vs2, e2, _, hC2, _, hH2⟩ := ins_at r hy ho
        cases e2
        obtain ⟨_, _, _, g1, _⟩ := I.hok _ _ hH2
        exact ⟨_, _, rfl, lk _ g1, n3 C2 (List.mem_of_getElem? hC2)⟩
    refine PySem.W.cmp_K (op := .Eq) (tb := tb) G.room.units0 hF I.ok.mod.kin J hb hn (by rw [G.K]; exact h2) (by rw [G.K]; exact h3) ?_
    have q' := MPost.bind q
    refine wpAny_mono (own_call G h1 (vs := [.ref a, y]) I (.cons rfl (.cons ry .nil)) r (.cons hx (.cons hy .nil)) (Q := fun v H' => ∃ b, v = .bl b ∧ Q (.bl b) H') (q'.imp (fun d S' z => ?_) fun _ _ _ z => z)) (fun z s' hz => ?_) fun _ _ z => z
    · cases d <;> first | exact z.elim | skip
      rename_i b'
      intro ρ' H' v' a1 a2 a3 a4
      exact ⟨b', bl_dv a4, z ρ' H' _ a1 a2 a3 dv_bl⟩
    · obtain ⟨v', H', I', rv', b', e', q2⟩ := hz
      subst e'
      cases rv'
      exact ⟨.bl b', H', I', rfl, q2⟩
theorem op2_ne (G : Cxt g k cl W c X) : Op2 X (compareOp .NotEq) (rCmp g cl W .ne) := by
  rintro pins s σ H x y v u Q I rx ry ⟨ρ, S, dx, dy, r, hx, hy, q⟩
  unfold cmpD at q
  simp only at q
  cases eo : ownF g.pg (·.eqf) dx S with
  | some f => rw [eo] at q; exact q.elim
  | none =>
    rw [eo] at q
    simp only at q
    cases e : eqD S deep dx dy with
    | none => rw [e] at q; exact q.elim
    | some b =>
      rw [e] at q
      have hu := G.hu
      exact ((eq_snd I r G.K r.has deep).1 dx dy b x y v u e hx hy rx ry X.A (by show X.A.units + 100 + 2 < cLine; omega)).2.2 X.prog X.w X.xe _ (fin_v I (post_here q r dv_bl))
/-! ### in -/
/-- the answers of the items, as a function of the values -/
theorem in_items {pins : List (Addr × Obj)} {σ : L2.St} {H : Hp} {s : Shared} {ρ : List Addr} {S : Sto} (I : Inv X pins σ H s) (r : Rel g.toGd ρ S H) (hK : X.K = g.K) {x : D} {vx : V} {ux : Value} (hx : DV g.toGd ρ H x vx) (rx : RelV vx ux) (A : Around) (hu : A.units + deep + 2 < cLine) :
    ∀ {ys : List D} {vs : List V} {us : List Value} {b : Bool}, DVs g.toGd ρ H ys vs → Vals vs us → inSeq S x ys = some b →
      ∃ e : Value → Bool, (∀ u ∈ us, EqAt A s u ux (e u)) ∧ us.any e = b ∧ ∀ u, e u = true → ∃ d v, d ∈ ys ∧ DV g.toGd ρ H d v ∧ RelV v u ∧ eqD S deep d x = some true
  | [], vs, us, b, h, q, e => by
    cases h.nil_inv
    cases q
    cases e
    exact ⟨fun _ => false, fun _ h => absurd h (by simp), rfl, fun _ h => nomatch h⟩
  | y :: ys, vs, us, b, h, q, e => by
    obtain ⟨v, vs', rfl, dy, dys⟩ := h.cons_inv
    cases q with
    | cons ry rys =>
      rename_i u us'
      unfold inSeq at e
      cases e1 : eqD S deep y x with
      | none => rw [e1] at e; cases e
      | some b1 =>
        cases e2 : inSeq S x ys with
        | none => rw [e1, e2] at e; cases e
        | some b2 =>
          rw [e1, e2] at e
          cases e
          obtain ⟨f, hf, h2, h3⟩ := in_items I r hK hx rx A hu dys rys e2
          have hq := ((eq_snd I r hK r.has deep).1 y x b1 v vx u ux e1 dy hx ry rx A hu).2.1
          refine ⟨fun z => if z = u then b1 else f z, fun z hz => ?_, ?_, fun z hz => ?_⟩
          · by_cases hzu : z = u
            · subst hzu; simp only [if_true]; exact hq
            · simp only [if_neg hzu]
              rcases List.mem_cons.mp hz with rfl | hz
              · exact absurd rfl hzu
              · exact hf z hz
          · rw [List.any_cons]
            simp only [if_true]
            have : us'.any (fun z => if z = u then b1 else f z) = true → (b1 || b2) = true := by
              intro ht
              obtain ⟨z, hz, hzt⟩ := List.any_eq_true.mp ht
              by_cases hzu : z = u
              · subst hzu; simp only [if_true] at hzt; simp [hzt]
              · simp only [if_neg hzu] at hzt
                have : us'.any f = true := List.any_eq_true.mpr ⟨z, hz, hzt⟩
                rw [h2] at this
                simp [this]
            cases b1 with
            | true => rfl
            | false =>
              simp only [Bool.false_or] at this ⊢
              cases b2 with
              | false =>
                cases e3 : us'.any (fun z => if z = u then false else f z) with
                | false => rfl
                | true => exact absurd (this e3) (by simp)
              | true =>
                obtain ⟨z, hz, hzt⟩ := List.any_eq_true.mp h2
                refine List.any_eq_true.mpr ⟨z, hz, ?_⟩
                by_cases hzu : z = u
                · subst hzu
                  obtain ⟨d, w, hd, dw, rw', ed⟩ := h3 z hzt
                  have ew : w = v := rw'.inj ry
                  subst ew
                  have := DV.same I r hK r.has dw dy
                  subst this
                  rw [e1] at ed
                  cases ed
                · simp only [if_neg hzu]; exact hzt
          · by_cases hzu : z = u
            · subst hzu
              simp only [if_true] at hz
              subst hz
              exact ⟨y, v, List.mem_cons_self, dy, ry, e1⟩
            · simp only [if_neg hzu] at hz
              obtain ⟨d, w, hd, rest⟩ := h3 z hz
              exact ⟨d, w, List.mem_cons_of_mem _ hd, rest⟩
theorem toKy_dv {ρ : List Addr} {H : Hp} {d : D} {v : V} {ky : Ky} (h : DV g.toGd ρ H d v) (e : toKy d = some ky) : v = kV (kyKey ky) := by
  cases d with
  | int i => cases int_dv h; cases e; rfl
  | str x => cases str_dv h; cases e; rfl
  | _ => cases e
theorem look_valV {G : Gd} {ρ : List Addr} {H : Hp} {ky : Ky} : ∀ {kvs : List (Ky × D)} {vs : List (Key × V)}, KVs G ρ H kvs vs →
    match lookK ky kvs with
    | none => valV vs (kyKey ky) = none
    | some d => ∃ v, valV vs (kyKey ky) = some v ∧ DV G ρ H d v
  | [], vs, h => by
    have e : vs = [] := h
    subst e
    rfl
  | (j, d) :: r, vs, h => by
    obtain ⟨v, ws, rfl, dv, hr⟩ := h
    have ih := look_valV (ky := ky) hr
    unfold lookK
    by_cases hk : ky = j
    · subst hk
      rw [if_pos rfl]
      exact ⟨v, by simp [valV], dv⟩
    · rw [if_neg hk]
      have hne : ¬ (kyKey j = kyKey ky) := fun z => hk (kyKey_inj z).symm
      have ev : valV ((kyKey j, v) :: ws) (kyKey ky) = valV ws (kyKey ky) := by
        simp [valV, hne]
      rw [ev]
      exact ih
theorem dct_rd {ρ : List Addr} {H : Hp} {S : Sto} {i : Nat} {v : V} {xs : List (Ky × D)} {lk : Bool} (r : Rel g.toGd ρ S H) (hx : DV g.toGd ρ H (.obj i) v) (e : S[i]? = some (.dct xs lk)) :
    ∃ a vs, v = .ref a ∧ ρ[i]? = some a ∧ KVs g.toGd ρ H xs vs ∧ Rd H a (.dK vs) := by
  obtain ⟨a, rfl, q⟩ := obj_dv hx
  obtain ⟨vs, dv, hh⟩ := r.ob i _ a e q
  refine ⟨a, vs, rfl, q, dv, ?_⟩
  cases lk with
  | true => obtain ⟨o, hh⟩ := hh; exact .inr ⟨o, hh⟩
  | false => exact .inl hh
theorem dget_of {ρ : List Addr} {H : Hp} {d : D} {y : V} {ky : Ky} {a : Addr} {kvs : List (Ky × D)} {vs : List (Key × V)} (hy : DV g.toGd ρ H d y) (e : toKy d = some ky) (rd : Rd H a (.dK vs)) (kv : KVs g.toGd ρ H kvs vs) : DGet H a y (valV vs (kyKey ky)) :=
  .inl ⟨vs, kyKey ky, rd, toKy_dv hy e, rfl⟩
/-- in, as its own function -/
def rIn2 (g : GdX) (cl : Nat → List D → M D) (neg : Bool) : R2 := fun x y H Q => ∃ ρ S dx dy, Rel g.toGd ρ S H ∧ DV g.toGd ρ H dx x ∧ DV g.toGd ρ H dy y ∧ (neg = true → ∀ z, dy ≠ .str z) ∧
  MPost (cmpD.inD dx dy S) (fun d S' => S' = S ∧ ∃ b, d = .bl b ∧ Q (.bl (if neg then !b else b)) H) (fun _ _ _ => False)
theorem op_in2 (G : Cxt g k cl W c X) (neg : Bool) : OpR X (compareOp (if neg then .NotIn else .In)) (rIn2 g cl neg) := by
  rintro pins s σ H x y v u Q I rx ry ⟨ρ, S, dx, dy, r, hx, hy, hn, q⟩
  have hu := G.hu
  have hu1 : X.A.in1.units + deep + 2 < cLine := by show X.A.units + 1 + 100 + 2 < cLine; omega
  unfold cmpD.inD at q
  cases dy with
  | non => exact q.elim
  | bl _ => exact q.elim
  | int _ => exact q.elim
  | str z =>
    cases neg with
    | true => exact absurd rfl (hn rfl z)
    | false =>
      cases dx <;> first | exact q.elim | skip
      rename_i w'
      cases w' with
      | nil => exact q.elim
      | cons ch r' =>
        cases r' with
        | cons _ _ => exact q.elim
        | nil =>
          obtain ⟨_, b, e, q⟩ := q
          cases e
          refine op_in_sign pins s σ H x y v u Q I rx ry ⟨ch, toStr z, by rw [str_dv hx]; rfl, str_dv hy, ?_⟩
          have e : decide (ch ∈ (toStr z).cps.toList) = decide (ch ∈ z) := decide_eq_decide.mpr (by simp [toStr])
          rw [e]
          exact q
  | tup ys =>
    simp only at q
    cases e : inSeq S dx ys with
    | none => rw [e] at q; exact q.elim
    | some b =>
      rw [e] at q
      obtain ⟨_, b', eb, q⟩ := q
      cases eb
      obtain ⟨a, vs, its, rfl, rfl, dv, va, ht, _⟩ := tup_read I G.K hy ry
      obtain ⟨f, h1, h2, _⟩ := in_items I r G.K hx rx X.A.in1 hu1 dv va e
      cases neg with
      | false => exact SeqAt.in_tupleAt f ht (fun z hz => h1 z (by simpa using hz)) (fin_v I (by rw [show its.toArray.any f = its.any f by simp, h2]; exact q))
      | true => exact SeqAt.notIn_tupleAt f ht (fun z hz => h1 z (by simpa using hz)) (fin_v I (by rw [show its.toArray.any f = its.any f by simp, h2]; exact q))
  | obj j =>
    simp only at q
    cases ej : S[j]? with
    | none => rw [ej] at q; exact q.elim
    | some o =>
      rw [ej] at q
      cases o with
      | ins _ _ => exact q.elim
      | lst ys lk =>
        simp only at q
        cases e : inSeq S dx ys with
        | none => rw [e] at q; exact q.elim
        | some b =>
          rw [e] at q
          obtain ⟨_, b', eb, q⟩ := q
          cases eb
          obtain ⟨a, vs, its, rfl, rfl, _, dv, va, ht, _⟩ := lst_read I r hy ry ej
          obtain ⟨f, h1, h2, _⟩ := in_items I r G.K hx rx X.A.in1 hu1 dv va e
          cases neg with
          | false => exact SeqAt.in_listAt f ht (fun z hz => h1 z (by simpa using hz)) (fin_v I (by rw [show its.toArray.any f = its.any f by simp, h2]; exact q))
          | true => exact SeqAt.notIn_listAt f ht (fun z hz => h1 z (by simpa using hz)) (fin_v I (by rw [show its.toArray.any f = its.any f by simp, h2]; exact q))
      | dct kvs lk =>
        simp only at q
        cases e : toKy dx with
        | none => rw [e] at q; exact q.elim
        | some ky =>
          rw [e] at q
          obtain ⟨_, b', eb, q⟩ := q
          cases eb
          obtain ⟨a, vs, rfl, _, kv, rd⟩ := dct_rd r hy ej
          have dg := dget_of hx e rd kv
          have lv := look_valV (ky := ky) kv
          have es : (valV vs (kyKey ky)).isSome = (lookK ky kvs).isSome := by
            cases el : lookK ky kvs with
            | none => rw [el] at lv; rw [show valV vs (kyKey ky) = none from lv]; rfl
            | some d => rw [el] at lv; obtain ⟨w', e', _⟩ := lv; rw [e']; rfl
          cases ry
          cases neg with
          | false => exact d_in (by omega) I dg rx fun s' I' => fin_v I' (by rw [es]; exact q)
          | true => exact d_notIn (by omega) I dg rx fun s' I' => fin_v I' (by rw [es]; exact q)
theorem inD_same {S : Sto} {dx dy : D} : ∀ r, cmpD.inD dx dy S = some r → r.2 = S ∧ ∃ b, r.1 = .ok (.bl b) := by
  intro r h
  unfold cmpD.inD at h
  split at h
  · split at h
    · cases h; exact ⟨rfl, _, rfl⟩
    · cases h
  · split at h
    · cases h; exact ⟨rfl, _, rfl⟩
    · cases h
  · split at h
    · split at h
      · cases h; exact ⟨rfl, _, rfl⟩
      · cases h
    · split at h
      · cases h; exact ⟨rfl, _, rfl⟩
      · cases h
    · cases h
    · cases h
  · cases h
theorem op2_in (G : Cxt g k cl W c X) : Op2 X (compareOp .In) (rCmp g cl W .in_) := by
  rintro pins s σ H x y v u Q I rx ry ⟨ρ, S, dx, dy, r, hx, hy, q⟩
  refine op_in2 G false pins s σ H x y v u Q I rx ry ⟨ρ, S, dx, dy, r, hx, hy, (fun z => nomatch z), ?_⟩
  have q' : MPost (cmpD.inD dx dy S) (fun d S' => PostV g ρ H d S' Q) (fun c fs S' => PostX g ρ H c fs S' fun cls dd H' => W cls dd σ H') := q
  cases e : cmpD.inD dx dy S with
  | none => rw [e] at q'; exact q'.elim
  | some rr =>
    obtain ⟨h1, b, h2⟩ := inD_same rr e
    rw [e] at q'
    obtain ⟨r1, S'⟩ := rr
    simp only at h1 h2
    subst h1 h2
    exact ⟨rfl, b, rfl, post_here q' r dv_bl⟩
theorem op2_nin (G : Cxt g k cl W c X) : Op2 X (compareOp .NotIn) (rCmp g cl W .nin) := by
  rintro pins s σ H x y v u Q I rx ry ⟨ρ, S, dx, dy, r, hx, hy, q⟩
  have hstr : ∀ z, dy ≠ .str z := by
    rintro z rfl
    exact q.elim
  refine op_in2 G true pins s σ H x y v u Q I rx ry ⟨ρ, S, dx, dy, r, hx, hy, fun _ => hstr, ?_⟩
  have e0 : cmpD g.pg cl .nin dx dy S = M.bind (cmpD.inD dx dy) (fun r S' => match r with
      | .bl r => some (.ok (.bl (!r)), S')
      | _ => none) S := by
    unfold cmpD
    cases dy <;> first | rfl | exact absurd rfl (hstr _)
  rw [e0] at q
  have q' := q.bind
  cases e : cmpD.inD dx dy S with
  | none => rw [e] at q'; exact q'.elim
  | some rr =>
    obtain ⟨h1, b, h2⟩ := inD_same rr e
    rw [e] at q'
    obtain ⟨r1, S'⟩ := rr
    simp only at h1 h2
    subst h1 h2
    have q2 : PostV g ρ H (.bl (!b)) S' Q := q'
    exact ⟨rfl, b, rfl, post_here q2 r dv_bl⟩
theorem op2_cmp (G : Cxt g k cl W c X) (op : CmpOp) : Op2 X (compareOp op) (rCmp g cl W (coOf op)) := by
  cases op with
  | Eq => exact op2_eq G
  | NotEq => exact op2_ne G
  | Lt => exact op2_lt
  | LtE => exact op2_le
  | Gt => exact op2_gt
  | GtE => exact op2_ge
  | Is => exact op2_is
  | IsNot => exact op2_isnot
  | In => exact op2_in G
  | NotIn => exact op2_nin G
end
end LA

/-! Soundness: comparisons as expressions and tests; and, or, not, if. -/
namespace LA
open PySem PySem.Spec PyProof.Rows L2
theorem behind_no {op : CmpOp} {b : Expr} (h : isSet b = false) : behindInMarks op b = false := by
  cases b <;> first | rfl | exact absurd h (by simp [isSet])
section
variable {g : GdX} {cl : Nat → List D → M D} {W : WX} {k : Nat} {c : Cc} {X : Cx}
theorem dv_tru {ρ : List Addr} {H : Hp} {S : Sto} {d : D} {v : V} {b : Bool} (r : Rel g.toGd ρ S H) (h : DV g.toGd ρ H d v) (e : truth S d = some b) : TruV g.K v H b := by
  cases d with
  | non => cases non_dv h; cases e; rfl
  | bl x => cases bl_dv h; cases e; rfl
  | int i =>
    cases int_dv h; cases e
    show decide (i ≠ 0) = (i != 0)
    by_cases hi : i = 0 <;> simp [hi]
  | str x =>
    cases str_dv h
    simp only [truth] at e
    by_cases hz : x.length ≤ sizeL
    · rw [if_pos hz] at e
      cases e
      refine ⟨by rw [toStr_len, ← sizeL_eq]; exact hz, ?_⟩
      rw [toStr_len]
      cases x with
      | nil => rfl
      | cons a l =>
        have : ((a :: l).length : Int) ≠ 0 := by simp only [List.length_cons]; omega
        show true = _
        exact (bne_iff_ne.mpr this).symm
    · rw [if_neg hz] at e; cases e
  | tup xs =>
    obtain ⟨a, vs, rfl, sq, dv⟩ := tup_dv h
    cases e
    exact .inr (.inl ⟨vs, sq, by have := dv.length; cases xs <;> cases vs <;> simp_all⟩)
  | obj i =>
    simp only [truth] at e
    cases ei : S[i]? with
    | none => rw [ei] at e; cases e
    | some o =>
      rw [ei] at e
      cases o with
      | ins _ _ => cases e
      | lst xs lk =>
        cases e
        obtain ⟨a, vs, rfl, sq, dv⟩ := DV.ref_seq r h (show seqOf S (.obj i) = some xs by simp [seqOf, ei])
        have el : (!xs.isEmpty) = !vs.isEmpty := by have := dv.length; cases xs <;> cases vs <;> simp_all
        rcases sq with sq | sq
        · exact .inr (.inl ⟨vs, sq, el⟩)
        · exact .inl ⟨vs, sq, el⟩
      | dct kvs lk =>
        cases lk with
        | true => cases e
        | false =>
          cases e
          obtain ⟨a, rfl, q⟩ := obj_dv h
          obtain ⟨vs, dv, hh⟩ := r.ob i _ a ei q
          exact .inr (.inr ⟨vs, hh, by have := kv_len dv; cases kvs <;> cases vs <;> simp_all⟩)
theorem truthM_bind {α : Type} {d : D} {f : Bool → M α} {S : Sto} {kk : α → Sto → Prop} {x : Nat → List (Nat × D) → Sto → Prop} (h : MPost (M.bind (truthM d) f S) kk x) : ∃ b, truth S d = some b ∧ MPost (f b S) kk x := by
  have h' := h.bind
  unfold truthM at h'
  cases e : truth S d with
  | none => rw [e] at h'; exact h'.elim
  | some b => rw [e] at h'; exact ⟨b, rfl, h'⟩
/-- a value's truth as a test -/
theorem snd_truth (G : Cxt g k cl W c X) {e : Expr} {a : LA.E} (h : PE X e (rdE g cl W a)) (he : ∀ whole, isTrue e X.env whole = (do let v ← whole; standAt e.pos; holding [v] (truthy v))) : PT X e (rdT g cl W a) := by
  refine PTto (pt_truth h he) ?_
  rintro σ H Q ⟨ρ, ds, S, r, sl, q⟩
  refine rdE.bind r sl q fun ρ1 H1 S1 d v p1 t1 r1 dv sl1 q1 => ?_
  unfold truthM at q1
  cases e1 : truth S1 d with
  | none => rw [e1] at q1; exact q1.elim
  | some b =>
    rw [e1] at q1
    exact ⟨b, by rw [G.K]; exact dv_tru r1 dv e1, q1 ρ1 H1 p1 t1 r1⟩
/-! ### comparisons -/
theorem cmp_bl {o : CO} {dx dy : D} {S : Sto} {kk : D → Sto → Prop} {x : Nat → List (Nat × D) → Sto → Prop} (h : MPost (cmpD g.pg cl o dx dy S) kk x) : MPost (cmpD g.pg cl o dx dy S) (fun d S' => (∃ b, d = .bl b) ∧ kk d S') x := by
  cases e : cmpD g.pg cl o dx dy S with
  | none => rw [e] at h; exact h
  | some rr =>
    obtain ⟨r1, S1⟩ := rr
    rw [e] at h
    cases r1 with
    | ex cc fs => exact h
    | ok d =>
      refine ⟨?_, h⟩
      unfold cmpD at e
      have byb : ∀ (m : M D) (f : Bool → Bool), M.bind m (fun r S' => match r with | .bl r => some (.ok (.bl (f r)), S') | _ => none) S = some (.ok d, S1) → ∃ b, d = .bl b := by
        intro m f hm
        unfold M.bind at hm
        cases em : m S with
        | none => rw [em] at hm; cases hm
        | some r2 =>
          obtain ⟨r2, S2⟩ := r2
          rw [em] at hm
          cases r2 with
          | ex _ _ => cases hm
          | ok d2 => cases d2 <;> cases hm; exact ⟨_, rfl⟩
      have inb : ∀ {z : Option (R D × Sto)}, cmpD.inD dx dy S = z → z = some (.ok d, S1) → ∃ b, d = .bl b := by
        intro z h1 h2
        obtain ⟨_, b, hb⟩ := inD_same _ (h1.trans h2)
        cases hb; exact ⟨b, rfl⟩
      cases o with
      | eq =>
        simp only at e
        cases eo : ownF g.pg (·.eqf) dx S with
        | none =>
          rw [eo] at e
          simp only at e
          cases et : eqT S dx dy with
          | none => rw [et] at e; cases e
          | some b => rw [et] at e; cases e; exact ⟨_, rfl⟩
        | some f =>
          rw [eo] at e
          cases dy <;> first | (cases e; done) | exact byb _ id e
      | ne =>
        simp only at e
        cases eo : ownF g.pg (·.eqf) dx S with
        | some f => rw [eo] at e; cases e
        | none =>
          rw [eo] at e
          simp only at e
          cases et : eqD S deep dx dy with
          | none => rw [et] at e; cases e
          | some b => rw [et] at e; cases e; exact ⟨_, rfl⟩
      | isN => cases dy <;> cases e; exact ⟨_, rfl⟩
      | notN => cases dy <;> cases e; exact ⟨_, rfl⟩
      | in_ => exact inb rfl e
      | nin => exact byb _ (fun b => !b) e
      | _ =>
        simp only at e
        cases dx <;> cases dy <;> first | (cases e; done) | skip
        all_goals
          simp only [cmpI, cmpS] at e
          first | (cases e; exact ⟨_, rfl⟩) | (cases e; done)
theorem snd_cmp (G : Cxt g k cl W c X) {a b : Expr} {op : CmpOp} {x y : LA.E} {pos : Pos} (ha : PE X a (rdE g cl W x)) (hb : PE X b (rdE g cl W y)) (hm : isSet b = false) : PE X (.Compare a [op] [b] pos) (rdE g cl W (.cmp (coOf op) x y)) := by
  refine ⟨fun pins s σ H Q I h => ?_⟩
  obtain ⟨ρ, ds, S, r, sl, q⟩ := h
  unfold evE at q
  have h1 : rdE g cl W x σ H (fun vx H1 => rdE g cl W y σ H1 (fun vy H2 => rCmp g cl W (coOf op) σ vx vy H2 Q)) := by
    refine rdE.bind r sl q fun ρ1 H1 S1 d v p1 t1 r1 dv sl1 q1 => ?_
    refine rdE.bind r1 sl1 q1 fun ρ2 H2 S2 d2 v2 p2 t2 r2 dv2 sl2 q2 => ?_
    exact ⟨ρ2, S2, d, d2, r2, dv.mono p2 t2, dv2, q2.imp (fun d S' z => z.mono (p1.trans p2) (t1.trans t2)) fun _ _ _ z => z⟩
  exact wpAny_Compare1 (binT ha hb I h1 fun v u s2 x y H2 I2 rx ry q => op2_cmp G op pins s2 σ H2 x y v u Q I2 rx ry q) (behind_no hm)
theorem snd_cmpT (G : Cxt g k cl W c X) {a b : Expr} {op : CmpOp} {x y : LA.E} {pos : Pos} (ha : PE X a (rdE g cl W x)) (hb : PE X b (rdE g cl W y)) (hm : isSet b = false) : PT X (.Compare a [op] [b] pos) (rdT g cl W (.cmp (coOf op) x y)) := by
  refine ⟨fun pins s σ H Q I h => ?_⟩
  obtain ⟨ρ, ds, S, r, sl, q⟩ := h
  unfold evE at q
  have q' : MPost (M.bind (evE g.pg cl ds x) (fun a => M.bind (evE g.pg cl ds y) fun b => M.bind (cmpD g.pg cl (coOf op) a b) truthM) S) (fun b S' => ∀ ρ' H', ρ <+: ρ' → TupK g.toGd H H' → Rel g.toGd ρ' S' H' → Q b H') (fun c fs S' => PostX g ρ H c fs S' fun cls dd H' => W cls dd σ H') := by
    have e1 : M.bind (M.bind (evE g.pg cl ds x) fun a => M.bind (evE g.pg cl ds y) fun b => cmpD g.pg cl (coOf op) a b) truthM S = M.bind (evE g.pg cl ds x) (fun a => M.bind (evE g.pg cl ds y) fun b => M.bind (cmpD g.pg cl (coOf op) a b) truthM) S := by
      unfold M.bind
      cases evE g.pg cl ds x S with
      | none => rfl
      | some z =>
        obtain ⟨z, S1⟩ := z
        cases z with
        | ex _ _ => rfl
        | ok d1 =>
          dsimp only
          cases evE g.pg cl ds y S1 with
          | none => rfl
          | some z2 => obtain ⟨z2, S2⟩ := z2; cases z2 <;> rfl
    rw [← e1]; exact q
  have h1 : rdE g cl W x σ H (fun vx H1 => rdE g cl W y σ H1 (fun vy H2 => rCmp g cl W (coOf op) σ vx vy H2 (fun z H3 => ∃ b, z = .bl b ∧ Q b H3))) := by
    refine rdE.bind r sl q' fun ρ1 H1 S1 d v p1 t1 r1 dv sl1 q1 => ?_
    refine rdE.bind r1 sl1 q1 fun ρ2 H2 S2 d2 v2 p2 t2 r2 dv2 sl2 q2 => ?_
    refine ⟨ρ2, S2, d, d2, r2, dv.mono p2 t2, dv2, (cmp_bl q2.bind).imp (fun d3 S' z => ?_) fun _ _ _ z => z⟩
    obtain ⟨⟨b, rfl⟩, z⟩ := z
    intro ρ3 H3 v3 a1 a2 a3 a4
    exact ⟨b, bl_dv a4, z ρ3 H3 (p1.trans (p2.trans a1)) (t1.trans (t2.trans a2)) a3⟩
  refine wpAny_isTrue_Compare1 (binT ha hb I h1 fun v u s2 vx vy H2 I2 rx ry q => ?_) (behind_no hm)
  refine wpAny_mono (op2_cmp G op pins s2 σ H2 vx vy v u _ I2 rx ry q) (fun z s3 hz => ?_) fun _ _ e => e
  obtain ⟨w', H3, I3, r3, b, rfl, q3⟩ := hz
  cases r3
  exact wpAny_truthy_bool ⟨H3, I3, q3⟩
theorem snd_not {a : Expr} {x : LA.E} {pos : Pos} (G : Cxt g k cl W c X) (ha : PE X a (rdE g cl W x)) : PE X (.UnaryOp .Not a pos) (rdE g cl W (.not x)) := by
  refine PEto (pe_notT ha) ?_
  rintro σ H Q ⟨ρ, ds, S, r, sl, q⟩
  unfold evE at q
  refine rdE.bind r sl q fun ρ1 H1 S1 d v p1 t1 r1 dv sl1 q1 => ?_
  obtain ⟨b, e1, q1⟩ := truthM_bind q1
  have q2 : PostV g ρ H (.bl (!b)) S1 Q := q1
  exact ⟨b, by rw [G.K]; exact dv_tru r1 dv e1, q2 ρ1 H1 _ p1 t1 r1 dv_bl⟩
theorem snd_notT {a : Expr} {x : LA.E} {pos : Pos} (ha : PT X a (rdT g cl W x)) : PT X (.UnaryOp .Not a pos) (rdT g cl W (.not x)) := by
  refine PTto (pt_not ha) ?_
  rintro σ H Q ⟨ρ, ds, S, r, sl, q⟩
  unfold evE at q
  have q' : MPost (M.bind (evE g.pg cl ds x) (fun d => M.bind (truthM d) fun b => truthM (.bl (!b))) S) (fun b S' => ∀ ρ' H', ρ <+: ρ' → TupK g.toGd H H' → Rel g.toGd ρ' S' H' → Q b H') (fun c fs S' => PostX g ρ H c fs S' fun cls dd H' => W cls dd σ H') := by
    have e1 : M.bind (M.bind (evE g.pg cl ds x) fun a => M.bind (truthM a) fun b => M.pure (.bl (!b))) truthM S = M.bind (evE g.pg cl ds x) (fun d => M.bind (truthM d) fun b => truthM (.bl (!b))) S := by
      unfold M.bind
      cases evE g.pg cl ds x S with
      | none => rfl
      | some z =>
        obtain ⟨z, S1⟩ := z
        cases z with
        | ex _ _ => rfl
        | ok d1 =>
          dsimp only
          cases truthM d1 S1 with
          | none => rfl
          | some z2 => obtain ⟨z2, S2⟩ := z2; cases z2 <;> rfl
    rw [← e1]; exact q
  refine rdT.bind r sl q' fun ρ1 H1 S1 b p1 t1 r1 sl1 q1 => ?_
  exact q1 ρ1 H1 p1 t1 r1
theorem snd_neg {a : Expr} {x : LA.E} {pos : Pos} (ha : PE X a (rdE g cl W x)) : PE X (.UnaryOp .USub a pos) (rdE g cl W (.neg x)) := by
  refine PEto (pe_un un_neg ha) ?_
  rintro σ H Q ⟨ρ, ds, S, r, sl, q⟩
  unfold evE at q
  refine rdE.bind r sl q fun ρ1 H1 S1 d v p1 t1 r1 dv sl1 q1 => ?_
  cases d <;> first | exact q1.elim | skip
  have q2 : PostV g ρ H (.int (-_)) S1 Q := q1
  exact ⟨_, int_dv dv, q2 ρ1 H1 _ p1 t1 r1 dv_int⟩
theorem snd_ite {t a b : Expr} {x y z : LA.E} {pos : Pos} (ht : PT X t (rdT g cl W x)) (ha : PE X a (rdE g cl W y)) (hb : PE X b (rdE g cl W z)) : PE X (.IfExp t a b pos) (rdE g cl W (.ite x y z)) := by
  refine PEto (pe_ifExp ht ha hb) ?_
  rintro σ H Q ⟨ρ, ds, S, r, sl, q⟩
  unfold evE at q
  refine rdT.bind r sl q fun ρ1 H1 S1 b p1 t1 r1 sl1 q1 => ?_
  cases b with
  | true => exact ⟨ρ1, ds, S1, r1, sl1, q1.imp (fun d S' z => z.mono p1 t1) fun _ _ _ z => z⟩
  | false => exact ⟨ρ1, ds, S1, r1, sl1, q1.imp (fun d S' z => z.mono p1 t1) fun _ _ _ z => z⟩
/-! ### and, or -/
theorem snd_and {a b : Expr} {rest : List Expr} {x y : LA.E} {pos : Pos} (ha : PE X a (rdE g cl W x)) (hb : PE X (.BoolOp .And (b :: rest) pos) (rdE g cl W y)) : PE X (.BoolOp .And (a :: b :: rest) pos) (rdE g cl W (.and x y)) := by
  refine PEto (pe_and ha hb) ?_
  rintro σ H Q ⟨ρ, ds, S, r, sl, q⟩
  unfold evE at q
  refine rdE.bind r sl q fun ρ1 H1 S1 d v p1 t1 r1 dv sl1 q1 => ?_
  cases d <;> first | exact q1.elim | skip
  rename_i bb
  refine ⟨bb, bl_dv dv, ?_⟩
  cases bb with
  | true => exact ⟨ρ1, ds, S1, r1, sl1, q1.imp (fun d S' z => z.mono p1 t1) fun _ _ _ z => z⟩
  | false =>
    have q2 : PostV g ρ H (.bl false) S1 Q := q1
    exact q2 ρ1 H1 _ p1 t1 r1 dv_bl
theorem snd_or {a b : Expr} {rest : List Expr} {x y : LA.E} {pos : Pos} (ha : PE X a (rdE g cl W x)) (hb : PE X (.BoolOp .Or (b :: rest) pos) (rdE g cl W y)) : PE X (.BoolOp .Or (a :: b :: rest) pos) (rdE g cl W (.or x y)) := by
  refine PEto (pe_or ha hb) ?_
  rintro σ H Q ⟨ρ, ds, S, r, sl, q⟩
  unfold evE at q
  refine rdE.bind r sl q fun ρ1 H1 S1 d v p1 t1 r1 dv sl1 q1 => ?_
  cases d <;> first | exact q1.elim | skip
  rename_i bb
  refine ⟨bb, bl_dv dv, ?_⟩
  cases bb with
  | false => exact ⟨ρ1, ds, S1, r1, sl1, q1.imp (fun d S' z => z.mono p1 t1) fun _ _ _ z => z⟩
  | true =>
    have q2 : PostV g ρ H (.bl true) S1 Q := q1
    exact q2 ρ1 H1 _ p1 t1 r1 dv_bl
/-- a bool, then its truth -/
theorem rdT_of {x : LA.E} {σ : L2.St} {H : Hp} {ρ : List Addr} {ds : En} {S : Sto} {α : Type} {f : D → M α} {kk : α → Sto → Prop} {Q : Bool → Hp → Prop} (r : Rel g.toGd ρ S H) (sl : SlR g.toGd ρ H ds σ)
    (h : MPost (M.bind (evE g.pg cl ds x) f S) kk (fun c fs S' => PostX g ρ H c fs S' fun cls dd H' => W cls dd σ H')) (hf : ∀ d S1, MPost (f d S1) kk (fun _ _ _ => True) → ∃ b, d = .bl b)
    (hq : ∀ ρ1 H1 S1 b, ρ <+: ρ1 → TupK g.toGd H H1 → Rel g.toGd ρ1 S1 H1 → SlR g.toGd ρ1 H1 ds σ → MPost (f (.bl b) S1) kk (fun c fs S' => PostX g ρ1 H1 c fs S' fun cls dd H' => W cls dd σ H') → Q b H1) : rdT g cl W x σ H Q := by
  refine ⟨ρ, ds, S, r, sl, ?_⟩
  have h' := h.bind
  unfold M.bind
  cases e : evE g.pg cl ds x S with
  | none => rw [e] at h'; exact h'.elim
  | some z =>
    obtain ⟨z, S1⟩ := z
    rw [e] at h'
    cases z with
    | ex cc fs => exact h'
    | ok d =>
      have h2 : MPost (f d S1) kk (fun c fs S' => PostX g ρ H c fs S' fun cls dd H' => W cls dd σ H') := h'
      obtain ⟨b, rfl⟩ := hf d S1 (h2.imp (fun _ _ z => z) fun _ _ _ _ => trivial)
      show MPost (truthM (.bl b) S1) _ _
      intro ρ1 H1 a1 a2 a3
      exact hq ρ1 H1 S1 b a1 a2 a3 (sl.mono a1 a2) (h2.imp (fun _ _ z => z) fun _ _ _ z => z.mono a1 a2)
theorem assoc_bind {α β γ : Type} (m : M α) (f : α → M β) (h : β → M γ) (S : Sto) : M.bind (M.bind m f) h S = M.bind m (fun a => M.bind (f a) h) S := by
  unfold M.bind
  cases m S with
  | none => rfl
  | some z => obtain ⟨z, S1⟩ := z; cases z <;> rfl
theorem snd_andT {a b : Expr} {rest : List Expr} {x y : LA.E} {pos : Pos} (ha : PT X a (rdT g cl W x)) (hb : PW X (.BoolOp .And (b :: rest) pos) (rdT g cl W y)) : PW X (.BoolOp .And (a :: b :: rest) pos) (rdT g cl W (.and x y)) := by
  refine ⟨fun wh pins s σ H Q I h => (pw_and ha hb).run wh pins s σ H Q I ?_⟩
  obtain ⟨ρ, ds, S, r, sl, q⟩ := h
  unfold evE at q
  rw [assoc_bind] at q
  refine rdT_of r sl q (fun d S1 hd => ?_) fun ρ1 H1 S1 bb p1 t1 r1 sl1 q1 => ?_
  · cases d <;> first | exact hd.elim | exact ⟨_, rfl⟩
  · cases bb with
    | true => exact ⟨ρ1, ds, S1, r1, sl1, q1.imp (fun d S' z ρ2 H2 a1 a2 a3 => z ρ2 H2 (p1.trans a1) (t1.trans a2) a3) fun _ _ _ z => z⟩
    | false =>
      have q2 : ∀ ρ' H', ρ <+: ρ' → TupK g.toGd H H' → Rel g.toGd ρ' S1 H' → Q false H' := q1
      exact q2 ρ1 H1 p1 t1 r1
theorem snd_orT {a b : Expr} {rest : List Expr} {x y : LA.E} {pos : Pos} (ha : PT X a (rdT g cl W x)) (hb : PW X (.BoolOp .Or (b :: rest) pos) (rdT g cl W y)) : PW X (.BoolOp .Or (a :: b :: rest) pos) (rdT g cl W (.or x y)) := by
  refine ⟨fun wh pins s σ H Q I h => (pw_or ha hb).run wh pins s σ H Q I ?_⟩
  obtain ⟨ρ, ds, S, r, sl, q⟩ := h
  unfold evE at q
  rw [assoc_bind] at q
  refine rdT_of r sl q (fun d S1 hd => ?_) fun ρ1 H1 S1 bb p1 t1 r1 sl1 q1 => ?_
  · cases d <;> first | exact hd.elim | exact ⟨_, rfl⟩
  · cases bb with
    | false => exact ⟨ρ1, ds, S1, r1, sl1, q1.imp (fun d S' z ρ2 H2 a1 a2 a3 => z ρ2 H2 (p1.trans a1) (t1.trans a2) a3) fun _ _ _ z => z⟩
    | true =>
      have q2 : ∀ ρ' H', ρ <+: ρ' → TupK g.toGd H H' → Rel g.toGd ρ' S1 H' → Q true H' := q1
      exact q2 ρ1 H1 p1 t1 r1
end
end LA

/-! Soundness: subscripts, slices, attributes, calls. -/
namespace LA
open PySem PySem.Spec PyProof.Rows L2
section
variable {g : GdX} {cl : Nat → List D → M D} {W : WX} {k : Nat} {c : Cc} {X : Cx}
theorem atI_eq {α : Type} (xs : List α) (i : Int) : LA.atI xs i = L2.atI xs i := by
  unfold LA.atI L2.atI
  show (match LA.ixN xs.length i with | some j => xs[j]? | none => none) = (L2.ixN xs.length i).bind fun j => xs[j]?
  have e : LA.ixN xs.length i = L2.ixN xs.length i := rfl
  rw [e]
  cases L2.ixN xs.length i <;> rfl
theorem atI_dvs {ρ : List Addr} {H : Hp} {xs : List D} {vs : List V} {i : Int} {d : D} (h : DVs g.toGd ρ H xs vs) (e : LA.atI xs i = some d) : ∃ v, L2.atI vs i = some v ∧ DV g.toGd ρ H d v := by
  rw [atI_eq] at e
  unfold L2.atI at e ⊢
  rw [← h.length]
  cases hj : L2.ixN xs.length i with
  | none => rw [hj] at e; cases e
  | some j =>
    rw [hj] at e
    obtain ⟨v, h1, h2⟩ := h.get (show xs[j]? = some d from e)
    exact ⟨v, h1, h2⟩
theorem plainIx_no {b : Expr} (h : isSlice b = false) : PlainIx b := by
  intro o i
  cases b <;> first | rfl | exact absurd h (by simp [isSlice])
theorem noSl_no {b : Expr} (h : isSlice b = false) : NoSl b := plainIx_no h
theorem lst_rd {ρ : List Addr} {H : Hp} {S : Sto} {i : Nat} {v : V} {xs : List D} {lk : Bool} (r : Rel g.toGd ρ S H) (h : DV g.toGd ρ H (.obj i) v) (e : S[i]? = some (.lst xs lk)) : ∃ a vs, v = .ref a ∧ ρ[i]? = some a ∧ DVs g.toGd ρ H xs vs ∧ SqL g.K H a vs := by
  obtain ⟨a, rfl, q⟩ := obj_dv h
  obtain ⟨vs, dv, hh⟩ := r.ob i _ a e q
  refine ⟨a, vs, rfl, q, dv, .inl ?_⟩
  cases lk with
  | true => obtain ⟨o, hh⟩ := hh; exact .inr ⟨o, hh⟩
  | false => exact .inl hh
def isDct (S : Sto) : D → Bool
  | .obj i => match S[i]? with
    | some (.dct _ _) => true
    | _ => false
  | _ => false
theorem idx_seq (G : Cxt g k cl W c X) {ρ2 : List Addr} {H2 : Hp} {S2 : Sto} {d2 d : D} {v2 v : V} {Q : VK} (r2 : Rel g.toGd ρ2 S2 H2) (hd : DV g.toGd ρ2 H2 d v) (hd2 : DV g.toGd ρ2 H2 d2 v2)
    (q2 : MPost (idxD d d2 S2) (fun d S' => PostV g ρ2 H2 d S' Q) (fun _ _ _ => True)) (nd : isDct S2 d = false) : rIx X.K v v2 H2 Q := by
  cases d with
  | non => exact q2.elim
  | bl _ => exact q2.elim
  | int _ => exact q2.elim
  | str z =>
    simp only [idxD] at q2
    cases d2 <;> first | exact q2.elim | skip
    rename_i i
    simp only at q2
    by_cases hz : z.length ≤ sizeL
    · rw [if_pos hz] at q2
      cases e : LA.atI z i with
      | none => rw [e] at q2; exact q2.elim
      | some ch =>
        rw [e] at q2
        refine .inr (.inr ⟨toStr z, i, ch, str_dv hd, int_dv hd2, by rw [toStr_len, ← sizeL_eq]; exact hz, ?_, ?_⟩)
        · rw [atI_eq] at e
          rw [show (toStr z).cps.toList = z by simp [toStr]]; exact e
        · exact post_here q2 r2 (dv_str (x := [ch]))
    · rw [if_neg hz] at q2; exact q2.elim
  | tup xs =>
    simp only [idxD] at q2
    cases d2 <;> first | exact q2.elim | skip
    rename_i i
    simp only at q2
    cases e : LA.atI xs i with
    | none => rw [e] at q2; exact q2.elim
    | some w' =>
      rw [e] at q2
      obtain ⟨a, vs, rfl, sq, dv⟩ := tup_dv hd
      obtain ⟨u, h1, h2⟩ := atI_dvs dv e
      exact .inr (.inl ⟨a, vs, i, u, rfl, int_dv hd2, by rw [G.K]; exact sq, h1, post_here q2 r2 h2⟩)
  | obj j =>
    simp only [idxD] at q2
    cases ej : S2[j]? with
    | none => rw [ej] at q2; exact q2.elim
    | some o =>
      rw [ej] at q2
      cases o with
      | dct _ _ => simp [isDct, ej] at nd
      | ins _ _ => exact q2.elim
      | lst xs lk =>
        simp only at q2
        cases d2 <;> first | exact q2.elim | skip
        rename_i i
        simp only at q2
        cases e : LA.atI xs i with
        | none => rw [e] at q2; exact q2.elim
        | some w' =>
          rw [e] at q2
          obtain ⟨a, vs, rfl, _, dv, sq⟩ := lst_rd r2 hd ej
          obtain ⟨u, h1, h2⟩ := atI_dvs dv e
          exact .inl ⟨a, vs, i, u, rfl, int_dv hd2, by rw [G.K]; exact sq, h1, post_here q2 r2 h2⟩
theorem idx_dct {ρ2 : List Addr} {H2 : Hp} {S2 : Sto} {d2 d : D} {v2 v : V} {Q : VK} (r2 : Rel g.toGd ρ2 S2 H2) (hd : DV g.toGd ρ2 H2 d v) (hd2 : DV g.toGd ρ2 H2 d2 v2)
    (q2 : MPost (idxD d d2 S2) (fun d S' => PostV g ρ2 H2 d S' Q) (fun _ _ _ => True)) (nd : isDct S2 d = true) : ∃ a u, v = .ref a ∧ DGet H2 a v2 (some u) ∧ Q u H2 := by
  cases d with
  | obj j =>
    simp only [idxD] at q2
    cases ej : S2[j]? with
    | none => rw [ej] at q2; exact q2.elim
    | some o =>
      rw [ej] at q2
      cases o with
      | lst _ _ => simp [isDct, ej] at nd
      | ins _ _ => exact q2.elim
      | dct kvs lk =>
        simp only at q2
        cases e : toKy d2 with
        | none => rw [e] at q2; exact q2.elim
        | some ky =>
          rw [e] at q2
          simp only at q2
          cases el : lookK ky kvs with
          | none => rw [el] at q2; exact q2.elim
          | some w' =>
            rw [el] at q2
            obtain ⟨a, vs, rfl, _, kv, rd⟩ := dct_rd r2 hd ej
            have lv := look_valV (ky := ky) kv
            rw [el] at lv
            obtain ⟨u, h1, h2⟩ := lv
            have dg := dget_of hd2 e rd kv
            rw [h1] at dg
            exact ⟨a, u, rfl, dg, post_here q2 r2 h2⟩
  | _ => simp [isDct] at nd
theorem snd_idx (G : Cxt g k cl W c X) {a b : Expr} {x y : LA.E} {pos : Pos} (ha : PE X a (rdE g cl W x)) (hb : PE X b (rdE g cl W y)) (hs : isSlice b = false) : PE X (.Subscript a b pos) (rdE g cl W (.idx x y)) := by
  refine PEto (PEor2 (pe_ix ix_seq ha hb (plainIx_no hs)) (pe_dget (Nat.lt_of_le_of_lt (by omega) G.hu) ha hb (noSl_no hs))) ?_
  rintro σ H Q ⟨ρ, ds, S, r, sl, q⟩
  unfold evE at q
  -- is it a dict?
  by_cases hd : ∃ d S1 d2 S2, evE g.pg cl ds x S = some (.ok d, S1) ∧ evE g.pg cl ds y S1 = some (.ok d2, S2) ∧ isDct S2 d = true
  · obtain ⟨d0, S10, d20, S20, h1, h2, h3⟩ := hd
    right
    refine rdE.bindE r sl q fun ρ1 H1 S1 d v p1 t1 r1 dv sl1 e1 q1 => ?_
    rw [h1] at e1
    cases e1
    refine rdE.bindE r1 sl1 q1 fun ρ2 H2 S2 d2 v2 p2 t2 r2 dv2 sl2 e2 q2 => ?_
    rw [h2] at e2
    cases e2
    exact idx_dct r2 (dv.mono p2 t2) dv2 (q2.imp (fun d S' z => z.mono (p1.trans p2) (t1.trans t2)) fun _ _ _ _ => trivial) h3
  · left
    refine rdE.bindE r sl q fun ρ1 H1 S1 d v p1 t1 r1 dv sl1 e1 q1 => ?_
    refine rdE.bindE r1 sl1 q1 fun ρ2 H2 S2 d2 v2 p2 t2 r2 dv2 sl2 e2 q2 => ?_
    refine idx_seq G r2 (dv.mono p2 t2) dv2 (q2.imp (fun d S' z => z.mono (p1.trans p2) (t1.trans t2)) fun _ _ _ _ => trivial) ?_
    cases hb : isDct S2 d with
    | false => rfl
    | true => exact absurd ⟨d, S1, d2, S2, e1, e2, hb⟩ hd
/-! ### slices -/
def ofBound : D → Option (Option Int)
  | .non => some none
  | .int i => some (some i)
  | _ => none
/-- a slice's part: left out, or an int -/
def rdO (g : GdX) (cl : Nat → List D → M D) (W : WX) (x : LA.E) : TO := fun σ H Q => ∃ ρ ds S, Rel g.toGd ρ S H ∧ SlR g.toGd ρ H ds σ ∧
  MPost (evE g.pg cl ds x S) (fun d S' => ∀ ρ' H', ρ <+: ρ' → TupK g.toGd H H' → Rel g.toGd ρ' S' H' → ∃ o, ofBound d = some o ∧ Q o H') (fun c fs S' => PostX g ρ H c fs S' fun cls dd H' => W cls dd σ H')
theorem POto {o : Option Expr} {t t' : TO} (h : PO X o t) (i : ∀ σ H Q, t' σ H Q → t σ H Q) : PO X o t' := ⟨fun pins s σ H Q I q => h.run pins s σ H Q I (i _ _ _ q)⟩
theorem snd_onone : PO X none (rdO g cl W (.con .non)) := POto po_none fun σ H Q ⟨ρ, ds, S, r, sl, q⟩ => by
  obtain ⟨o, e, q⟩ := q ρ H (List.prefix_refl _) .refl r
  cases e
  exact q
theorem cut_ok {α : Type} {xs ys : List α} {lo hi : D} (h : cut xs lo hi = some ys) : ∃ l u, ofBound lo = some l ∧ ofBound hi = some u ∧ ys = (xs.drop (HT.sIx xs.length 0 l)).take (HT.sIx xs.length xs.length u - HT.sIx xs.length 0 l) := by
  have one : ∀ (n d : Nat) (x : D) (m : Nat), LA.sIx n d x = some m → ∃ l, ofBound x = some l ∧ m = HT.sIx n d l := by
    intro n d x m h
    cases x <;> cases h
    · exact ⟨none, rfl, rfl⟩
    · exact ⟨some _, rfl, rfl⟩
  unfold cut at h
  cases h1 : LA.sIx xs.length 0 lo with
  | none => rw [h1] at h; cases h
  | some a =>
    cases h2 : LA.sIx xs.length xs.length hi with
    | none => rw [h1, h2] at h; cases h
    | some b =>
      rw [h1, h2] at h
      cases h
      obtain ⟨l, l1, rfl⟩ := one _ _ _ _ h1
      obtain ⟨u, u1, rfl⟩ := one _ _ _ _ h2
      exact ⟨l, u, l1, u1, rfl⟩
theorem rdO.bindE {α : Type} {σ : L2.St} {H : Hp} {ρ : List Addr} {ds : En} {S : Sto} {e : LA.E} {f : D → M α} {kk : α → Sto → Prop} {Q : Option Int → Hp → Prop} (r : Rel g.toGd ρ S H) (sl : SlR g.toGd ρ H ds σ)
    (h : MPost (M.bind (evE g.pg cl ds e) f S) kk (fun c fs S' => PostX g ρ H c fs S' fun cls dd H' => W cls dd σ H'))
    (hq : ∀ ρ1 H1 S1 d, ρ <+: ρ1 → TupK g.toGd H H1 → Rel g.toGd ρ1 S1 H1 → SlR g.toGd ρ1 H1 ds σ →
      MPost (f d S1) kk (fun c fs S' => PostX g ρ1 H1 c fs S' fun cls dd H' => W cls dd σ H') → ∃ o, ofBound d = some o ∧ Q o H1) : rdO g cl W e σ H Q :=
  ⟨ρ, ds, S, r, sl, h.bind.imp (fun d S1 q ρ1 H1 a b c => hq ρ1 H1 S1 d a b c (sl.mono a b) (q.imp (fun _ _ z => z) fun _ _ _ z => z.mono a b)) fun _ _ _ z => z⟩
theorem snd_osome {e : Expr} {x : LA.E} (h : PE X e (rdE g cl W x)) : PO X (some e) (rdO g cl W (.chk x)) := by
  refine POto (po_some h) ?_
  rintro σ H Q ⟨ρ, ds, S, r, sl, q⟩
  unfold evE at q
  refine rdE.bind r sl q fun ρ1 H1 S1 d v p1 t1 r1 dv sl1 q1 => ?_
  cases d <;> first | exact q1.elim | skip
  rename_i i
  have q2 : ∀ ρ' H', ρ <+: ρ' → TupK g.toGd H H' → Rel g.toGd ρ' S1 H' → ∃ o, ofBound (.int i) = some o ∧ Q o H' := q1
  obtain ⟨o, e1, q3⟩ := q2 ρ1 H1 p1 t1 r1
  cases e1
  exact ⟨i, int_dv dv, q3⟩
theorem dvs_cut {ρ : List Addr} {H : Hp} {xs : List D} {vs : List V} (h : DVs g.toGd ρ H xs vs) (l u : Option Int) : DVs g.toGd ρ H ((xs.drop (HT.sIx xs.length 0 l)).take (HT.sIx xs.length xs.length u - HT.sIx xs.length 0 l)) (cutV vs l u) := by
  unfold cutV
  rw [← h.length]
  exact (h.drop _).take _
theorem snd_slc (G : Cxt g k cl W c X) {e : Expr} {lo hi : Option Expr} {x y z : LA.E} {p2 pos : Pos} (he : PE X e (rdE g cl W x)) (hl : PO X lo (rdO g cl W y)) (hh : PO X hi (rdO g cl W z)) :
    PE X (.Subscript e (.Slice lo hi none p2) pos) (rdE g cl W (.slc x y z)) := by
  refine PEto (pe_slice (sl_tupA.or sl_list) he hl hh) ?_
  rintro σ H Q ⟨ρ, ds, S, r, sl, q⟩
  unfold evE at q
  refine rdE.bind r sl q fun ρ1 H1 S1 d v p1 t1 r1 dv sl1 q1 => ?_
  refine rdO.bindE r1 sl1 q1 fun ρ2 H2 S2 d2 p2 t2 r2 sl2 q2 => ?_
  have ob : ∀ d : D, okB d = true → ∃ o, ofBound d = some o := fun d h => by cases d <;> first | exact ⟨_, rfl⟩ | exact absurd h (by simp [okB])
  by_cases h2 : okB d2 = true
  · rw [if_pos h2] at q2
    obtain ⟨l, hl⟩ := ob d2 h2
    refine ⟨l, hl, rdO.bindE r2 sl2 q2 fun ρ3 H3 S3 d3 p3 t3 r3 sl3 q3 => ?_⟩
    by_cases h3 : okB d3 = true
    · rw [if_pos h3] at q3
      obtain ⟨u, hu⟩ := ob d3 h3
      refine ⟨u, hu, ?_⟩
      have dv3 := dv.mono (p2.trans p3) (t2.trans t3)
      have p13 := p1.trans (p2.trans p3)
      have t13 := t1.trans (t2.trans t3)
      cases d <;> first | exact q3.elim | skip
      · rename_i xs
        simp only [slcD] at q3
        cases ec : cut xs d2 d3 with
        | none => rw [ec] at q3; exact q3.elim
        | some ys =>
          rw [ec] at q3
          obtain ⟨l', u', e1, e2, rfl⟩ := cut_ok ec
          rw [hl] at e1; cases e1
          rw [hu] at e2; cases e2
          obtain ⟨a, vs, rfl, sq, dvs⟩ := tup_dv dv3
          have q4 := PostV.mono (show PostV g ρ H _ S3 Q from q3) p13 t13
          have hlen := dvs.length
          refine .inl ⟨a, vs, rfl, by rw [G.K]; exact sq, fun hw => ?_, fun hw p hp => post_tup q4 (List.prefix_refl _) .refl r3 (dvs_cut dvs l u) hp⟩
          rw [← hlen] at hw
          have ex : (xs.drop (HT.sIx xs.length 0 l)).take (HT.sIx xs.length xs.length u - HT.sIx xs.length 0 l) = xs := by
            rw [hw.1, hw.2, List.drop_zero, Nat.sub_zero, List.take_length]
          rw [ex] at q4
          exact post_here q4 r3 (by unfold DV; exact ⟨a, vs, rfl, sq, dvs⟩)
      · rename_i j
        simp only [slcD] at q3
        cases ej : S3[j]? with
        | none => rw [ej] at q3; exact q3.elim
        | some o =>
          rw [ej] at q3
          cases o with
          | dct _ _ => exact q3.elim
          | ins _ _ => exact q3.elim
          | lst xs lk =>
            simp only at q3
            cases ec : cut xs d2 d3 with
            | none => rw [ec] at q3; exact q3.elim
            | some ys =>
              rw [ec] at q3
              obtain ⟨l', u', e1, e2, rfl⟩ := cut_ok ec
              rw [hl] at e1; cases e1
              rw [hu] at e2; cases e2
              obtain ⟨a, vs, rfl, _, dvs, sq⟩ := lst_rd r3 dv3 ej
              have q4 := PostV.mono (show PostV g ρ H (.obj S3.length) (S3 ++ [.lst _ false]) Q from q3) p13 t13
              exact .inr ⟨a, vs, rfl, by rw [G.K]; exact sq, fun p hp => post_lst q4 (List.prefix_refl _) .refl r3 (dvs_cut dvs l u) hp⟩
    · rw [if_neg h3] at q3; exact q3.elim
  · rw [if_neg h2] at q2; exact q2.elim
theorem dvs_rev {ρ : List Addr} {H : Hp} : ∀ {xs : List D} {vs : List V}, DVs g.toGd ρ H xs vs → DVs g.toGd ρ H xs.reverse vs.reverse
  | [], _, h => by rw [h.nil_inv]; exact .nil
  | x :: xs, vs, h => by
    obtain ⟨v, ws, rfl, a, b⟩ := h.cons_inv
    rw [List.reverse_cons, List.reverse_cons]
    exact (dvs_rev b).append (.cons a .nil)
theorem snd_rev (G : Cxt g k cl W c X) {e : Expr} {x : LA.E} {kk : Nat} {p1 p2 p3 pos : Pos} (he : PE X e (rdE g cl W x)) : PE X (.Subscript e (.Slice none none (some (.UnaryOp .USub (.Constant (.int 1) kk p1) p2)) p3) pos) (rdE g cl W (.rev x)) := by
  refine PEto (pe_revL he) ?_
  rintro σ H Q ⟨ρ, ds, S, r, sl, q⟩
  unfold evE at q
  refine rdE.bind r sl q fun ρ1 H1 S1 d v p1 t1 r1 dv sl1 q1 => ?_
  cases d <;> first | exact q1.elim | skip
  rename_i j
  simp only [revD] at q1
  cases ej : S1[j]? with
  | none => rw [ej] at q1; exact q1.elim
  | some o =>
    rw [ej] at q1
    cases o with
    | dct _ _ => exact q1.elim
    | ins _ _ => exact q1.elim
    | lst xs lk =>
      obtain ⟨a, vs, rfl, _, dvs, sq⟩ := lst_rd r1 dv ej
      have q4 := PostV.mono (show PostV g ρ H (.obj S1.length) (S1 ++ [.lst _ false]) Q from q1) p1 t1
      exact ⟨a, vs, rfl, by rw [G.K]; exact sq, fun p hp => post_lst q4 (List.prefix_refl _) .refl r1 (dvs_rev dvs) hp⟩
/-! ### attributes -/
theorem attr_ok {e : Expr} {a : Str} {env : Env} (h : attrOk e = true) : attributeBase e a env (eval e env) = eval e env := by
  unfold attributeBase
  cases e <;> first | rfl | skip
  rename_i f as ks pos
  cases f <;> first | rfl | skip
  cases as <;> cases ks <;> first | rfl | (exact absurd h (by simp [attrOk]))
theorem fvs_look {ρ : List Addr} {H : Hp} {an : List Str} (nd : g.an.Nodup) {a : Nat} {n : Str} (ea : g.an[a]? = some n) : ∀ {fs : List (Nat × D)} {vs : List (Str × V)}, FVs g.toGd ρ H fs vs →
    match lookA a fs with
    | none => vs.lookup n = none
    | some d => ∃ v, vs.lookup n = some v ∧ DV g.toGd ρ H d v
  | [], vs, h => by
    have e : vs = [] := h
    subst e
    rfl
  | (b, d) :: r, vs, h => by
    obtain ⟨m, v, ws, eb, rfl, dv, hr⟩ := h
    have ih := fvs_look (an := an) nd ea hr
    unfold lookA
    by_cases hab : a = b
    · subst hab
      rw [ea] at eb
      cases eb
      rw [if_pos rfl]
      exact ⟨v, by simp [List.lookup], dv⟩
    · rw [if_neg hab]
      have hne : (n == m) = false := by
        refine beq_eq_false_iff_ne.mpr fun z => ?_
        subst z
        obtain ⟨h1, e1⟩ := List.getElem?_eq_some_iff.mp ea
        obtain ⟨h2, e2⟩ := List.getElem?_eq_some_iff.mp eb
        exact hab ((List.getElem_inj nd).mp (e1.trans e2.symm))
      rw [List.lookup_cons, hne]
      exact ih
end
end LA

/-! Soundness: attributes, calls of defs, classes, methods. -/
namespace LA
open PySem PySem.Spec PyProof.Rows L2
theorem PAor {X : Cx} {es : List Expr} {ι : Type} {t : ι → TA} (h : ∀ i, PA X es (t i)) : PA X es (fun σ H Q => ∃ i, t i σ H Q) := ⟨fun pos pins s σ H Q I ⟨i, q⟩ => (h i).run pos pins s σ H Q I q⟩
section
variable {g : GdX} {cl : Nat → List D → M D} {W : WX} {k : Nat} {c : Cc} {X : Cx}
theorem noEx_post {α : Type} {m : M α} {S : Sto} {kk : α → Sto → Prop} {x x' : Nat → List (Nat × D) → Sto → Prop} (h : MPost (noEx m S) kk x) : MPost (m S) kk x' := by
  unfold noEx at h
  cases e : m S with
  | none => rw [e] at h; exact h.elim
  | some r =>
    obtain ⟨r, S1⟩ := r
    rw [e] at h
    cases r with
    | ok a => exact h
    | ex _ _ => exact h.elim
/-- the def at an index, at the level of a context -/
theorem Cxt.fnOk (G : Cxt g k cl W c X) {f : Nat} {fa : Addr} (hf : g.fnA[f]? = some fa) : ∃ fd ps, FnOk X.prog X.w X.K X.mg X.base (L2.CX X.prog X.w) k fa fd ps (spI g cl f ps.length) ∧ Binds X.K fd ps [] ∧
    ∀ ds S r, cl f ds S = some r → ds.length = ps.length := by
  obtain ⟨fd, ps, F, B, L⟩ := G.lvl.fn f fa hf
  refine ⟨fd, ps, by rw [G.prog, G.w, G.K, G.mg, G.base]; exact F, by rw [G.K]; exact B, fun ds S r e => ?_⟩
  obtain ⟨fi, h1, h2⟩ := G.lvl.np f ds S r e
  rw [h2, L fi h1]
structure PropIx (g : GdX) (n : Str) where
  C : Addr
  p : Addr
  fa : Addr
  f : Nat
  hf : g.fnA[f]? = some fa
  cl : Cls g.K C
  pr : PropOf g.K C n p fa
theorem snd_fld (G : Cxt g k cl W c X) (hr : Room (k + 1) X.A) {e : Expr} {x : LA.E} {a : Nat} {n : Str} {pos : Pos} (he : PE X e (rdE g cl W x)) (ho : attrOk e = true) (hn : g.an[a]? = some n) : PE X (.Attribute e n pos) (rdE g cl W (.fld x a)) := by
  have hp : PE X (.Attribute e n pos) (fun σ H Q => ∃ i : PropIx g n, ∃ fd ps, FnOk X.prog X.w X.K X.mg X.base (L2.CX X.prog X.w) k i.fa fd ps (spI g cl i.f ps.length) ∧ Binds X.K fd ps [] ∧ tProp i.C (spI g cl i.f ps.length) [] E0 (rdE g cl W x) σ H Q) := by
    refine ⟨fun pins s σ H Q I ⟨i, fd, ps, F, B, q⟩ => ?_⟩
    exact (pe_prop he (by rw [G.K]; exact i.cl) (by rw [G.K]; exact i.pr) F hr B .nil passL (attr_ok ho)).run pins s σ H Q I q
  refine PEto (PEor2 (pe_fld he (attr_ok ho)) hp) ?_
  rintro σ H Q ⟨ρ, ds, S, r, sl, q⟩
  unfold evE at q
  -- a property?
  by_cases hd : ∃ i S1 cc fs ci f, evE g.pg cl ds x S = some (.ok (.obj i), S1) ∧ S1[i]? = some (.ins cc fs) ∧ g.pg.cls[cc]? = some ci ∧ lookA a ci.props = some f
  · obtain ⟨i, S1, cc, fs, ci, f, e1, e2, e3, e4⟩ := hd
    right
    -- the class
    obtain ⟨C, hC⟩ := G.fac.cll cc ci e3
    have cf := G.fac.clf cc C ci hC e3
    obtain ⟨fa, p, h1, h2⟩ := cf.pr a f n e4 hn
    obtain ⟨fd, ps, F, B, hl⟩ := G.fnOk h1
    refine ⟨⟨C, p, fa, f, h1, cf.cl, h2⟩, fd, ps, F, B, ?_⟩
    refine rdE.bindE r sl q fun ρ1 H1 S2 d v p1 t1 r1 dv sl1 e5 q1 => ?_
    rw [e1] at e5
    cases e5
    obtain ⟨b, C2, dx, vs, rfl, hb, hC2, _, hH⟩ := ins_at r1 dv e2
    rw [hC] at hC2
    cases hC2
    refine ⟨b, dx, vs, rfl, hH, ?_⟩
    have q2 : MPost (noEx (cl f [.obj i]) S1) (fun d S' => PostV g ρ H d S' Q) (fun c fs S' => PostX g ρ1 H1 c fs S' fun cls dd H' => W cls dd σ H') := by
      unfold fldD at q1
      simp only [e2, e3, e4] at q1
      exact q1
    have q3 := noEx_post (x' := fun c fs S' => PostX g ρ1 H1 c fs S' (fun _ _ _ => False)) q2
    have hlen : ([D.obj i] : List D).length = ps.length := by
      cases ef : cl f [.obj i] S1 with
      | none => rw [ef] at q3; exact q3.elim
      | some rr => exact hl _ _ _ ef
    exact ⟨ρ1, S1, [.obj i], r1, .cons dv .nil, hlen, q3.imp (fun d S' z => z.mono p1 t1) fun _ _ _ z => z⟩
  · left
    refine rdE.bindE r sl q fun ρ1 H1 S1 d v p1 t1 r1 dv sl1 e1 q1 => ?_
    unfold fldD at q1
    cases d <;> first | exact q1.elim | skip
    rename_i i
    simp only at q1
    cases ei : S1[i]? with
    | none => rw [ei] at q1; exact q1.elim
    | some o =>
      rw [ei] at q1
      cases o with
      | lst _ _ => exact q1.elim
      | dct _ _ => exact q1.elim
      | ins cc fs =>
        simp only at q1
        cases ec : g.pg.cls[cc]? with
        | none => rw [ec] at q1; exact q1.elim
        | some ci =>
          rw [ec] at q1
          simp only at q1
          cases ep : lookA a ci.props with
          | some f => exact absurd ⟨i, S1, cc, fs, ci, f, e1, ei, ec, ep⟩ hd
          | none =>
            rw [ep] at q1
            simp only at q1
            by_cases ha : a ∈ ci.flds
            · rw [if_pos ha] at q1
              obtain ⟨b, C, dx, vs, rfl, hb, hC, fv, hH⟩ := ins_at r1 dv ei
              have cf := G.fac.clf cc C ci hC ec
              have lv := fvs_look (an := g.an) G.fac.anNd hn fv
              cases el : lookA a fs with
              | none => rw [el] at q1; exact q1.elim
              | some w' =>
                rw [el] at q1 lv
                obtain ⟨u, h1, h2⟩ := lv
                have q2 : PostV g ρ H w' S1 Q := q1
                exact ⟨b, C, dx, vs, u, rfl, hH, by rw [G.K]; exact cf.cl, by rw [G.K]; exact cf.no a n ha hn, h1, q2 ρ1 H1 u p1 t1 r1 h2⟩
            · rw [if_neg ha] at q1; exact q1.elim
/-! ### f(..) -/
theorem star_any {es : List Expr} : es.any isStar = false → ∀ pos (env : Env), (backTo pos (starEach es env)).any (·.1) = false := by
  induction es with
  | nil => intro _ _ _; rfl
  | cons e r ih =>
    intro h pos env
    obtain ⟨h1, h2⟩ := Bool.or_eq_false_iff.mp (show (isStar e || r.any isStar) = false from h)
    rw [starEach_no h1]
    show (false || (backTo pos (starEach r env)).any (·.1)) = false
    rw [ih h2]
    rfl
theorem snd_call (G : Cxt g k cl W c X) {x : Str} {i : Nat} {es : List Expr} {as : Es} {p pos : Pos} (hd : x ∉ dunders) (hx : c.glob? x = some (.fn i)) (ha : PA X es (rdEs g cl W as)) (hs : es.any isStar = false) (hn : es = [] → as = .nil) :
    PE X (.Call (.Name x p) es [] pos) (rdE g cl W (.call i as)) := by
  obtain ⟨h1, h2⟩ := Cc.glob_ok hx
  rw [G.gl] at h2
  obtain ⟨fa, f1, f2, f3⟩ := G.fac.fn x i h2
  have hdb : (x == ("__debug__" : Str)) = false := by simp [dunders] at hd; simpa using hd.1
  refine ⟨fun pins s σ H Q I h => ?_⟩
  obtain ⟨ρ, ds, S, r, sl, q⟩ := h
  unfold evE at q
  refine wpAny_Call_Name_kw (ld_glob I (G.gl_ h1) (by rw [G.mg]; exact f2) ?_ hdb)
  have hq : rdEs g cl W as σ H (fun vs H1 => ∃ ρ S dd, Rel g.toGd ρ S H1 ∧ DVs g.toGd ρ H1 dd vs ∧ MPost (cl i dd S) (fun d S' => PostV g ρ H1 d S' Q) (fun c fs S' => PostX g ρ H1 c fs S' fun cls dd H' => W cls dd σ H')) :=
    rdEs.bind r sl q fun ρ1 H1 S1 d v p1 t1 r1 dv sl1 q1 => ⟨ρ1, S1, d, r1, dv, q1.imp (fun d S' z => z.mono p1 t1) fun _ _ _ z => z⟩
  cases es with
  | nil =>
    cases hn rfl
    exact PySem.W.callWith_K0 I.kIn (by rw [G.K]; exact f3) (own_call G f1 (vs := []) (ds := []) I .nil r .nil q)
  | cons e es =>
    obtain ⟨hs1, hs2⟩ := Bool.or_eq_false_iff.mp (show (isStar e || es.any isStar) = false from hs)
    refine PySem.W.callWith_K (h₀ := X.base) I.ok.mod.kin (by rw [G.K]; exact f3) (wpAny_mono (ha.run pos pins s σ H _ I hq) (fun us s1 hh => ?_) fun _ _ z => z) (starEach_no hs1) (star_any hs2 _ _)
    obtain ⟨vs, H1, I1, rv, ρ1, S1, dd, r1, dv, q1⟩ := hh
    exact ⟨I1.kIn, own_call G f1 I1 rv r1 dv q1⟩
/-! ### C(..) -/
theorem own_make (G : Cxt g k cl W c X) (hr : Room (k + 1) X.A) {cc : Nat} {C : Addr} (hC : g.clA[cc]? = some C) {pins : List (Addr × Obj)} {s : Shared} {σ : L2.St} {H : Hp} {us : List Value} {vs : List V} {ds : List D} {ρ : List Addr} {S : Sto} {Q : VK}
    (I : Inv X pins σ H s) (rv : Vals vs us) (r : Rel g.toGd ρ S H) (dv : DVs g.toGd ρ H ds vs)
    (q : MPost (makeD g.pg cl cc ds S) (fun d S' => PostV g ρ H d S' Q) (fun c fs S' => PostX g ρ H c fs S' fun cls dd H' => W cls dd σ H')) :
    wpAny (model X.prog X.w) X.A (PySem.call (.ref C) us) (EP X pins σ Q) X.xe s := by
  unfold makeD at q
  cases ec : g.pg.cls[cc]? with
  | none => rw [ec] at q; exact q.elim
  | some ci =>
    rw [ec] at q
    simp only at q
    cases ex : ci.exf with
    | some _ => rw [ex] at q; exact q.elim
    | none =>
      rw [ex] at q
      cases ei : ci.init with
      | none => rw [ei] at q; exact q.elim
      | some f =>
        rw [ei] at q
        simp only at q
        have cf := G.fac.clf cc C ci hC ec
        obtain ⟨fa, f1, mk⟩ := cf.mkr f ei
        obtain ⟨fd, ps, F, B, hl⟩ := G.fnOk f1
        -- the new instance
        have nd : H s.heap.objs.size = none := I.hok.fresh (Nat.le_refl _)
        have nx : H (s.heap.objs.size + 1) = none := I.hok.fresh (Nat.le_succ _)
        have nex : (s.heap.objs.size + 1 : Nat) ≠ s.heap.objs.size := Nat.succ_ne_self _
        have nx' : (upd H s.heap.objs.size (.own (s.heap.objs.size + 1))) (s.heap.objs.size + 1) = none := by rw [upd_ne nex]; exact nx
        have r1 := r.tup (o := .own (s.heap.objs.size + 1)) nd
        have t1 : TupK g.toGd H (upd H s.heap.objs.size (.own (s.heap.objs.size + 1))) := .new nd
        have t2 := t1.trans (.new (o := .ins C s.heap.objs.size []) nx')
        have r2 := r1.new (o := .ins cc []) (ho := .ins C s.heap.objs.size []) nx' ⟨C, _, [], hC, rfl, upd_same⟩
        have I2 := Inv.made (C := C) I
        have pre : ρ <+: ρ ++ [s.heap.objs.size + 1] := List.prefix_append _ _
        have dvx : DV g.toGd (ρ ++ [s.heap.objs.size + 1]) (upd (upd H s.heap.objs.size (.own (s.heap.objs.size + 1))) (s.heap.objs.size + 1) (.ins C s.heap.objs.size [])) (.obj S.length) (.ref (s.heap.objs.size + 1)) := by
          unfold DV
          exact ⟨_, rfl, by rw [← r.len]; simp⟩
        have dva := DVs.cons dvx (dv.mono pre t2)
        have q1 := MPost.bindE q
        have hlen : (D.obj S.length :: ds).length = ps.length := by
          cases ef : cl f (.obj S.length :: ds) (S ++ [.ins cc []]) with
          | none => rw [ef] at q1; exact q1.elim
          | some rr => exact hl _ _ _ ef
        have hsp : spI g cl f ps.length (V.ref (s.heap.objs.size + 1) :: vs) (upd (upd H s.heap.objs.size (.own (s.heap.objs.size + 1))) (s.heap.objs.size + 1) (.ins C s.heap.objs.size []))
            (fun v H2 => v = .non ∧ Q (.ref (s.heap.objs.size + 1)) H2) (fun cls dd H' => W cls dd σ H') := by
          refine ⟨_, _, _, r2, dva, hlen, q1.imp (fun d S' z => ?_) fun c fs S' z => z.mono pre t2⟩
          obtain ⟨_, z⟩ := z
          cases d <;> first | exact z.elim | skip
          intro ρ' H' v a1 a2 a3 a4
          refine ⟨non_dv a4, ?_⟩
          have z' : PostV g ρ H (.obj S.length) S' Q := z
          exact z' ρ' H' _ (pre.trans a1) (t2.trans a2) a3 (dvx.mono a1 a2)
        have rv2 : Vals (V.ref (s.heap.objs.size + 1) :: vs) (Value.ref (s.heap.objs.size + 1) :: us) := .cons rfl rv
        have hb := B { s with heap := (s.heap.push PySem.W.emptyDict).push (PySem.W.instObj C s.heap.objs.size) } (Value.ref (s.heap.objs.size + 1) :: us) I2.kIn (by rw [List.append_nil, ← rv2.length]; exact (F.len _ _ _ _ hsp))
        rw [List.append_nil] at hb
        refine wpAny_call (make_map (f := fa) I.kIn (by rw [G.K]; exact mk.makes) (by rw [G.K]; exact mk.init) (by rw [G.K]; exact beq_iff_eq.mp mk.fn) (codeAny_mono (F.run _ X.stack _ _ ⟨Value.ref (s.heap.objs.size + 1) :: us, []⟩ _ _ _ _ (hr.make C us []) (I2.env0.make C us []) hb rv2 hsp) fun r s' hq' => ?_))
        cases r with
        | error e => exact passAt G.tk σ pins _ _ e s' I2 hq'
        | ok fl =>
          cases fl with
          | next => exact hq'.elim
          | brk => exact hq'.elim
          | cont => exact hq'.elim
          | ret u =>
            obtain ⟨v, H', I3, rv', ev, q3⟩ := I2.after hq'
            subst ev
            exact ⟨rv', ⟨V.ref (s.heap.objs.size + 1), H', I3, rfl, q3⟩⟩
theorem snd_make (G : Cxt g k cl W c X) (hr : Room (k + 1) X.A) {x : Str} {i : Nat} {es : List Expr} {as : Es} {p pos : Pos} (hd : x ∉ dunders) (hx : c.glob? x = some (.cls i)) (ha : PA X es (rdEs g cl W as)) (hs : es.any isStar = false) (hn : es = [] → as = .nil) :
    PE X (.Call (.Name x p) es [] pos) (rdE g cl W (.make i as)) := by
  obtain ⟨h1, h2⟩ := Cc.glob_ok hx
  rw [G.gl] at h2
  obtain ⟨C, f1, f2⟩ := G.fac.cls x i h2
  have hdb : (x == ("__debug__" : Str)) = false := by simp [dunders] at hd; simpa using hd.1
  refine ⟨fun pins s σ H Q I h => ?_⟩
  obtain ⟨ρ, ds, S, r, sl, q⟩ := h
  unfold evE at q
  refine wpAny_Call_Name_kw (ld_glob I (G.gl_ h1) (by rw [G.mg]; exact f2) ?_ hdb)
  -- the class may be made
  have hkp : PySem.W.keepIn X.K (.ref C) = true := by
    have q0 := q.bind
    cases e0 : evEs g.pg cl ds as S with
    | none => rw [e0] at q0; exact q0.elim
    | some rr =>
      rw [G.K]
      exact G.fac.kpc x i C h2 f1
  have hq : rdEs g cl W as σ H (fun vs H1 => ∃ ρ S dd, Rel g.toGd ρ S H1 ∧ DVs g.toGd ρ H1 dd vs ∧ MPost (makeD g.pg cl i dd S) (fun d S' => PostV g ρ H1 d S' Q) (fun c fs S' => PostX g ρ H1 c fs S' fun cls dd H' => W cls dd σ H')) :=
    rdEs.bind r sl q fun ρ1 H1 S1 d v p1 t1 r1 dv sl1 q1 => ⟨ρ1, S1, d, r1, dv, q1.imp (fun d S' z => z.mono p1 t1) fun _ _ _ z => z⟩
  cases es with
  | nil =>
    cases hn rfl
    exact PySem.W.callWith_K0 I.kIn hkp (own_make G hr f1 (vs := []) (ds := []) I .nil r .nil q)
  | cons e es =>
    obtain ⟨hs1, hs2⟩ := Bool.or_eq_false_iff.mp (show (isStar e || es.any isStar) = false from hs)
    refine PySem.W.callWith_K (h₀ := X.base) I.ok.mod.kin hkp (wpAny_mono (ha.run pos pins s σ H _ I hq) (fun us s1 hh => ?_) fun _ _ z => z) (starEach_no hs1) (star_any hs2 _ _)
    obtain ⟨vs, H1, I1, rv, ρ1, S1, dd, r1, dv, q1⟩ := hh
    exact ⟨I1.kIn, own_make G hr f1 I1 rv r1 dv q1⟩
/-! ### o.m(..), an own method -/
theorem form_ok {es : List Expr} {pos : Pos} {env : Env} (hs : es.any isStar = false) (hl : es.length < 29) : methodCallForm (es.length + ([] : List Keyword).length) (backTo pos (starEach es env)) (backToKw pos (keywordEach [] env)) = true := by
  have h1 : (backTo pos (starEach es env)).all (fun z => !z.1) = true := by
    have := star_any hs pos env
    rw [List.all_eq_true]
    intro z hz
    have h2 := List.any_eq_false.mp this z hz
    simpa using h2
  unfold methodCallForm
  rw [h1]
  show (true && true && decide (es.length + 0 + 0 < 30)) = true
  rw [decide_eq_true (by omega)]
  rfl
theorem mcall_eval {o : Expr} {m : Str} {apos pos : Pos} {es : List Expr} {env : Env} (ho : attrOk o = true) (hs : es.any isStar = false) (hl : es.length < 29) (hline : (apos.endLine == pos.line) = true) :
    eval (.Call (.Attribute o m apos) es [] pos) env = (do
      let ov ← eval o env
      standAt apos.atName
      let (f, first) ← holding [ov] (getMethod ov m (plainOf o env))
      callWith pos f first (backTo pos (starEach es env)) (backToKw pos (keywordEach [] env))) := by
  rw [arm_eval_Call, attr_ok ho]
  congr 1
  funext ov
  congr 1
  funext _
  rw [mcall_line (form_ok hs hl) hline]
theorem snd_meth (G : Cxt g k cl W c X) {o : Expr} {m : Nat} {n : Str} {es : List Expr} {x : LA.E} {as : Es} {apos pos : Pos} (he : PE X o (rdE g cl W x)) (ha : PA X es (rdEs g cl W as)) (hm : g.an[m]? = some n)
    (ho : attrOk o = true) (hs : es.any isStar = false) (hl : es.length < 29) (hline : (apos.endLine == pos.line) = true) (hn : es = [] → as = .nil) :
    PE X (.Call (.Attribute o n apos) es [] pos) (rdE g cl W (.meth x m as)) := by
  refine ⟨fun pins s σ H Q I h => ?_⟩
  obtain ⟨ρ, ds, S, r, sl, q⟩ := h
  unfold evE at q
  refine PySem.W.methodCall_KW (pl := plainOf o X.env) ?_ (mcall_eval ho hs hl hline)
  -- the receiver; then the arguments
  have hq : rdE g cl W x σ H (fun v H1 => ∃ a C dx fs fa f, v = .ref a ∧ H1 a = some (.ins C dx fs) ∧ Cls X.K C ∧ Meth X.K C n fa ∧ fs.lookup n = none ∧ g.fnA[f]? = some fa ∧
      rdEs g cl W as σ H1 (fun vs H2 => ∃ ρ S dd, Rel g.toGd ρ S H2 ∧ DVs g.toGd ρ H2 dd (v :: vs) ∧ MPost (cl f dd S) (fun d S' => PostV g ρ H2 d S' Q) (fun c fs S' => PostX g ρ H2 c fs S' fun cls dd H' => W cls dd σ H'))) := by
    refine rdE.bindE r sl q fun ρ1 H1 S1 d v p1 t1 r1 dv sl1 e1 q1 => ?_
    have q2 := q1.bind
    unfold methF at q2
    cases d <;> first | exact q2.elim | skip
    rename_i i
    simp only at q2
    cases ei : S1[i]? with
    | none => rw [ei] at q2; exact q2.elim
    | some oo =>
      rw [ei] at q2
      cases oo with
      | lst _ _ => exact q2.elim
      | dct _ _ => exact q2.elim
      | ins cc fs =>
        simp only at q2
        cases ec : g.pg.cls[cc]? with
        | none => rw [ec] at q2; exact q2.elim
        | some ci =>
          rw [ec] at q2
          simp only at q2
          cases em : lookA m ci.meths with
          | none => rw [em] at q2; exact q2.elim
          | some f =>
            cases el : lookA m fs with
            | some _ => rw [em, el] at q2; exact q2.elim
            | none =>
              rw [em, el] at q2
              obtain ⟨a, C, dx, vs, rfl, ha', hC, fv, hH⟩ := ins_at r1 dv ei
              have cf := G.fac.clf cc C ci hC ec
              obtain ⟨fa, f1, f2⟩ := cf.me m f n em hm
              have lv := fvs_look (an := g.an) G.fac.anNd hm fv
              rw [el] at lv
              have q3 : MPost (M.bind (evEs g.pg cl ds as) (fun xs => cl f (.obj i :: xs)) S1) (fun d S' => PostV g ρ H d S' Q) (fun c fs S' => PostX g ρ1 H1 c fs S' fun cls dd H' => W cls dd σ H') := q2
              refine ⟨a, C, dx, vs, fa, f, rfl, hH, by rw [G.K]; exact cf.cl, by rw [G.K]; exact f2, lv, f1, ?_⟩
              exact rdEs.bind r1 sl1 q3 fun ρ2 H2 S2 d2 v2 p2 t2 r2 dv2 sl2 q4 => ⟨ρ2, S2, .obj i :: d2, r2, .cons (dv.mono p2 t2) dv2, q4.imp (fun d S' z => z.mono (p1.trans p2) (t1.trans t2)) fun _ _ _ z => z⟩
  refine wpAny_mono (he.run pins s σ H _ I hq) (fun u s1 hh => ?_) fun _ _ z => z
  obtain ⟨v, H1, I1, rv, a, C, dx, fs, fa, f, rfl, ea, hc, hme, hlk, hf, q1⟩ := hh
  cases rv
  refine getmeth_ok I1 ea hc hme hlk ?_
  cases es with
  | nil =>
    cases hn rfl
    obtain ⟨ρ1, ds1, S1, r1, sl1, q2⟩ := q1
    obtain ⟨ρ2, S2, dd, r2, dv2, q3⟩ := (show PostVs g ρ1 H1 [] S1 _ from q2) ρ1 H1 [] (List.prefix_refl _) .refl r1 .nil
    exact PySem.W.callWith_K0 (first := [.ref a]) I1.kIn hme.kp (own_call G hf (us := [.ref a]) I1 (.cons (show RelV (.ref a) (.ref a) from rfl) .nil) r2 dv2 q3)
  | cons e es =>
    obtain ⟨hs1, hs2⟩ := Bool.or_eq_false_iff.mp (show (isStar e || es.any isStar) = false from hs)
    refine PySem.W.callWith_K (first := [.ref a]) (h₀ := X.base) I1.ok.mod.kin hme.kp (wpAny_mono (ha.run pos pins s1 σ H1 _ I1 q1) (fun us s2 hh => ?_) fun _ _ z => z) (starEach_no hs1) (star_any hs2 _ _)
    obtain ⟨vs, H2, I2, rv2, ρ2, S2, dd, r2, dv2, q3⟩ := hh
    exact ⟨I2.kIn, own_call G hf (us := .ref a :: us) I2 (.cons (show RelV (.ref a) (.ref a) from rfl) rv2) r2 dv2 q3⟩
end
end LA

/-! Texts: the interpreter's text functions are the model's. -/
namespace LA
open PySem PySem.Spec PyProof.Rows L2
theorem tl_toStr (x : List Nat) : TL.tl (toStr x) = x := by simp [toStr, TL.tl]
theorem splitC_ne (c : Nat) : ∀ x : List Nat, splitC c x ≠ []
  | [] => by simp [splitC]
  | a :: r => by
    unfold splitC
    by_cases h : a = c
    · rw [if_pos h]; simp
    · rw [if_neg h]
      cases splitC c r <;> simp
def headAdd (acc : List Nat) : List (List Nat) → List (List Nat)
  | [] => [acc]
  | w :: ws => (acc ++ w) :: ws
theorem spl_splitC (c : Nat) : ∀ (x acc : List Nat), TL.spl [c] 0 acc x = headAdd acc (splitC c x)
  | [], acc => by rw [TL.spl_nil]; simp [splitC, headAdd]
  | a :: r, acc => by
    unfold splitC
    by_cases h : a = c
    · subst h
      rw [if_pos rfl, TL.spl_hit (by simp [TL.pre])]
      show acc :: TL.spl [a] 0 [] r = _
      rw [spl_splitC a r []]
      cases e : splitC a r with
      | nil => exact absurd e (splitC_ne a r)
      | cons w ws => simp [headAdd]
    · rw [if_neg h, TL.spl_miss (by simp [TL.pre, h]), spl_splitC c r (acc ++ [a])]
      cases e : splitC c r with
      | nil => exact absurd e (splitC_ne c r)
      | cons w ws => simp [headAdd]
theorem split_toStr {c : Nat} (hc : c < 256) (x : List Nat) : Txt.split (toStr x) (toStr [c]) = (splitC c x).map toStr := by
  refine TL.map_tl_inj ?_
  rw [TL.split_spl _ _ (by simp [toStr, TL.tl]) (TL.kind_ok (by simp [toStr, hc])), tl_toStr, tl_toStr, spl_splitC]
  have e : ((splitC c x).map toStr).map TL.tl = splitC c x := by
    rw [List.map_map]
    conv => rhs; rw [← List.map_id (splitC c x)]
    exact List.map_congr_left fun a _ => tl_toStr a
  rw [e]
  cases h : splitC c x with
  | nil => exact absurd h (splitC_ne c x)
  | cons w ws => simp [headAdd]
theorem joinL_eq (S : List Nat) : ∀ l : List (List Nat), joinL S l = TL.joinL S l
  | [] => rfl
  | [_] => rfl
  | p :: q :: r => by
    show p ++ S ++ joinL S (q :: r) = p ++ (S ++ TL.joinL S (q :: r))
    rw [joinL_eq S (q :: r), List.append_assoc]
theorem join_toStr (S : List Nat) (l : List (List Nat)) : Txt.join (toStr S) (l.map toStr) = toStr (joinL S l) := by
  refine TL.ext_tl ?_
  rw [TL.join_eq, TL.tl_join, tl_toStr, tl_toStr, joinL_eq]
  congr 1
  rw [List.map_map]
  conv => rhs; rw [← List.map_id l]
  exact List.map_congr_left fun a _ => tl_toStr a
theorem joinL_len (S : List Nat) : ∀ l : List (List Nat), (joinL S l).length + S.length = (l.map (·.length)).sum + l.length * S.length ∨ l = []
  | [] => .inr rfl
  | [p] => .inl (by simp [joinL])
  | p :: q :: r => by
    left
    rcases joinL_len S (q :: r) with h | h
    · show (p ++ S ++ joinL S (q :: r)).length + S.length = _
      simp only [List.length_append, List.map_cons, List.sum_cons, List.length_cons, Nat.succ_mul] at h ⊢
      omega
    · cases h
theorem dropC_while (c : Nat) : ∀ x : List Nat, dropC c x = x.drop (x.takeWhile (fun a => a == c)).length
  | [] => rfl
  | a :: r => by
    unfold dropC
    by_cases h : a = c
    · subst h
      rw [if_pos rfl, List.takeWhile_cons, if_pos (by simp), List.length_cons, List.drop_succ_cons, dropC_while]
    · rw [if_neg h, List.takeWhile_cons, if_neg (by simpa using h)]
      rfl
theorem strip_toStr (c : Nat) (x : List Nat) : Txt.stripChars (toStr x) (toStr [c]) = toStr (stripC c x) := by
  refine TL.ext_tl ?_
  unfold Txt.stripChars
  rw [stripBy_eq]
  have hg : (toStr [c]).cps.contains = fun a => a == c := by
    funext a
    simp [toStr]
    exact (Bool.beq_eq_decide_eq a c).symm
  show (Builtin.Str.strSub _ _ _).cps.toList = _
  rw [StrLaws.strSub_toList, hg, tl_toStr]
  have h1 : stripLo (fun a => a == c) true (toStr x) = (x.takeWhile (fun a => a == c)).length := by
    unfold stripLo; rw [if_pos rfl]; simp [toStr]
  rw [h1]
  unfold stripHi
  rw [if_pos rfl, toStr_len]
  have hx : (toStr x).cps.toList = x := tl_toStr x
  rw [hx, ← dropC_while]
  unfold stripC
  rw [dropC_while c (dropC c x).reverse]
  have hd : (dropC c x).length = x.length - (x.takeWhile (fun a => a == c)).length := by rw [dropC_while, List.length_drop]
  rw [List.reverse_drop, List.reverse_reverse, List.length_reverse, hd]
  congr 1
  omega
end LA

/-! Soundness: `*`, chained comparisons. -/
namespace LA
open PySem PySem.Spec PyProof.Rows L2
theorem foldl_app {α : Type} (x : Array α) : ∀ (k : Nat) (acc : Array α), ((List.replicate k x).foldl (· ++ ·) acc).toList = acc.toList ++ (List.replicate k x.toList).flatten
  | 0, acc => by simp
  | k + 1, acc => by
    rw [List.replicate_succ, List.foldl_cons, foldl_app x k, List.replicate_succ, List.flatten_cons, Array.toList_append, List.append_assoc]
theorem rep_nil {α : Type} : ∀ k : Nat, (List.replicate k ([] : List α)).flatten = []
  | 0 => rfl
  | k + 1 => by rw [List.replicate_succ, List.flatten_cons, rep_nil k]; rfl
def rMulS : R2 := fun x y H Q => ∃ (z : List Nat) (n : Int), x = .str (toStr z) ∧ y = .int n ∧ 0 ≤ n ∧ n < 2 ^ 30 ∧ z.length * n.toNat ≤ sizeL ∧ Q (.str (toStr (List.replicate n.toNat z).flatten)) H
theorem op_mulS {X : Cx} : OpR X (binaryOp .Mult) rMulS := by
  intro pins s σ H x y v u Q I rx ry h
  obtain ⟨z, n, rfl, rfl, h0, h1, h2, q⟩ := h
  obtain ⟨t, rfl⟩ := rx
  obtain ⟨t', rfl⟩ := ry
  have hz : (toStr z).length = z.length := toStr_len z
  have hbig : sizeL = 16777216 := rfl
  have a1 : decide (n < -(2 ^ 63 : Int)) = false := decide_eq_false (by omega)
  have a2 : decide (n ≥ 2 ^ 63) = false := decide_eq_false (by omega)
  refine PySem.P.mul_str (by rw [a1, a2]; rfl) (fun hn _ hc => ?_) (fun hn _ => ?_) ?_
  · rw [hz] at hc
    have : (2 : Int) ^ 33 ≤ (2 ^ 63 - 1) / n := by
      refine (Int.le_ediv_iff_mul_le (by omega)).mpr ?_
      omega
    have hm : z.length * 1 ≤ z.length * n.toNat := Nat.mul_le_mul_left _ (by omega)
    have hc' : (z.length : Int) > (2 ^ 63 - 1) / n := hc
    generalize (2 ^ 63 - 1) / n = d at this hc'
    generalize z.length * n.toNat = b at hm h2
    omega
  · rw [hz]
    unfold Builtin.Str.tooLong
    exact decide_eq_false (by rw [← sizeL_eq]; omega)
  · by_cases hn : n < 1
    · rw [if_pos hn]
      have e0 : n.toNat = 0 := by omega
      rw [e0] at q
      refine ⟨Nat.zero_le _, ?_⟩
      exact ⟨.str (toStr []), H, I.tok _, ⟨_, rfl⟩, q⟩
    · rw [if_neg hn]
      by_cases h1' : (n == 1 || (toStr z).length == 0) = true
      · rw [if_pos h1']
        refine ⟨.str (toStr z), H, I, ⟨t, rfl⟩, ?_⟩
        rw [Bool.or_eq_true, beq_iff_eq, beq_iff_eq, hz] at h1'
        rcases h1' with e | e
        · subst e
          have e2 : (List.replicate (1 : Int).toNat z).flatten = z := by simp
          rw [e2] at q; exact q
        · have e3 : z = [] := List.eq_nil_of_length_eq_zero e
          subst e3
          rw [rep_nil] at q; exact q
      · rw [if_neg h1']
        have e4 : (⟨(List.replicate n.toNat (toStr z).cps).foldl (· ++ ·) #[]⟩ : Str) = toStr (List.replicate n.toNat z).flatten := by
          refine TL.ext_tl ?_
          rw [tl_toStr]
          show (((List.replicate n.toNat (toStr z).cps).foldl (· ++ ·) #[]) : Array Nat).toList = _
          rw [foldl_app]
          simp [toStr]
        rw [e4]
        refine ⟨?_, ⟨.str (toStr (List.replicate n.toNat z).flatten), H, I.tok _, ⟨_, rfl⟩, q⟩⟩
        rw [toStr_len, ← sizeL_eq]
        have e5 : ∀ m : Nat, (List.replicate m z).flatten.length = z.length * m := by
          intro m
          induction m with
          | zero => simp
          | succ m ih => rw [List.replicate_succ, List.flatten_cons, List.length_append, ih, Nat.mul_succ, Nat.add_comm]
        rw [e5]; exact h2
section
variable {g : GdX} {cl : Nat → List D → M D} {W : WX} {k : Nat} {c : Cc} {X : Cx}
theorem dvs_rep {ρ : List Addr} {H : Hp} {xs : List D} {vs : List V} (h : DVs g.toGd ρ H xs vs) : ∀ n : Nat, DVs g.toGd ρ H (List.replicate n xs).flatten (List.replicate n vs).flatten
  | 0 => .nil
  | n + 1 => by
    rw [List.replicate_succ, List.replicate_succ, List.flatten_cons, List.flatten_cons]
    exact h.append (dvs_rep h n)
theorem snd_mul (G : Gk g k c X) {a b : Expr} {x y : LA.E} {pos : Pos} (ha : PE X a (rdE g cl W x)) (hb : PE X b (rdE g cl W y)) : PE X (.BinOp a .Mult b pos) (rdE g cl W (.bin .mul x y)) := by
  refine snd_bin (((op_mul.or op_rep).or op_repT).or op_mulS) ha hb fun ρ H S dx dy vx vy Q r h1 h2 q => ?_
  cases dx with
  | non => cases dy <;> exact q.elim
  | bl _ => cases dy <;> exact q.elim
  | int i =>
    cases dy <;> first | exact q.elim | skip
    rename_i j
    simp only [binD] at q
    by_cases hc : (-(2 ^ 64) < i ∧ i < 2 ^ 64) ∨ (-(2 ^ 64) < j ∧ j < 2 ^ 64)
    · rw [if_pos hc] at q
      exact .inl (.inl (.inl ⟨_, _, int_dv h1, int_dv h2, hc, post_here q r dv_int⟩))
    · rw [if_neg hc] at q; exact q.elim
  | str z =>
    cases dy <;> first | exact q.elim | skip
    rename_i n
    simp only [binD] at q
    by_cases hc : 0 ≤ n ∧ n < 2 ^ 30 ∧ z.length * n.toNat ≤ sizeL
    · rw [if_pos hc] at q
      exact .inr ⟨z, n, str_dv h1, int_dv h2, hc.1, hc.2.1, hc.2.2, post_here q r dv_str⟩
    · rw [if_neg hc] at q; exact q.elim
  | tup xs =>
    cases dy <;> first | exact q.elim | skip
    rename_i n
    simp only [binD] at q
    by_cases hc : xs.length ≠ 0 ∧ 2 ≤ n ∧ n ≤ 1000 ∧ xs.length ≤ 1000
    · rw [if_pos hc] at q
      obtain ⟨a, vs, rfl, sq, dv⟩ := tup_dv h1
      have hl := dv.length
      have q' : PostV g ρ H (.tup (List.replicate n.toNat xs).flatten) S Q := q
      refine .inl (.inr ⟨a, n, vs, rfl, int_dv h2, by rw [G.K]; exact sq, fun z => hc.1 (by rw [hl, z]; rfl), hc.2.1, hc.2.2.1, by rw [← hl]; exact hc.2.2.2, fun p hp => ?_⟩)
      exact post_tup q' (List.prefix_refl _) .refl r (dvs_rep dv _) hp
    · rw [if_neg hc] at q; exact q.elim
  | obj i =>
    cases dy <;> first | exact q.elim | skip
    rename_i n
    simp only [binD] at q
    cases ei : S[i]? with
    | none => rw [ei] at q; exact q.elim
    | some o =>
      rw [ei] at q
      cases o with
      | dct _ _ => exact q.elim
      | ins _ _ => exact q.elim
      | lst xs lk =>
        cases lk with
        | true => exact q.elim
        | false =>
          simp only at q
          by_cases hc : 0 ≤ n ∧ n < 2 ^ 30 ∧ xs.length * n.toNat ≤ sizeL
          · rw [if_pos hc] at q
            obtain ⟨a, vs, rfl, _, hh, dv⟩ := lst_at r h1 ei
            have hl := dv.length
            refine .inl (.inl (.inr ⟨a, n, vs, rfl, int_dv h2, hh, by omega, by omega, by rw [← hl, ← sizeL_eq]; exact hc.2.2, fun p hp => ?_⟩))
            exact post_lst q (List.prefix_refl _) .refl r (dvs_rep dv _) hp
          · rw [if_neg hc] at q; exact q.elim
theorem marks_no {o p : CmpOp} {b d : Expr} (h : isSet d = false) : lastMarks [o, p] [b, d] = false := behind_no h
theorem cmp2_rd {o p : CO} {x y z : LA.E} {σ : L2.St} {H : Hp} {ρ : List Addr} {ds : En} {S : Sto} {Q : VK} {α : Type} {f : D → M α} {kk : α → Sto → Prop} (r : Rel g.toGd ρ S H) (sl : SlR g.toGd ρ H ds σ)
    (q : MPost (M.bind (evE g.pg cl ds (.cmp2 o p x y z)) f S) kk (fun c fs S' => PostX g ρ H c fs S' fun cls dd H' => W cls dd σ H'))
    (hq : ∀ ρ1 H1 S1 b, ρ <+: ρ1 → TupK g.toGd H H1 → Rel g.toGd ρ1 S1 H1 → MPost (f (.bl b) S1) kk (fun c fs S' => PostX g ρ1 H1 c fs S' fun cls dd H' => W cls dd σ H') → Q (.bl b) H1) :
    rdE g cl W x σ H (fun vx H1 => rdE g cl W y σ H1 (fun vy H2 => rCmp g cl W o σ vx vy H2 (fun w H3 => ∃ b, w = .bl b ∧ (if b = true then rdE g cl W z σ H3 (fun vz H4 => rCmp g cl W p σ vy vz H4 Q) else Q (.bl false) H3)))) := by
  unfold evE at q
  rw [assoc_bind] at q
  refine rdE.bind r sl q fun ρ1 H1 S1 d v p1 t1 r1 dv sl1 q1 => ?_
  rw [assoc_bind] at q1
  refine rdE.bind r1 sl1 q1 fun ρ2 H2 S2 d2 v2 p2 t2 r2 dv2 sl2 q2 => ?_
  rw [assoc_bind] at q2
  refine ⟨ρ2, S2, d, d2, r2, dv.mono p2 t2, dv2, (cmp_bl q2.bind).imp (fun d3 S3 h3 => ?_) fun _ _ _ z => z⟩
  obtain ⟨⟨b, rfl⟩, h3⟩ := h3
  intro ρ3 H3 v3 p3 t3 r3 dv3
  refine ⟨b, bl_dv dv3, ?_⟩
  cases b with
  | false =>
    rw [if_neg Bool.false_ne_true]
    exact hq ρ3 H3 S3 false (p1.trans (p2.trans p3)) (t1.trans (t2.trans t3)) r3 (h3.imp (fun _ _ z => z) fun _ _ _ z => z.mono p3 t3)
  | true =>
    rw [if_pos rfl]
    simp only at h3
    rw [assoc_bind] at h3
    refine rdE.bind r3 (sl2.mono p3 t3) (h3.imp (fun _ _ z => z) fun _ _ _ z => z.mono p3 t3) fun ρ4 H4 S4 d4 v4 p4 t4 r4 dv4 sl4 q4 => ?_
    refine ⟨ρ4, S4, d2, d4, r4, dv2.mono (p3.trans p4) (t3.trans t4), dv4, (cmp_bl q4.bind).imp (fun d5 S5 h5 => ?_) fun _ _ _ z => z⟩
    obtain ⟨⟨b, rfl⟩, h5⟩ := h5
    intro ρ5 H5 v5 p5 t5 r5 dv5
    cases bl_dv dv5
    exact hq ρ5 H5 S5 b (p1.trans (p2.trans (p3.trans (p4.trans p5)))) (t1.trans (t2.trans (t3.trans (t4.trans t5)))) r5 (h5.imp (fun _ _ z => z) fun _ _ _ z => z.mono p5 t5)
theorem bind_pure {α : Type} (m : M α) (S : Sto) : M.bind m (fun a => M.pure a) S = m S := by
  unfold M.bind
  cases m S with
  | none => rfl
  | some r => obtain ⟨r, S1⟩ := r; cases r <;> rfl
theorem snd_cmp2 (G : Cxt g k cl W c X) {a b d : Expr} {o p : CmpOp} {x y z : LA.E} {pos : Pos} (ha : PE X a (rdE g cl W x)) (hb : PE X b (rdE g cl W y)) (hd : PE X d (rdE g cl W z)) (hm : isSet d = false) :
    PE X (.Compare a [o, p] [b, d] pos) (rdE g cl W (.cmp2 (coOf o) (coOf p) x y z)) := by
  refine ⟨fun pins s σ H Q I h => ?_⟩
  obtain ⟨ρ, ds, S, r, sl, q⟩ := h
  have q0 : MPost (M.bind (evE g.pg cl ds (.cmp2 (coOf o) (coOf p) x y z)) (fun a => M.pure a) S) (fun d S' => PostV g ρ H d S' Q) (fun c fs S' => PostX g ρ H c fs S' fun cls dd H' => W cls dd σ H') := by rw [bind_pure]; exact q
  have q' := cmp2_rd (Q := Q) r sl q0 fun ρ1 H1 S1 b p1 t1 r1 q1 => (show PostV g ρ H (.bl b) S1 Q from q1) ρ1 H1 _ p1 t1 r1 dv_bl
  refine Compare_chain (thn (ha.run pins s σ H _ I q') fun v s1 ⟨vx, H1, I1, r1, q1⟩ => chain_link (thn (hb.run pins s1 σ H1 _ I1 q1) fun u s2 ⟨vy, H2, I2, r2, q2⟩ =>
    thn (op2_cmp G o pins s2 σ H2 vx vy v u _ I2 r1 r2 q2) fun w s3 ⟨vw, H3, I3, r3, n, e, q3⟩ => ?_)) (marks_no hm)
  subst e
  cases r3
  refine wpAny_truthy_bool ?_
  cases n with
  | false => exact ite_ff ⟨.bl false, H3, I3, rfl, q3⟩
  | true => exact ite_tt (chain_last (thn (hd.run pins s3 σ H3 _ I3 q3) fun w' s4 ⟨vz, H4, I4, r4, q4⟩ => op2_cmp G p pins s4 σ H4 vy vz u w' Q I4 r2 r4 q4))
theorem snd_cmp2T (G : Cxt g k cl W c X) {a b d : Expr} {o p : CmpOp} {x y z : LA.E} {pos : Pos} (ha : PE X a (rdE g cl W x)) (hb : PE X b (rdE g cl W y)) (hd : PE X d (rdE g cl W z)) (hm : isSet d = false) :
    PT X (.Compare a [o, p] [b, d] pos) (rdT g cl W (.cmp2 (coOf o) (coOf p) x y z)) := by
  refine ⟨fun pins s σ H Q I h => ?_⟩
  obtain ⟨ρ, ds, S, r, sl, q⟩ := h
  have q' := cmp2_rd (Q := fun w H' => ∃ b, w = .bl b ∧ Q b H') r sl q fun ρ1 H1 S1 b p1 t1 r1 q1 => ⟨b, rfl, (show ∀ ρ' H', ρ <+: ρ' → TupK g.toGd H H' → Rel g.toGd ρ' S1 H' → Q b H' from q1) ρ1 H1 p1 t1 r1⟩
  refine isTrue_chain (thn (ha.run pins s σ H _ I q') fun v s1 ⟨vx, H1, I1, r1, q1⟩ => test_link (thn (hb.run pins s1 σ H1 _ I1 q1) fun u s2 ⟨vy, H2, I2, r2, q2⟩ =>
    thn (op2_cmp G o pins s2 σ H2 vx vy v u _ I2 r1 r2 q2) fun w s3 ⟨vw, H3, I3, r3, n, e, q3⟩ => ?_)) (marks_no hm)
  subst e
  cases r3
  refine wpAny_truthy_bool ?_
  cases n with
  | false =>
    obtain ⟨n', e', q'⟩ := q3
    cases e'
    exact ite_ff ⟨H3, I3, q'⟩
  | true =>
    refine ite_tt (test_last (thn (hd.run pins s3 σ H3 _ I3 q3) fun w' s4 ⟨vz, H4, I4, r4, q4⟩ => thn (op2_cmp G p pins s4 σ H4 vy vz u w' _ I4 r2 r4 q4) fun w2 s5 ⟨v5, H5, I5, r5, n2, e2, q5⟩ => ?_))
    subst e2
    cases r5
    exact wpAny_truthy_bool ⟨H5, I5, q5⟩
end
end LA

/-! Soundness: built-in functions, isinstance. -/
namespace LA
open PySem PySem.Spec PyProof.Rows L2
theorem dvs_strs {G : Gd} {ρ : List Addr} {H : Hp} : ∀ {xs : List D} {vs : List V} {ws : List (List Nat)}, DVs G ρ H xs vs → «strsL» xs = some ws → vs = (ws.map toStr).map V.str
  | [], vs, ws, h, e => by cases e; exact h.nil_inv
  | x :: r, vs, ws, h, e => by
    obtain ⟨v, us, rfl, dv, hr⟩ := h.cons_inv
    cases x <;> first | (cases e; done) | skip
    rename_i z
    unfold «strsL» at e
    cases e2 : «strsL» r with
    | none => rw [e2] at e; cases e
    | some l =>
      rw [e2] at e
      cases e
      unfold DV at dv
      rw [dv, dvs_strs hr e2]
      rfl
theorem strs_dvs {G : Gd} {ρ : List Addr} {H : Hp} : ∀ ws : List (List Nat), DVs G ρ H (ws.map D.str) ((ws.map toStr).map V.str)
  | [] => .nil
  | w :: ws => .cons (by unfold DV; rfl) (strs_dvs ws)
/-! ### sorted -/
theorem ltCps_lt : ∀ x y : List Nat, ltCps x y = decide (x < y)
  | [], [] => by simp [ltCps]
  | [], _ :: _ => by simp [ltCps]
  | _ :: _, [] => by simp [ltCps]
  | a :: r, b :: t => by
    rw [Bool.eq_iff_iff]
    simp [ltCps, ltCps_lt r t, List.cons_lt_cons_iff]
theorem rising_pw : ∀ (p : Str) (l : List Str), risingS p l = true → (p :: l).Pairwise (fun a b => ¬ b.cps.toList < a.cps.toList)
  | p, [], _ => by simp
  | p, x :: r, h => by
    unfold risingS at h
    rw [Bool.and_eq_true, Bool.not_eq_true', ltCps_lt, decide_eq_false_iff_not] at h
    have ih := rising_pw x r h.2
    refine List.pairwise_cons.mpr ⟨fun y hy => ?_, ih⟩
    rcases List.mem_cons.mp hy with e | hy
    · subst e; exact h.1
    · have h2 := (List.pairwise_cons.mp ih).1 y hy
      intro z
      rcases Nat.lt_or_ge 0 0 with w | _
      · exact absurd w (Nat.lt_irrefl _)
      · have h3 : x.cps.toList ≤ y.cps.toList := h2
        have h4 : p.cps.toList ≤ x.cps.toList := h.1
        exact (List.le_trans h4 h3) z
theorem sorted_pw : ∀ l : List Str, sortedS l = true → l.Pairwise (fun a b => a.cps.toList ≤ b.cps.toList)
  | [], _ => by simp
  | x :: r, h => rising_pw x r h
theorem insB_perm {α : Type} (le : α → α → Bool) (x : α) : ∀ l : List α, (insB le x l).Perm (x :: l)
  | [] => .refl _
  | y :: r => by
    unfold insB
    split
    · exact .refl _
    · exact ((insB_perm le x r).cons y).trans (.swap x y r)
theorem isort_perm {α : Type} (le : α → α → Bool) : ∀ l : List α, (isort le l).Perm l
  | [] => .refl _
  | x :: r => (insB_perm le x _).trans ((isort_perm le r).cons x)
theorem insB_pw (x : List Nat) : ∀ l : List (List Nat), l.Pairwise (· ≤ ·) → (insB (fun x y => !ltL y x) x l).Pairwise (· ≤ ·)
  | [], _ => by simp [insB]
  | y :: r, h => by
    unfold insB
    rw [ltL_lt]
    obtain ⟨h1, h2⟩ := List.pairwise_cons.mp h
    by_cases hy : y < x
    · rw [decide_eq_true hy]
      simp only [Bool.not_true, Bool.false_eq_true, if_false]
      refine List.pairwise_cons.mpr ⟨fun z hz => ?_, insB_pw x r h2⟩
      rcases List.mem_cons.mp ((insB_perm _ x r).mem_iff.mp hz) with e | hz
      · subst e; exact List.le_of_lt hy
      · exact h1 z hz
    · rw [decide_eq_false hy]
      simp only [Bool.not_false, if_true]
      refine List.pairwise_cons.mpr ⟨fun z hz => ?_, h⟩
      have hxy : x ≤ y := hy
      rcases List.mem_cons.mp hz with e | hz
      · subst e; exact hxy
      · exact List.le_trans hxy (h1 z hz)
theorem isort_pw : ∀ l : List (List Nat), (isort (fun x y => !ltL y x) l).Pairwise (· ≤ ·)
  | [] => by simp [isort]
  | x :: r => insB_pw x _ (isort_pw r)
/-- the one sorted list -/
theorem sorted_is {ws : List (List Nat)} {ys : List Str} (hp : ys.Perm (ws.map toStr)) (hs : sortedS ys = true) : ys = (isort (fun x y => !ltL y x) ws).map toStr := by
  have h1 : (ys.map TL.tl).Perm ws := by
    have := hp.map TL.tl
    rw [List.map_map] at this
    have e : ws.map (TL.tl ∘ toStr) = ws := by
      conv => rhs; rw [← List.map_id ws]
      exact List.map_congr_left fun a _ => tl_toStr a
    rwa [e] at this
  have h2 : (ys.map TL.tl).Pairwise (· ≤ ·) := List.pairwise_map.mpr (sorted_pw ys hs)
  have h3 : ys.map TL.tl = isort (fun x y => !ltL y x) ws := List.Perm.eq_of_pairwise (fun a b _ _ z1 z2 => List.le_antisymm z1 z2) h2 (isort_pw ws) (h1.trans (isort_perm _ ws).symm)
  refine TL.map_tl_inj ?_
  rw [h3, List.map_map]
  conv => lhs; rw [← List.map_id (isort _ ws)]
  exact List.map_congr_left fun a _ => (tl_toStr a).symm
/-! ### numbers as texts -/
theorem digits_eq (i : Int) (h : 0 ≤ i) : (toString i : String).toList.map Char.toNat = digits i.toNat := by
  obtain ⟨n, rfl⟩ := Int.eq_ofNat_of_zero_le h
  show (toString ((n : Nat) : Int)).toList.map _ = (Nat.toDigits 10 n).map _
  have e : (toString ((n : Nat) : Int) : String) = String.ofList (Nat.toDigits 10 n) := rfl
  rw [e, String.toList_ofList]
theorem strI_eq (i : Int) (h : 0 ≤ i) : (Str.ofString (toString i)) = toStr (strI i) := by
  refine TL.ext_tl ?_
  rw [TL.tl_ofString, tl_toStr]
  exact digits_eq i h
theorem log_small {i : Int} (h : 0 ≤ i ∧ i < 1000000) : i.natAbs.log2 < 1920 := by
  have h1 : i.natAbs < 2 ^ 20 := by omega
  by_cases h0 : i.natAbs = 0
  · rw [h0]; decide
  · have := (Nat.log2_lt h0).mpr h1
    omega
section
variable {g : GdX} {cl : Nat → List D → M D} {W : WX} {k : Nat} {c : Cc} {X : Cx}
/-- a built-in function by its rule -/
theorem bi_rd {as : Es} {b : BI} {rr : List V → Hp → VK → Prop}
    (h : ∀ ρ H S ds vs Q, Rel g.toGd ρ S H → DVs g.toGd ρ H ds vs → MPost (biD b ds S) (fun d S' => PostV g ρ H d S' Q) (fun _ _ _ => True) → rr vs H Q) :
    ∀ σ H Q, rdE g cl W (.bi b as) σ H Q → tCB rr (rdEs g cl W as) σ H Q := by
  rintro σ H Q ⟨ρ, ds, S, r, sl, q⟩
  unfold evE at q
  exact rdEs.bind r sl q fun ρ1 H1 S1 d v p1 t1 r1 dv sl1 q1 => h ρ1 H1 S1 d v Q r1 dv (q1.imp (fun d S' z => z.mono p1 t1) fun _ _ _ _ => trivial)
theorem one_dvs {ρ : List Addr} {H : Hp} {d : D} {vs : List V} (h : DVs g.toGd ρ H [d] vs) : ∃ v, vs = [v] ∧ DV g.toGd ρ H d v := by
  obtain ⟨v, ws, rfl, dv, hr⟩ := h.cons_inv
  exact ⟨v, by rw [hr.nil_inv], dv⟩
theorem two_dvs {ρ : List Addr} {H : Hp} {d e : D} {vs : List V} (h : DVs g.toGd ρ H [d, e] vs) : ∃ v u, vs = [v, u] ∧ DV g.toGd ρ H d v ∧ DV g.toGd ρ H e u := by
  obtain ⟨v, ws, rfl, dv, hr⟩ := h.cons_inv
  obtain ⟨u, rfl, du⟩ := one_dvs hr
  exact ⟨v, u, rfl, dv, du⟩
theorem dv_keys {ρ : List Addr} {H : Hp} : ∀ {kvs : List (Ky × D)} {vs : List (Key × V)}, KVs g.toGd ρ H kvs vs → DVs g.toGd ρ H (kvs.map fun kv => ofKy kv.1) (vs.map fun kv => kV kv.1)
  | [], vs, h => by
    have e : vs = [] := h
    subst e
    exact .nil
  | (j, d) :: r, vs, h => by
    obtain ⟨v, ws, rfl, dv, hr⟩ := h
    refine .cons ?_ (dv_keys hr)
    cases j with
    | n i => exact dv_int
    | s x => exact dv_str
theorem kvs_len {G : Gd} {ρ : List Addr} {H : Hp} : ∀ {kvs : List (Ky × D)} {vs : List (Key × V)}, KVs G ρ H kvs vs → kvs.length = vs.length
  | [], vs, h => by
    have e : vs = [] := h
    subst e
    rfl
  | (j, d) :: r, vs, h => by
    obtain ⟨v, ws, rfl, dv, hr⟩ := h
    rw [List.length_cons, List.length_cons, kvs_len hr]
theorem kvs_strs {G : Gd} {ρ : List Addr} {H : Hp} : ∀ {kvs : List (Ky × D)} {vs : List (Key × V)} {ws : List (List Nat)}, KVs G ρ H kvs vs → «strsL» (kvs.map fun kv => ofKy kv.1) = some ws → vs.map (·.1) = (ws.map toStr).map Sum.inr
  | [], vs, ws, h, e => by
    have e' : vs = [] := h
    subst e'
    cases e
    rfl
  | (j, d) :: r, vs, ws, h, e => by
    obtain ⟨v, us, rfl, dv, hr⟩ := h
    cases j with
    | n i => cases e
    | s x =>
      have e' : (match «strsL» (r.map fun kv => ofKy kv.1) with | some l => some (x :: l) | none => none) = some ws := e
      cases e2 : «strsL» (r.map fun kv => ofKy kv.1) with
      | none => rw [e2] at e'; cases e'
      | some l =>
        rw [e2] at e'
        cases e'
        rw [List.map_cons, kvs_strs hr e2]
        rfl
theorem bi_len (G : Gk g k c X) : ∀ ρ H S ds vs Q, Rel g.toGd ρ S H → DVs g.toGd ρ H ds vs → MPost (biD .len ds S) (fun d S' => PostV g ρ H d S' Q) (fun _ _ _ => True) →
    ((∃ x n, vs = [x] ∧ LenV X.K x H n ∧ Q (.int n) H) ∨ ∃ a kvs, vs = [V.ref a] ∧ H a = some (.dK kvs) ∧ Q (.int kvs.length) H) := by
  intro ρ H S ds vs Q r dz q
  rcases ds with _ | ⟨d, _ | ⟨d2, rr⟩⟩
  · exact q.elim
  · obtain ⟨v, rfl, dv⟩ := one_dvs dz
    simp only [biD] at q
    cases d with
    | non => exact q.elim
    | bl _ => exact q.elim
    | int _ => exact q.elim
    | str z =>
      simp only at q
      by_cases hz : z.length ≤ sizeL
      · rw [if_pos hz] at q
        cases str_dv dv
        exact .inl ⟨_, z.length, rfl, ⟨by rw [toStr_len, ← sizeL_eq]; exact hz, (toStr_len z).symm⟩, post_here q r dv_int⟩
      · rw [if_neg hz] at q; exact q.elim
    | tup xs =>
      obtain ⟨a, us, rfl, sq, du⟩ := tup_dv dv
      exact .inl ⟨_, xs.length, rfl, .inr ⟨us, by rw [G.K]; exact sq, du.length⟩, post_here (show PostV g ρ H (.int xs.length) S Q from q) r dv_int⟩
    | obj i =>
      simp only at q
      cases ei : S[i]? with
      | none => rw [ei] at q; exact q.elim
      | some o =>
        rw [ei] at q
        cases o with
        | lst xs lk =>
          obtain ⟨a, us, rfl, _, du, sq⟩ := lst_rd r dv ei
          exact .inl ⟨_, xs.length, rfl, .inl ⟨us, by rw [G.K]; exact sq, du.length⟩, post_here (show PostV g ρ H (.int xs.length) S Q from q) r dv_int⟩
        | ins _ _ => exact q.elim
        | dct kvs lk =>
          cases lk with
          | true => exact q.elim
          | false =>
            obtain ⟨a, rfl, ea⟩ := obj_dv dv
            obtain ⟨us, du, hh⟩ := r.ob i _ a ei ea
            have q' := post_here (show PostV g ρ H (.int kvs.length) S Q from q) r dv_int
            rw [kvs_len du] at q'
            exact .inr ⟨a, us, rfl, hh, q'⟩
  · cases d <;> exact q.elim
theorem seq_ref {ρ : List Addr} {H : Hp} {S : Sto} {d : D} {v : V} {xs : List D} (r : Rel g.toGd ρ S H) (h : DV g.toGd ρ H d v) (e : seqOf S d = some xs) : ∃ a vs, v = .ref a ∧ DVs g.toGd ρ H xs vs ∧
    ((∃ i lk, d = .obj i ∧ S[i]? = some (.lst xs lk) ∧ SqL g.K H a vs) ∨ (d = .tup xs ∧ SqT g.K H a vs)) := by
  cases d with
  | tup ys =>
    cases e
    obtain ⟨a, vs, rfl, sq, dv⟩ := tup_dv h
    exact ⟨a, vs, rfl, dv, .inr ⟨rfl, sq⟩⟩
  | obj i =>
    unfold seqOf at e
    cases ei : S[i]? with
    | none => simp only [ei] at e; cases e
    | some o =>
      simp only [ei] at e
      cases o with
      | lst ys lk =>
        cases e
        obtain ⟨a, vs, rfl, _, dv, sq⟩ := lst_rd r h ei
        exact ⟨a, vs, rfl, dv, .inl ⟨i, lk, rfl, ei, sq⟩⟩
      | dct _ _ => cases e
      | ins _ _ => cases e
  | _ => cases e
theorem bi_list (G : Gk g k c X) : ∀ ρ H S ds vs Q, Rel g.toGd ρ S H → DVs g.toGd ρ H ds vs → MPost (biD .list ds S) (fun d S' => PostV g ρ H d S' Q) (fun _ _ _ => True) →
    ((∃ p ys, vs = [.ref p] ∧ (SqL X.K H p ys ∨ SqT X.K H p ys) ∧ ∀ l, H l = none → Q (.ref l) (upd H l (.lst ys))) ∨
      ∃ (a : Addr) (kvs : List (Key × V)), vs = [.ref a] ∧ Rd H a (.dK kvs) ∧ ∀ p, H p = none → Q (.ref p) (upd H p (.lst (kvs.map fun kv => kV kv.1)))) := by
  intro ρ H S ds vs Q r dz q
  rcases ds with _ | ⟨d, _ | ⟨d2, rr⟩⟩
  · exact q.elim
  · obtain ⟨v, rfl, dv⟩ := one_dvs dz
    simp only [biD] at q
    cases es : seqOf S d with
    | some xs =>
      rw [es] at q
      obtain ⟨a, us, rfl, du, h⟩ := seq_ref r dv es
      refine .inl ⟨a, us, rfl, ?_, fun p hp => post_lst q (List.prefix_refl _) .refl r du hp⟩
      rw [G.K]
      rcases h with ⟨_, _, _, _, sq⟩ | ⟨_, sq⟩
      · exact .inl sq
      · exact .inr sq
    | none =>
      rw [es] at q
      cases d <;> first | exact q.elim | skip
      rename_i i
      simp only at q
      cases ei : S[i]? with
      | none => rw [ei] at q; exact q.elim
      | some o =>
        rw [ei] at q
        cases o with
        | lst _ _ => exact q.elim
        | ins _ _ => exact q.elim
        | dct kvs lk =>
          obtain ⟨a, us, rfl, _, du, rd⟩ := dct_rd r dv ei
          exact .inr ⟨a, us, rfl, rd, fun p hp => post_lst q (List.prefix_refl _) .refl r (dv_keys du) hp⟩
  · cases d <;> exact q.elim
theorem bi_tuple (G : Gk g k c X) : ∀ ρ H S ds vs Q, Rel g.toGd ρ S H → DVs g.toGd ρ H ds vs → MPost (biD .tuple ds S) (fun d S' => PostV g ρ H d S' Q) (fun _ _ _ => True) →
    ∃ p ys, vs = [.ref p] ∧ ((SqL X.K H p ys ∧ ∀ l, H l = none → Q (.ref l) (upd H l (.tup ys))) ∨ (SqT X.K H p ys ∧ Q (.ref p) H)) := by
  intro ρ H S ds vs Q r dz q
  rcases ds with _ | ⟨d, _ | ⟨d2, rr⟩⟩
  · exact q.elim
  · obtain ⟨v, rfl, dv⟩ := one_dvs dz
    simp only [biD] at q
    cases es : seqOf S d with
    | some xs =>
      rw [es] at q
      have q' : PostV g ρ H (.tup xs) S Q := q
      obtain ⟨a, us, rfl, du, h⟩ := seq_ref r dv es
      refine ⟨a, us, rfl, ?_⟩
      rw [G.K]
      rcases h with ⟨_, _, _, _, sq⟩ | ⟨rfl, sq⟩
      · exact .inl ⟨sq, fun p hp => post_tup q' (List.prefix_refl _) .refl r du hp⟩
      · exact .inr ⟨sq, post_here q' r dv⟩
    | none => rw [es] at q; exact q.elim
  · cases d <;> exact q.elim
theorem bi_dict (G : Gk g k c X) : ∀ ρ H S ds vs Q, Rel g.toGd ρ S H → DVs g.toGd ρ H ds vs → MPost (biD .dict ds S) (fun d S' => PostV g ρ H d S' Q) (fun _ _ _ => True) →
    ∃ (a : Addr) (kvs : List (Key × V)), vs = [.ref a] ∧ Rd H a (.dK kvs) ∧ ∀ p, H p = none → Q (.ref p) (upd H p (.dK kvs)) := by
  intro ρ H S ds vs Q r dz q
  rcases ds with _ | ⟨d, _ | ⟨d2, rr⟩⟩
  · exact q.elim
  · obtain ⟨v, rfl, dv⟩ := one_dvs dz
    cases d <;> first | exact q.elim | skip
    rename_i i
    simp only [biD] at q
    cases ei : S[i]? with
    | none => rw [ei] at q; exact q.elim
    | some o =>
      rw [ei] at q
      cases o with
      | lst _ _ => exact q.elim
      | ins _ _ => exact q.elim
      | dct kvs lk =>
        obtain ⟨a, us, rfl, _, du, rd⟩ := dct_rd r dv ei
        exact ⟨a, us, rfl, rd, fun p hp => post_new q (List.prefix_refl _) .refl r hp ⟨us, du.mono (List.prefix_append _ _) (.new hp), upd_same⟩⟩
  · cases d <;> exact q.elim
theorem post_sorted {ρ : List Addr} {H : Hp} {S : Sto} {Q : VK} {xs : List D} {ws : List (List Nat)} (r : Rel g.toGd ρ S H) (hs : «strsL» xs = some ws)
    (q : MPost (match sortD xs with | some ys => LA.new (.lst ys false) S | none => none) (fun d S' => PostV g ρ H d S' Q) (fun _ _ _ => True)) :
    ws.length < 64 ∧ ∀ (ys : List Str) (p : Addr), ys.Perm (ws.map toStr) → sortedS ys = true → H p = none → Q (.ref p) (upd H p (.lst (ys.map V.str))) := by
  unfold sortD at q
  rw [hs] at q
  simp only at q
  by_cases h64 : ws.length < 64
  · rw [if_pos h64] at q
    refine ⟨h64, fun ys p h1 h2 hp => ?_⟩
    rw [sorted_is h1 h2]
    exact post_lst q (List.prefix_refl _) .refl r (strs_dvs _) hp
  · rw [if_neg h64] at q; exact q.elim
theorem bi_sorted (G : Gk g k c X) : ∀ ρ H S ds vs Q, Rel g.toGd ρ S H → DVs g.toGd ρ H ds vs → MPost (biD .sorted ds S) (fun d S' => PostV g ρ H d S' Q) (fun _ _ _ => True) →
    (rSortedS X.K vs H Q ∨ ∃ (a : Addr) (kvs : List (Key × V)) (ks : List Str), vs = [.ref a] ∧ Rd H a (.dK kvs) ∧ kvs.map (·.1) = ks.map Sum.inr ∧ ks.length < 64 ∧
      ∀ ys p, ys.Perm ks → sortedS ys = true → H p = none → Q (.ref p) (upd H p (.lst (ys.map V.str)))) := by
  intro ρ H S ds vs Q r dz q
  rcases ds with _ | ⟨d, _ | ⟨d2, rr⟩⟩
  · exact q.elim
  · obtain ⟨v, rfl, dv⟩ := one_dvs dz
    cases d <;> first | exact q.elim | skip
    rename_i i
    simp only [biD] at q
    cases ei : S[i]? with
    | none => rw [ei] at q; exact q.elim
    | some o =>
      rw [ei] at q
      cases o with
      | ins _ _ => exact q.elim
      | lst xs lk =>
        simp only at q
        cases es : «strsL» xs with
        | none => unfold sortD at q; rw [es] at q; exact q.elim
        | some ws =>
          obtain ⟨h64, h⟩ := post_sorted r es q
          obtain ⟨a, us, rfl, _, du, sq⟩ := lst_rd r dv ei
          rw [dvs_strs du es] at sq
          exact .inl ⟨a, ws.map toStr, rfl, by rw [G.K]; exact sq, by rw [List.length_map]; exact h64, h⟩
      | dct kvs lk =>
        simp only at q
        cases es : «strsL» (kvs.map fun kv => ofKy kv.1) with
        | none => unfold sortD at q; rw [es] at q; exact q.elim
        | some ws =>
          obtain ⟨h64, h⟩ := post_sorted r es q
          obtain ⟨a, us, rfl, _, du, rd⟩ := dct_rd r dv ei
          exact .inr ⟨a, us, ws.map toStr, rfl, rd, kvs_strs du es, by rw [List.length_map]; exact h64, h⟩
  · cases d <;> exact q.elim
def bls : List D → Option (List Bool)
  | [] => some []
  | .bl b :: r => (bls r).map (b :: ·)
  | _ :: _ => none
theorem all_bls : ∀ (xs : List D) (S : Sto) r, biD.allB xs S = some r → ∃ bs, bls xs = some bs ∧ r = (.ok (.bl (bs.all id)), S)
  | [], S, r, h => by cases h; exact ⟨[], rfl, rfl⟩
  | .bl b :: xs, S, r, h => by
    unfold biD.allB at h
    cases b with
    | true =>
      rw [if_pos rfl] at h
      obtain ⟨bs, h1, h2⟩ := all_bls xs S r h
      exact ⟨true :: bs, by unfold bls; rw [h1]; rfl, by rw [h2]; rfl⟩
    | false =>
      rw [if_neg Bool.false_ne_true] at h
      cases e : biD.allB xs S with
      | none => rw [e] at h; cases h
      | some r' =>
        rw [e] at h
        cases h
        obtain ⟨bs, h1, h2⟩ := all_bls xs S r' e
        exact ⟨false :: bs, by unfold bls; rw [h1]; rfl, rfl⟩
  | .non :: _, _, _, h => by cases h
  | .int _ :: _, _, _, h => by cases h
  | .str _ :: _, _, _, h => by cases h
  | .tup _ :: _, _, _, h => by cases h
  | .obj _ :: _, _, _, h => by cases h
theorem dvs_bls {G : Gd} {ρ : List Addr} {H : Hp} : ∀ {xs : List D} {vs : List V} {bs : List Bool}, DVs G ρ H xs vs → bls xs = some bs → vs = bs.map V.bl
  | [], vs, bs, h, e => by cases e; exact h.nil_inv
  | x :: r, vs, bs, h, e => by
    obtain ⟨v, us, rfl, dv, hr⟩ := h.cons_inv
    cases x <;> first | (cases e; done) | skip
    rename_i b
    unfold bls at e
    cases e2 : bls r with
    | none => rw [e2] at e; cases e
    | some l =>
      rw [e2] at e
      cases e
      unfold DV at dv
      rw [dv, dvs_bls hr e2]
      rfl
theorem bi_all (G : Gk g k c X) : ∀ ρ H S ds vs Q, Rel g.toGd ρ S H → DVs g.toGd ρ H ds vs → MPost (biD .all ds S) (fun d S' => PostV g ρ H d S' Q) (fun _ _ _ => True) → rAll X.K vs H Q := by
  intro ρ H S ds vs Q r dz q
  rcases ds with _ | ⟨d, _ | ⟨d2, rr⟩⟩
  · exact q.elim
  · obtain ⟨v, rfl, dv⟩ := one_dvs dz
    cases d <;> first | exact q.elim | skip
    rename_i i
    simp only [biD] at q
    cases ei : S[i]? with
    | none => rw [ei] at q; exact q.elim
    | some o =>
      rw [ei] at q
      cases o with
      | ins _ _ => exact q.elim
      | dct _ _ => exact q.elim
      | lst xs lk =>
        simp only at q
        cases ea : biD.allB xs S with
        | none => rw [ea] at q; exact q.elim
        | some rr =>
          rw [ea] at q
          obtain ⟨bs, h1, h2⟩ := all_bls xs S rr ea
          subst h2
          obtain ⟨a, us, rfl, _, du, sq⟩ := lst_rd r dv ei
          rw [dvs_bls du h1] at sq
          exact ⟨a, bs, rfl, by rw [G.K]; exact sq, post_here (show PostV g ρ H _ S Q from q) r dv_bl⟩
  · cases d <;> exact q.elim
theorem bi_max : ∀ ρ H S ds vs Q, Rel g.toGd ρ S H → DVs g.toGd ρ H ds vs → MPost (biD .max ds S) (fun d S' => PostV g ρ H d S' Q) (fun _ _ _ => True) → ∃ i j, vs = [.int i, .int j] ∧ Q (.int (if j > i then j else i)) H := by
  intro ρ H S ds vs Q r dv q
  rcases ds with _ | ⟨d, _ | ⟨d2, _ | ⟨d3, rr⟩⟩⟩
  · exact q.elim
  · cases d <;> exact q.elim
  · cases d <;> first | exact q.elim | skip
    cases d2 <;> first | exact q.elim | skip
    rename_i i j
    obtain ⟨v, u, rfl, h1, h2⟩ := two_dvs dv
    exact ⟨i, j, by rw [int_dv h1, int_dv h2], post_here (show PostV g ρ H _ S Q from q) r dv_int⟩
  · cases d <;> first | exact q.elim | (cases d2 <;> exact q.elim)
theorem bi_min : ∀ ρ H S ds vs Q, Rel g.toGd ρ S H → DVs g.toGd ρ H ds vs → MPost (biD .min ds S) (fun d S' => PostV g ρ H d S' Q) (fun _ _ _ => True) → ∃ i j, vs = [.int i, .int j] ∧ Q (.int (if j < i then j else i)) H := by
  intro ρ H S ds vs Q r dv q
  rcases ds with _ | ⟨d, _ | ⟨d2, _ | ⟨d3, rr⟩⟩⟩
  · exact q.elim
  · cases d <;> exact q.elim
  · cases d <;> first | exact q.elim | skip
    cases d2 <;> first | exact q.elim | skip
    rename_i i j
    obtain ⟨v, u, rfl, h1, h2⟩ := two_dvs dv
    exact ⟨i, j, by rw [int_dv h1, int_dv h2], post_here (show PostV g ρ H _ S Q from q) r dv_int⟩
  · cases d <;> first | exact q.elim | (cases d2 <;> exact q.elim)
theorem digit_text : ∀ n : Fin 10, PySem.intText? (toStr [48 + n.val]) = some (n.val : Int) := by decide +kernel
theorem bi_int : ∀ ρ H S ds vs Q, Rel g.toGd ρ S H → DVs g.toGd ρ H ds vs → MPost (biD .int ds S) (fun d S' => PostV g ρ H d S' Q) (fun _ _ _ => True) →
    (((∃ i, vs = [.int i] ∧ Q (.int i) H) ∨ ∃ k, vs = [.bl k] ∧ Q (.int (if k then 1 else 0)) H) ∨ ∃ a n, vs = [.str a] ∧ PySem.intText? a = some n ∧ a.length ≤ 640 ∧ Q (.int n) H) := by
  intro ρ H S ds vs Q r dv q
  rcases ds with _ | ⟨d, _ | ⟨d2, rr⟩⟩
  · exact q.elim
  · cases d <;> first | exact q.elim | skip
    · rename_i i
      obtain ⟨v, rfl, h1⟩ := one_dvs dv
      exact .inl (.inr ⟨i, by rw [bl_dv h1], post_here (show PostV g ρ H _ S Q from q) r dv_int⟩)
    · rename_i i
      obtain ⟨v, rfl, h1⟩ := one_dvs dv
      exact .inl (.inl ⟨i, by rw [int_dv h1], post_here (show PostV g ρ H _ S Q from q) r dv_int⟩)
    · rename_i z
      rcases z with _ | ⟨ch, _ | ⟨c2, zz⟩⟩
      · exact q.elim
      · obtain ⟨v, rfl, h1⟩ := one_dvs dv
        simp only [biD] at q
        by_cases hc : 48 ≤ ch ∧ ch ≤ 57
        · rw [if_pos hc] at q
          refine .inr ⟨toStr [ch], _, by rw [str_dv h1], ?_, by rw [toStr_len]; exact (by decide : 1 ≤ 640), post_here (show PostV g ρ H _ S Q from q) r dv_int⟩
          have := digit_text ⟨ch - 48, by omega⟩
          rwa [show 48 + (ch - 48) = ch by omega] at this
        · rw [if_neg hc] at q; exact q.elim
      · exact q.elim
  · cases d <;> first | exact q.elim | (rename_i z; rcases z with _ | ⟨ch, _ | ⟨c2, zz⟩⟩ <;> exact q.elim)
theorem bi_str : ∀ ρ H S ds vs Q, Rel g.toGd ρ S H → DVs g.toGd ρ H ds vs → MPost (biD .str ds S) (fun d S' => PostV g ρ H d S' Q) (fun _ _ _ => True) →
    ((∃ i : Int, vs = [.int i] ∧ i.natAbs.log2 < 1920 ∧ Q (.str (toString i)) H) ∨ ∃ a, vs = [.str a] ∧ Q (.str a) H) := by
  intro ρ H S ds vs Q r dv q
  rcases ds with _ | ⟨d, _ | ⟨d2, rr⟩⟩
  · exact q.elim
  · cases d <;> first | exact q.elim | skip
    · rename_i i
      obtain ⟨v, rfl, h1⟩ := one_dvs dv
      simp only [biD] at q
      by_cases hc : 0 ≤ i ∧ i < 1000000
      · rw [if_pos hc] at q
        refine .inl ⟨i, by rw [int_dv h1], log_small hc, ?_⟩
        have q' := post_here (show PostV g ρ H (.str (strI i)) S Q from q) r dv_str
        rw [← strI_eq i hc.1] at q'
        exact q'
      · rw [if_neg hc] at q; exact q.elim
    · rename_i x
      obtain ⟨v, rfl, h1⟩ := one_dvs dv
      exact .inr ⟨toStr x, by rw [str_dv h1], post_here (show PostV g ρ H _ S Q from q) r dv_str⟩
  · cases d <;> exact q.elim
def bltNames : List Str := ["isinstance", "len", "list", "tuple", "dict", "sorted", "all", "max", "min", "int", "str", "bool", "range", "enumerate", "zip"]
def biVal : BI → Value
  | .len => .builtin "len" | .list => .type "list" | .tuple => .type "tuple" | .dict => .type "dict" | .sorted => .builtin "sorted" | .all => .builtin "all"
  | .max => .builtin "max" | .min => .builtin "min" | .int => .type "int" | .str => .type "str"
theorem boot_one (x : Str) (v : Value) (h : (decide (bootBuiltins x = some v) && decide (x ≠ "__name__") && ((x == ("__debug__" : Str)) == false) && decide (x ∈ bltNames)) = true) :
    bootBuiltins x = some v ∧ x ≠ "__name__" ∧ (x == ("__debug__" : Str)) = false ∧ x ∈ bltNames := by
  simpa [and_assoc] using h
theorem boot_bi (x : Str) (b : BI) (h : biOf? x = some b) : bootBuiltins x = some (biVal b) ∧ x ≠ "__name__" ∧ (x == ("__debug__" : Str)) = false ∧ x ∈ bltNames := by
  unfold biOf? at h
  by_cases h0 : x = "len"
  · rw [if_pos h0] at h; cases h; subst h0; exact boot_one _ _ (by decide +kernel)
  rw [if_neg h0] at h
  by_cases h1 : x = "list"
  · rw [if_pos h1] at h; cases h; subst h1; exact boot_one _ _ (by decide +kernel)
  rw [if_neg h1] at h
  by_cases h2 : x = "tuple"
  · rw [if_pos h2] at h; cases h; subst h2; exact boot_one _ _ (by decide +kernel)
  rw [if_neg h2] at h
  by_cases h3 : x = "dict"
  · rw [if_pos h3] at h; cases h; subst h3; exact boot_one _ _ (by decide +kernel)
  rw [if_neg h3] at h
  by_cases h4 : x = "sorted"
  · rw [if_pos h4] at h; cases h; subst h4; exact boot_one _ _ (by decide +kernel)
  rw [if_neg h4] at h
  by_cases h5 : x = "all"
  · rw [if_pos h5] at h; cases h; subst h5; exact boot_one _ _ (by decide +kernel)
  rw [if_neg h5] at h
  by_cases h6 : x = "max"
  · rw [if_pos h6] at h; cases h; subst h6; exact boot_one _ _ (by decide +kernel)
  rw [if_neg h6] at h
  by_cases h7 : x = "min"
  · rw [if_pos h7] at h; cases h; subst h7; exact boot_one _ _ (by decide +kernel)
  rw [if_neg h7] at h
  by_cases h8 : x = "int"
  · rw [if_pos h8] at h; cases h; subst h8; exact boot_one _ _ (by decide +kernel)
  rw [if_neg h8] at h
  by_cases h9 : x = "str"
  · rw [if_pos h9] at h; cases h; subst h9; exact boot_one _ _ (by decide +kernel)
  rw [if_neg h9] at h
  cases h
theorem snd_bi (G : Cxt g k cl W c X) {x : Str} {b : BI} {e : Expr} {es : List Expr} {as : Es} {p pos : Pos} (hx : c.blt? x = true) (hb : biOf? x = some b) (ha : PA X (e :: es) (rdEs g cl W as)) (hs : (e :: es).any isStar = false) :
    PE X (.Call (.Name x p) (e :: es) [] pos) (rdE g cl W (.bi b as)) := by
  obtain ⟨h1, h2⟩ := Cc.blt_ok hx
  obtain ⟨b1, b2, b3, b4⟩ := boot_bi x b hb
  have hg := G.gl_ h1
  have hm : X.mg x = none := by rw [G.mg]; exact G.fac.free x b4
  obtain ⟨hs1, hs2⟩ := Bool.or_eq_false_iff.mp (show (isStar e || es.any isStar) = false from hs)
  have he := starEach_no (r := es) (env := X.env) hs1
  have hp := star_any hs2 pos X.env
  cases b with
  | len => exact PEto (pe_callB (call_len.or call_lenD) hg hm b1 ha b2 b3 he hp) (bi_rd (bi_len G.toGk))
  | list => exact PEto (pe_callTy (call_list_of.or (call_listD G.calm)) hg hm b1 ha b2 b3 he hp) (bi_rd (bi_list G.toGk))
  | tuple => exact PEto (pe_callTy call_tuple_of hg hm b1 ha b2 b3 he hp) (bi_rd (bi_tuple G.toGk))
  | dict => exact PEto (pe_callTy call_dictD hg hm b1 ha b2 b3 he hp) (bi_rd (bi_dict G.toGk))
  | sorted => exact PEto (pe_callB (cr_sortedS.or (call_sortedD G.calm)) hg hm b1 ha b2 b3 he hp) (bi_rd (bi_sorted G.toGk))
  | all => exact PEto (pe_callB (cr_all G.calm) hg hm b1 ha b2 b3 he hp) (bi_rd (bi_all G.toGk))
  | max => exact PEto (pe_callB (call_max2 G.calm) hg hm b1 ha b2 b3 he hp) (bi_rd bi_max)
  | min => exact PEto (pe_callB (call_min2 G.calm) hg hm b1 ha b2 b3 he hp) (bi_rd bi_min)
  | int => exact PEto (pe_callTy (call_int1.or call_int_str) hg hm b1 ha b2 b3 he hp) (bi_rd bi_int)
  | str => exact PEto (pe_callTy (call_str_int.or SkE.call_str_str) hg hm b1 ha b2 b3 he hp) (bi_rd bi_str)
end
end LA

/-! Soundness: isinstance, methods of built-in types, f-strings. -/
namespace LA
open PySem PySem.Spec PyProof.Rows L2
def tyV' : Ty → Option String
  | .int => some "int" | .bool => some "bool" | .str => some "str" | .tuple => some "tuple" | .list => some "list" | .dict => some "dict" | .own _ => none
theorem tyV_prim {t : Ty} {T : String} (h : tyV' t = some T) : T ∈ primTy := by
  cases t <;> cases h <;> decide
section
variable {g : GdX} {cl : Nat → List D → M D} {W : WX} {k : Nat} {c : Cc} {X : Cx}
/-- what stands for the type behind isinstance's comma -/
inductive TyN (g : GdX) : Ty → V → Value → Prop where
  | prim {t : Ty} {T : String} (h : tyV' t = some T) : TyN g t (.ty T) (.type T)
  | own {i : Nat} {C : Addr} (h : g.clA[i]? = some C) : TyN g (.own i) (.ref C) (.ref C)
theorem kit_prim (F : IsiF g) {T : String} (hT : T ∈ primTy) {t : Ty} {cv : V} {cu : Value} (n : TyN g t cv cu) (hi : ∀ i, t = .own i → ∃ ci, g.pg.cls[i]? = some ci) :
    PySem.W.kitOne g.K (.type T) cu = some (match tyV' t with | some T' => decide (T = T') || (decide (T = "bool") && decide (T' = "int")) | none => false) := by
  cases n with
  | prim h => rw [h]; exact F.pp T hT _ (tyV_prim h)
  | @own i C h =>
    obtain ⟨ci, hc⟩ := hi i rfl
    exact F.pc T hT i C ci h hc
theorem isi_rd (G : Cxt g k cl W c X) {t : Ty} {cv : V} {cu : Value} (n : TyN g t cv cu) (hi : ∀ i, t = .own i → ∃ ci, g.pg.cls[i]? = some ci) {ρ : List Addr} {H : Hp} {S : Sto} {d : D} {v : V} {b : Bool}
    (r : Rel g.toGd ρ S H) (dv : DV g.toGd ρ H d v) (h : isTy g.pg S d t = some b) : ∃ ty, TyX X.K H v ty ∧ PySem.W.kitOne X.K ty cu = some b := by
  have F := G.fac.isi
  rw [G.K]
  have tag : ∀ T : String, T ∈ primTy → (match tyV' t with | some T' => decide (T = T') || (decide (T = "bool") && decide (T' = "int")) | none => false) = b → PySem.W.kitOne g.K (.type T) cu = some b := fun T hT e => by rw [kit_prim F hT n hi, e]
  cases d with
  | non =>
    cases non_dv dv
    refine ⟨_, .base .non, tag "NoneType" (by decide) ?_⟩
    cases h
    cases t <;> rfl
  | bl x =>
    cases bl_dv dv
    refine ⟨_, .base (.bl x), tag "bool" (by decide) ?_⟩
    cases h
    cases t <;> rfl
  | int x =>
    cases int_dv dv
    refine ⟨_, .base (.int x), tag "int" (by decide) ?_⟩
    cases h
    cases t <;> rfl
  | str x =>
    cases str_dv dv
    refine ⟨_, .base (.str _), tag "str" (by decide) ?_⟩
    cases h
    cases t <;> rfl
  | tup xs =>
    obtain ⟨a, vs, rfl, sq, _⟩ := tup_dv dv
    have hb : (match tyV' t with | some T' => decide ("tuple" = T') || (decide ("tuple" = "bool") && decide (T' = "int")) | none => false) = b := by
      cases h
      cases t <;> rfl
    have e := tag "tuple" (by decide) hb
    rcases sq with (sq | ⟨o, sq⟩) | ⟨o, its, n', e1, e2, _⟩
    · exact ⟨_, .base (.tup sq), e⟩
    · exact ⟨_, .fTuple sq, e⟩
    · exact ⟨_, .kTuple e1 e2, e⟩
  | obj i =>
    unfold isTy at h
    simp only at h
    cases ei : S[i]? with
    | none => rw [ei] at h; cases h
    | some o =>
      rw [ei] at h
      cases o with
      | lst xs lk =>
        cases lk with
        | true => cases h
        | false =>
          obtain ⟨a, vs, rfl, _, hh, _⟩ := lst_at r dv ei
          refine ⟨_, .base (.lst hh), tag "list" (by decide) ?_⟩
          cases h
          cases t <;> rfl
      | dct kvs lk =>
        obtain ⟨a, vs, rfl, _, _, rd⟩ := dct_rd r dv ei
        have hb : (match tyV' t with | some T' => decide ("dict" = T') || (decide ("dict" = "bool") && decide (T' = "int")) | none => false) = b := by
          cases h
          cases t <;> rfl
        have e := tag "dict" (by decide) hb
        rcases rd with rd | ⟨o, rd⟩
        · exact ⟨_, .base (.dK rd), e⟩
        · exact ⟨_, .fDict rd, e⟩
      | ins cc fs =>
        simp only at h
        cases ec : g.pg.cls[cc]? with
        | none => rw [ec] at h; cases h
        | some ci =>
          rw [ec] at h
          obtain ⟨a, C, dx, vs, rfl, _, hC, _, hH⟩ := ins_at r dv ei
          obtain ⟨f1, f2, f3, f4⟩ := F.ins cc C ci hC ec
          refine ⟨_, .base (.ins hH (G.fac.clf cc C ci hC ec).cl f1 f2 f3 f4), ?_⟩
          cases n with
          | @prim t T ht =>
            rw [F.cp T (tyV_prim ht) cc C ci hC ec]
            cases h
            cases t <;> first | rfl | cases ht
          | @own j C' hj =>
            rw [F.cc cc j C C' ci hC ec hj]
            cases h
            rfl
theorem snd_isin (G : Cxt g k cl W c X) {a te : Expr} {x : LA.E} {t : Ty} {cv : V} {cu : Value} {p pos : Pos} (hx : c.blt? "isinstance" = true) (ha : PE X a (rdE g cl W x)) (ht : PE X te (tC cv)) (n : TyN g t cv cu)
    (hi : ∀ i, t = .own i → ∃ ci, g.pg.cls[i]? = some ci) (h1 : isStar a = false) (h2 : isStar te = false) : PE X (.Call (.Name "isinstance" p) [a, te] [] pos) (rdE g cl W (.isin x t)) := by
  obtain ⟨b1, b2⟩ := Cc.blt_ok hx
  have hg := G.gl_ b1
  have hm : X.mg "isinstance" = none := by rw [G.mg]; exact G.fac.free _ (by decide +kernel)
  have hA := pa_cons ha (pa_cons ht pa_nil (starEach_no (r := []) (env := X.env) h2)) (starEach_no (r := [te]) (env := X.env) h1)
  refine PEto (pe_callB call_isi hg hm (by decide +kernel) hA (by decide +kernel) (by decide +kernel) (starEach_no (r := [te]) (env := X.env) h1) (star_any (by show (isStar te || false) = false; rw [h2]; rfl) pos X.env)) ?_
  rintro σ H Q ⟨ρ, ds, S, r, sl, q⟩
  unfold evE at q
  refine rdE.bind r sl q fun ρ1 H1 S1 d v p1 t1 r1 dv sl1 q1 => ?_
  cases hb : isTy g.pg S1 d t with
  | none => rw [hb] at q1; exact q1.elim
  | some b =>
    rw [hb] at q1
    obtain ⟨ty, k1, k2⟩ := isi_rd G n hi r1 dv hb
    refine ⟨v, cv, ty, cu, b, rfl, ?_, k1, k2, (show PostV g ρ H (.bl b) S1 Q from q1) ρ1 H1 _ p1 t1 r1 dv_bl⟩
    cases n with
    | prim h => exact .ty _
    | own h => exact .own _
/-! ### methods of built-in types -/
theorem bm_rd {o : LA.E} {m : BM} {as : Es} {T : String} {rr : V → List V → Hp → VK → Prop}
    (hty : ∀ ρ H S d v u, Rel g.toGd ρ S H → DV g.toGd ρ H d v → recvD d m S = some u → tyV X.K T v H ∧ u = (.ok (), S))
    (h : ∀ ρ H S d ds v vs Q, Rel g.toGd ρ S H → DV g.toGd ρ H d v → DVs g.toGd ρ H ds vs → MPost (bmD d m ds S) (fun d S' => PostV g ρ H d S' Q) (fun _ _ _ => True) → rr v vs H Q) :
    ∀ σ H Q, rdE g cl W (.bm o m as) σ H Q → tBM X.K T rr (rdE g cl W o) (rdEs g cl W as) σ H Q := by
  rintro σ H Q ⟨ρ, ds, S, r, sl, q⟩
  unfold evE at q
  refine rdE.bind r sl q fun ρ1 H1 S1 d v p1 t1 r1 dv sl1 q1 => ?_
  have q2 := q1
  unfold M.bind at q2
  cases er : recvD d m S1 with
  | none => rw [er] at q2; exact q2.elim
  | some u =>
    obtain ⟨ty, rfl⟩ := hty ρ1 H1 S1 d v u r1 dv er
    rw [er] at q2
    refine ⟨ty, rdEs.bind r1 sl1 (show MPost (M.bind (evEs g.pg cl ds as) (fun xs => bmD d m xs) S1) _ _ from q2) fun ρ2 H2 S2 d2 v2 p2 t2 r2 dv2 sl2 q3 => ?_⟩
    exact h ρ2 H2 S2 d d2 v v2 Q r2 (dv.mono p2 t2) dv2 (q3.imp (fun _ _ z => z.mono (p1.trans p2) (t1.trans t2)) fun _ _ _ _ => trivial)
theorem bm0_rd {o : LA.E} {m : BM} {T : String} {rr : V → List V → Hp → VK → Prop}
    (hty : ∀ ρ H S d v u, Rel g.toGd ρ S H → DV g.toGd ρ H d v → recvD d m S = some u → tyV X.K T v H ∧ u = (.ok (), S))
    (h : ∀ ρ H S d ds v vs Q, Rel g.toGd ρ S H → DV g.toGd ρ H d v → DVs g.toGd ρ H ds vs → MPost (bmD d m ds S) (fun d S' => PostV g ρ H d S' Q) (fun _ _ _ => True) → rr v vs H Q) :
    ∀ σ H Q, rdE g cl W (.bm o m .nil) σ H Q → tBM0 X.K T rr (rdE g cl W o) σ H Q := by
  rintro σ H Q ⟨ρ, ds, S, r, sl, q⟩
  unfold evE at q
  refine rdE.bind r sl q fun ρ1 H1 S1 d v p1 t1 r1 dv sl1 q1 => ?_
  have q2 := q1
  unfold M.bind at q2
  cases er : recvD d m S1 with
  | none => rw [er] at q2; exact q2.elim
  | some u =>
    obtain ⟨ty, rfl⟩ := hty ρ1 H1 S1 d v u r1 dv er
    rw [er] at q2
    exact ⟨ty, h ρ1 H1 S1 d [] v [] Q r1 dv .nil ((show MPost (bmD d m [] S1) _ _ from q2).imp (fun _ _ z => z.mono p1 t1) fun _ _ _ _ => trivial)⟩
theorem recv_lst (G : Gk g k c X) {m : BM} (hm : m = .append ∨ m = .extend ∨ m = .pop) : ∀ ρ H S d v u, Rel g.toGd ρ S H → DV g.toGd ρ H d v → recvD d m S = some u → tyV X.K "list" v H ∧ u = (.ok (), S) := by
  intro ρ H S d v u r dv e
  have e' : (match d with | .obj i => (match S[i]? with | some (.lst _ _) => some (R.ok (), S) | _ => none) | _ => none : Option (R Unit × Sto)) = some u := by
    rcases hm with rfl | rfl | rfl <;> (cases d <;> exact e)
  cases d <;> first | (cases e'; done) | skip
  rename_i i
  simp only at e'
  cases ei : S[i]? with
  | none => rw [ei] at e'; cases e'
  | some o =>
    rw [ei] at e'
    cases o <;> first | (cases e'; done) | skip
    cases e'
    obtain ⟨a, vs, rfl, _, _, sq⟩ := lst_rd r dv ei
    exact ⟨.inl ⟨rfl, vs, by rw [G.K]; exact sq⟩, rfl⟩
theorem recv_str {m : BM} (hm : m = .join ∨ m = .split ∨ m = .strip) : ∀ ρ H S d v u, Rel g.toGd ρ S H → DV g.toGd ρ H d v → recvD d m S = some u → tyV X.K "str" v H ∧ u = (.ok (), S) := by
  intro ρ H S d v u r dv e
  have e' : (match d with | .str _ => some (R.ok (), S) | _ => none : Option (R Unit × Sto)) = some u := by
    rcases hm with rfl | rfl | rfl <;> (cases d <;> exact e)
  cases d <;> first | (cases e'; done) | skip
  cases e'
  cases str_dv dv
  exact ⟨rfl, rfl⟩
/-- an object written, as a post -/
theorem post_write {ρ : List Addr} {H : Hp} {S : Sto} {i : Nat} {a : Addr} {o o0 : Ob} {ho : HO} {d : D} {v : V} {Q : VK} (r : Rel g.toGd ρ S H) (hs : S[i]? = some o0) (ha : ρ[i]? = some a) (hl : o0.lk = false) (q : PostV g ρ H d (S.set i o) Q)
    (ov : TupK g.toGd H (upd H a ho) → OV g.toGd ρ (upd H a ho) o a) (dv : TupK g.toGd H (upd H a ho) → DV g.toGd ρ (upd H a ho) d v) : Q v (upd H a ho) := by
  obtain ⟨u, hu, n1, n2⟩ := (r.ob i _ a hs ha).nofrz hl
  have tk : TupK g.toGd H (upd H a ho) := .write hu n1 n2
  obtain ⟨r', _⟩ := r.write ha (ov tk) hs hl
  exact q ρ _ v (List.prefix_refl _) tk r' (dv tk)
theorem bm_append : ∀ ρ H S d ds v vs Q, Rel g.toGd ρ S H → DV g.toGd ρ H d v → DVs g.toGd ρ H ds vs → MPost (bmD d .append ds S) (fun d S' => PostV g ρ H d S' Q) (fun _ _ _ => True) → rAppend v vs H Q := by
  intro ρ H S d ds v vs Q r dv dvs q
  rcases ds with _ | ⟨x, _ | ⟨y, zz⟩⟩
  · exact q.elim
  · obtain ⟨w, rfl, dw⟩ := one_dvs dvs
    cases d <;> first | exact q.elim | skip
    rename_i i
    simp only [bmD] at q
    cases ei : S[i]? with
    | none => rw [ei] at q; exact q.elim
    | some o =>
      rw [ei] at q
      cases o with
      | dct _ _ => exact q.elim
      | ins _ _ => exact q.elim
      | lst xs lk =>
        cases lk with
        | true => exact q.elim
        | false =>
          simp only at q
          by_cases hz : xs.length < sizeL
          · rw [if_pos hz] at q
            obtain ⟨a, us, rfl, ha, hh, du⟩ := lst_at r dv ei
            refine ⟨a, us, w, rfl, rfl, hh, by rw [← du.length, ← sizeL_eq]; exact hz, ?_⟩
            exact post_write r ei ha rfl (show PostV g ρ H .non _ Q from q) (fun tk => ⟨_, (du.append (.cons dw .nil)).mono (List.prefix_refl _) tk, upd_same⟩) fun _ => dv_non
          · rw [if_neg hz] at q; exact q.elim
  · exact q.elim
theorem bm_extend : ∀ ρ H S d ds v vs Q, Rel g.toGd ρ S H → DV g.toGd ρ H d v → DVs g.toGd ρ H ds vs → MPost (bmD d .extend ds S) (fun d S' => PostV g ρ H d S' Q) (fun _ _ _ => True) → rExtend v vs H Q := by
  intro ρ H S d ds v vs Q r dv dvs q
  rcases ds with _ | ⟨x, _ | ⟨y, zz⟩⟩
  · exact q.elim
  · obtain ⟨w, rfl, dw⟩ := one_dvs dvs
    cases x <;> first | exact q.elim | skip
    rename_i j
    cases d <;> first | exact q.elim | skip
    rename_i i
    simp only [bmD] at q
    cases ei : S[i]? with
    | none => rw [ei] at q; exact q.elim
    | some o =>
      cases ej : S[j]? with
      | none => rw [ei, ej] at q; cases o <;> first | exact q.elim | (rename_i lk; cases lk <;> exact q.elim)
      | some o2 =>
        rw [ei, ej] at q
        cases o with
        | dct _ _ => exact q.elim
        | ins _ _ => exact q.elim
        | lst xs lk =>
          cases lk with
          | true => exact q.elim
          | false =>
            cases o2 with
            | dct _ _ => exact q.elim
            | ins _ _ => exact q.elim
            | lst ys lk =>
              cases lk with
              | true => exact q.elim
              | false =>
                simp only at q
                by_cases hz : xs.length + ys.length ≤ sizeL
                · rw [if_pos hz] at q
                  obtain ⟨a, us, rfl, ha, hh, du⟩ := lst_at r dv ei
                  obtain ⟨b, ws, rfl, _, hb, db⟩ := lst_at r dw ej
                  refine ⟨a, b, us, ws, rfl, rfl, hh, hb, by rw [← du.length, ← db.length, ← sizeL_eq]; exact hz, ?_⟩
                  exact post_write r ei ha rfl (show PostV g ρ H .non _ Q from q) (fun tk => ⟨_, (du.append db).mono (List.prefix_refl _) tk, upd_same⟩) fun _ => dv_non
                · rw [if_neg hz] at q; exact q.elim
  · cases x <;> exact q.elim
theorem dvs_last {ρ : List Addr} {H : Hp} {xs : List D} {vs : List V} (h : DVs g.toGd ρ H xs vs) : DVs g.toGd ρ H xs.dropLast vs.dropLast := by
  rw [List.dropLast_eq_take, List.dropLast_eq_take, ← h.length]
  exact h.take _
theorem bm_pop : ∀ ρ H S d ds v vs Q, Rel g.toGd ρ S H → DV g.toGd ρ H d v → DVs g.toGd ρ H ds vs → MPost (bmD d .pop ds S) (fun d S' => PostV g ρ H d S' Q) (fun _ _ _ => True) → rPop v vs H Q := by
  intro ρ H S d ds v vs Q r dv dvs q
  rcases ds with _ | ⟨x, zz⟩
  · rw [dvs.nil_inv]
    cases d <;> first | exact q.elim | skip
    rename_i i
    simp only [bmD] at q
    cases ei : S[i]? with
    | none => rw [ei] at q; exact q.elim
    | some o =>
      rw [ei] at q
      cases o with
      | dct _ _ => exact q.elim
      | ins _ _ => exact q.elim
      | lst xs lk =>
        cases lk with
        | true => exact q.elim
        | false =>
          simp only at q
          cases el : xs[xs.length - 1]? with
          | none => rw [el] at q; exact q.elim
          | some y =>
            rw [el] at q
            obtain ⟨a, us, rfl, ha, hh, du⟩ := lst_at r dv ei
            obtain ⟨w, h1, h2⟩ := du.get el
            rw [du.length] at h1
            refine ⟨a, us, w, rfl, rfl, hh, h1, ?_⟩
            exact post_write r ei ha rfl (show PostV g ρ H y _ Q from q) (fun tk => ⟨_, (dvs_last du).mono (List.prefix_refl _) tk, upd_same⟩) fun tk => h2.mono (List.prefix_refl _) tk
  · exact q.elim
theorem sum_len (ws : List (List Nat)) : ((ws.map toStr).map (·.length)).sum = (ws.map (·.length)).sum := by
  rw [List.map_map]
  congr 1
theorem bm_join (G : Gk g k c X) : ∀ ρ H S d ds v vs Q, Rel g.toGd ρ S H → DV g.toGd ρ H d v → DVs g.toGd ρ H ds vs → MPost (bmD d .join ds S) (fun d S' => PostV g ρ H d S' Q) (fun _ _ _ => True) →
    ∃ a p, ∃ ys : List Str, v = .str a ∧ vs = [.ref p] ∧ (SqL X.K H p (ys.map V.str) ∨ SqT X.K H p (ys.map V.str)) ∧ (ys.map (·.length)).sum + ys.length * a.length ≤ 16777216 ∧ Q (.str (Txt.join a ys)) H := by
  intro ρ H S d ds v vs Q r dv dvs q
  rcases ds with _ | ⟨x, _ | ⟨y, zz⟩⟩
  · exact q.elim
  · obtain ⟨w, rfl, dw⟩ := one_dvs dvs
    cases d <;> first | exact q.elim | skip
    rename_i sep
    simp only [bmD] at q
    cases es : seqOf S x with
    | none => rw [es] at q; exact q.elim
    | some xs =>
      rw [es] at q
      simp only at q
      cases e2 : «strsL» xs with
      | none => rw [e2] at q; exact q.elim
      | some ws =>
        rw [e2] at q
        simp only at q
        by_cases hz : (ws.map (·.length)).sum + ws.length * sep.length ≤ sizeL
        · rw [if_pos hz] at q
          obtain ⟨a, us, rfl, du, h⟩ := seq_ref r dw es
          rw [dvs_strs du e2] at h
          refine ⟨toStr sep, a, ws.map toStr, str_dv dv, rfl, ?_, ?_, ?_⟩
          · rw [G.K]
            rcases h with ⟨_, _, _, _, sq⟩ | ⟨_, sq⟩
            · exact .inl sq
            · exact .inr sq
          · rw [sum_len, List.length_map, toStr_len]; exact hz
          · rw [join_toStr]
            exact post_here (show PostV g ρ H _ S Q from q) r dv_str
        · rw [if_neg hz] at q; exact q.elim
  · exact q.elim
theorem bm_split : ∀ ρ H S d ds v vs Q, Rel g.toGd ρ S H → DV g.toGd ρ H d v → DVs g.toGd ρ H ds vs → MPost (bmD d .split ds S) (fun d S' => PostV g ρ H d S' Q) (fun _ _ _ => True) →
    ∃ a b, v = .str a ∧ vs = [.str b] ∧ (b.length == 0) = false ∧ a.length + 2 ≤ sizeLine ∧ rNewStrs (Txt.split a b) H Q := by
  intro ρ H S d ds v vs Q r dv dvs q
  rcases ds with _ | ⟨x, _ | ⟨y, zz⟩⟩
  · exact q.elim
  · cases x <;> first | exact q.elim | skip
    rename_i z
    rcases z with _ | ⟨ch, _ | ⟨c2, z⟩⟩
    · exact q.elim
    · obtain ⟨w, rfl, dw⟩ := one_dvs dvs
      cases d <;> first | exact q.elim | skip
      rename_i x
      simp only [bmD] at q
      by_cases hz : x.length ≤ 1000000 ∧ ch < 256
      · rw [if_pos hz] at q
        refine ⟨toStr x, toStr [ch], str_dv dv, by rw [str_dv dw], by rw [toStr_len]; rfl, ?_, ?_⟩
        · rw [toStr_len, ← sizeL_eq]
          have : sizeL = 16777216 := rfl
          omega
        · intro p hp
          rw [split_toStr hz.2]
          exact post_lst (show PostV g ρ H (.obj S.length) (S ++ [.lst _ false]) Q from q) (List.prefix_refl _) .refl r (strs_dvs _) hp
      · rw [if_neg hz] at q; exact q.elim
    · exact q.elim
  · cases x <;> first | exact q.elim | (rename_i z; rcases z with _ | ⟨ch, _ | ⟨c2, z⟩⟩ <;> exact q.elim)
theorem bm_strip : ∀ ρ H S d ds v vs Q, Rel g.toGd ρ S H → DV g.toGd ρ H d v → DVs g.toGd ρ H ds vs → MPost (bmD d .strip ds S) (fun d S' => PostV g ρ H d S' Q) (fun _ _ _ => True) →
    ∃ a b, v = .str a ∧ vs = [.str b] ∧ a.length ≤ sizeLine ∧ Q (.str (Txt.stripChars a b)) H := by
  intro ρ H S d ds v vs Q r dv dvs q
  rcases ds with _ | ⟨x, _ | ⟨y, zz⟩⟩
  · exact q.elim
  · cases x <;> first | exact q.elim | skip
    rename_i z
    rcases z with _ | ⟨ch, _ | ⟨c2, z⟩⟩
    · exact q.elim
    · obtain ⟨w, rfl, dw⟩ := one_dvs dvs
      cases d <;> first | exact q.elim | skip
      rename_i x
      simp only [bmD] at q
      by_cases hz : x.length ≤ 1000000
      · rw [if_pos hz] at q
        refine ⟨toStr x, toStr [ch], str_dv dv, by rw [str_dv dw], ?_, ?_⟩
        · rw [toStr_len, ← sizeL_eq]
          have : sizeL = 16777216 := rfl
          omega
        · rw [strip_toStr]
          exact post_here (show PostV g ρ H _ S Q from q) r dv_str
      · rw [if_neg hz] at q; exact q.elim
    · exact q.elim
  · cases x <;> first | exact q.elim | (rename_i z; rcases z with _ | ⟨ch, _ | ⟨c2, z⟩⟩ <;> exact q.elim)
theorem snd_bm (G : Cxt g k cl W c X) {o e : Expr} {m : BM} {n : Str} {x : LA.E} {as : Es} {apos pos : Pos} (he : PE X o (rdE g cl W x)) (ha : PA X [e] (rdEs g cl W as)) (hm : bmOf? n = some m) (h1 : bmAr m = some 1)
    (ho : attrOk o = true) (hs : isStar e = false) (hline : (apos.endLine == pos.line) = true) : PE X (.Call (.Attribute o n apos) [e] [] pos) (rdE g cl W (.bm x m as)) := by
  have hb : attributeBase o n X.env (eval o X.env) = eval o X.env := attr_ok ho
  have hst := starEach_no (r := []) (env := X.env) hs
  have hpl : (backTo pos (starEach [] X.env)).any (·.1) = false := rfl
  have hfew : ((backTo pos (starEach [e] X.env)).all (fun x => !x.1) && (backToKw pos (keywordEach [] X.env)).all (fun x => x.1.isSome)
      && decide ([e].length + ([] : List Keyword).length + (if ([] : List Keyword).isEmpty then 0 else 1) < 30)) = true := by
    rw [hst]; rfl
  have one : ∀ nn mm, bmOf? n = some mm → n = nn → True := fun _ _ _ _ => trivial
  unfold bmOf? at hm
  by_cases e1 : n = "append"
  · rw [if_pos e1] at hm; cases hm; subst e1
    exact PEto (pe_bm PySem.F.plainAttrs_list PySem.F.slot_list_append PySem.F.type_list_append mt_append he ha hb hfew hline hst hpl) (bm_rd (recv_lst G.toGk (.inl rfl)) bm_append)
  rw [if_neg e1] at hm
  by_cases e2 : n = "extend"
  · rw [if_pos e2] at hm; cases hm; subst e2
    exact PEto (pe_bm PySem.F.plainAttrs_list PySem.F.slot_list_extend PySem.F.type_list_extend mt_extend he ha hb hfew hline hst hpl) (bm_rd (recv_lst G.toGk (.inr (.inl rfl))) bm_extend)
  rw [if_neg e2] at hm
  by_cases e3 : n = "pop"
  · rw [if_pos e3] at hm; cases hm; cases h1
  rw [if_neg e3] at hm
  by_cases e4 : n = "clear"
  · rw [if_pos e4] at hm; cases hm; cases h1
  rw [if_neg e4] at hm
  by_cases e5 : n = "join"
  · rw [if_pos e5] at hm; cases hm; subst e5
    exact PEto (pe_bm PySem.F.plainAttrs_str PySem.F.slot_str_join PySem.F.type_str_join mt_join he ha hb hfew hline hst hpl) (bm_rd (recv_str (.inl rfl)) (bm_join G.toGk))
  rw [if_neg e5] at hm
  by_cases e6 : n = "split"
  · rw [if_pos e6] at hm; cases hm; subst e6
    exact PEto (pe_bm PySem.F.plainAttrs_str PySem.F.slot_str_split PySem.F.type_str_split mt_split he ha hb hfew hline hst hpl) (bm_rd (recv_str (.inr (.inl rfl))) bm_split)
  rw [if_neg e6] at hm
  by_cases e7 : n = "strip"
  · rw [if_pos e7] at hm; cases hm; subst e7
    exact PEto (pe_bm PySem.F.plainAttrs_str PySem.F.slot_str_strip PySem.F.type_str_strip mt_stripChars he ha hb hfew hline hst hpl) (bm_rd (recv_str (.inr (.inr rfl))) bm_strip)
  rw [if_neg e7] at hm
  by_cases e8 : n = "index"
  · rw [if_pos e8] at hm; cases hm; cases h1
  rw [if_neg e8] at hm
  cases hm
theorem snd_bm0 (G : Cxt g k cl W c X) {o : Expr} {m : BM} {n : Str} {x : LA.E} {apos pos : Pos} (he : PE X o (rdE g cl W x)) (hm : bmOf? n = some m) (h1 : bmAr m = some 0)
    (ho : attrOk o = true) (hline : (apos.endLine == pos.line) = true) : PE X (.Call (.Attribute o n apos) [] [] pos) (rdE g cl W (.bm x m .nil)) := by
  have hb : attributeBase o n X.env (eval o X.env) = eval o X.env := attr_ok ho
  have hn : n = "pop" ∧ m = .pop := by
    unfold bmOf? at hm
    by_cases e1 : n = "append"
    · rw [if_pos e1] at hm; cases hm; cases h1
    rw [if_neg e1] at hm
    by_cases e2 : n = "extend"
    · rw [if_pos e2] at hm; cases hm; cases h1
    rw [if_neg e2] at hm
    by_cases e3 : n = "pop"
    · rw [if_pos e3] at hm; cases hm; exact ⟨e3, rfl⟩
    rw [if_neg e3] at hm
    by_cases e4 : n = "clear"
    · rw [if_pos e4] at hm; cases hm; cases h1
    rw [if_neg e4] at hm
    by_cases e5 : n = "join"
    · rw [if_pos e5] at hm; cases hm; cases h1
    rw [if_neg e5] at hm
    by_cases e6 : n = "split"
    · rw [if_pos e6] at hm; cases hm; cases h1
    rw [if_neg e6] at hm
    by_cases e7 : n = "strip"
    · rw [if_pos e7] at hm; cases hm; cases h1
    rw [if_neg e7] at hm
    by_cases e8 : n = "index"
    · rw [if_pos e8] at hm; cases hm; cases h1
    rw [if_neg e8] at hm
    cases hm
  obtain ⟨rfl, rfl⟩ := hn
  exact PEto (pe_bm0 PySem.F.plainAttrs_list PySem.F.slot_list_pop PySem.F.type_list_pop mt_pop he hb hline) (bm0_rd (recv_lst G.toGk (.inr (.inr rfl))) bm_pop)
/-! ### f-strings -/
def plainEs : Es → Bool
  | .nil => true
  | .cons st _ r => !st && plainEs r
def tsOf (g : GdX) (cl : Nat → List D → M D) (W : WX) : Es → List TE
  | .nil => []
  | .cons _ a r => tFmt (rdE g cl W a) :: tsOf g cl W r
theorem snd_text {x : Str} {kk : Nat} {pos : Pos} : PE X (.Constant (.str x) kk pos) (tFmt (rdE g cl W (.con (.str x.cps.toList)))) := by
  refine PEto pe_str ?_
  rintro σ H Q ⟨ρ, ds, S, r, sl, q⟩
  have e : toStr x.cps.toList = x := TL.mk_tl x
  rcases q ρ H _ (List.prefix_refl _) .refl r dv_str with ⟨y, h1, _, h3⟩ | ⟨i, h1, _⟩
  · cases h1
    rw [e] at h3
    exact h3
  · cases h1
theorem fs_rd : ∀ (as : Es), plainEs as = true → ∀ (acc : List Nat) (ρ : List Addr) (ds : En) (S : Sto) (σ : L2.St) (H : Hp) (Q : Str → Hp → Prop), Rel g.toGd ρ S H → SlR g.toGd ρ H ds σ →
    MPost (evEs g.pg cl ds as S) (fun xs S' => ∃ z, allStr xs = some z ∧ acc.length + z.length ≤ sizeL ∧ ∀ ρ' H', ρ <+: ρ' → TupK g.toGd H H' → Rel g.toGd ρ' S' H' → Q (toStr (acc ++ z)) H') (fun _ _ _ => False) →
    tJs (tsOf g cl W as) (toStr acc) σ H Q
  | .nil, _, acc, ρ, ds, S, σ, H, Q, r, sl, q => by
    obtain ⟨z, e, _, h⟩ := q
    cases e
    have := h ρ H (List.prefix_refl _) .refl r
    rw [List.append_nil] at this
    exact this
  | .cons st a as, hp, acc, ρ, ds, S, σ, H, Q, r, sl, q => by
    obtain ⟨hst, hp⟩ := Bool.and_eq_true_iff.mp (show (!st && plainEs as) = true from hp)
    have hst' : st = false := by simpa using hst
    subst hst'
    unfold evEs at q
    simp only [Bool.false_eq_true, if_false] at q
    have qx := q.imp (k' := fun xs S' => ∃ z, allStr xs = some z ∧ acc.length + z.length ≤ sizeL ∧ ∀ ρ' H', ρ <+: ρ' → TupK g.toGd H H' → Rel g.toGd ρ' S' H' → Q (toStr (acc ++ z)) H')
      (x' := fun c fs S' => PostX g ρ H c fs S' fun cls dd H' => W cls dd σ H') (fun _ _ z => z) fun _ _ _ z => z.elim
    show rdE g cl W a σ H _
    refine rdE.bindE r sl qx fun ρ1 H1 S1 d v p1 t1 r1 dv sl1 ev _ => ?_
    have q1 : MPost (M.bind (evEs g.pg cl ds as) (fun ys => M.pure (d :: ys)) S1) (fun xs S' => ∃ z, allStr xs = some z ∧ acc.length + z.length ≤ sizeL ∧ ∀ ρ' H', ρ <+: ρ' → TupK g.toGd H H' → Rel g.toGd ρ' S' H' → Q (toStr (acc ++ z)) H') (fun _ _ _ => False) := by
      have := q.bind
      rw [ev] at this
      exact this
    have step : ∀ (y : List Nat), (∀ xs z, allStr (d :: xs) = some z → ∃ z', allStr xs = some z' ∧ z = y ++ z') → acc.length + y.length ≤ sizeL ∧ tJs (tsOf g cl W as) (toStr acc ++ toStr y) σ H1 Q := by
      intro y hy
      have q2 := q1.bind
      constructor
      · cases ee : evEs g.pg cl ds as S1 with
        | none => rw [ee] at q2; exact q2.elim
        | some rr =>
          obtain ⟨rr, S2⟩ := rr
          rw [ee] at q2
          cases rr with
          | ok xs =>
            obtain ⟨z, e1, e2, _⟩ := q2
            obtain ⟨z', e4, e5⟩ := hy xs z e1
            subst e5
            rw [List.length_append] at e2
            omega
          | ex _ _ => exact q2.elim
      · rw [← toStr_app]
        refine fs_rd as hp (acc ++ y) ρ1 ds S1 σ H1 Q r1 sl1 (q2.imp (fun xs S' hx => ?_) fun _ _ _ z => z)
        obtain ⟨z, e1, e2, e3⟩ := hx
        obtain ⟨z', e4, e5⟩ := hy xs z e1
        subst e5
        refine ⟨z', e4, by rw [List.length_append] at e2 ⊢; omega, fun ρ' H' a1 a2 a3 => ?_⟩
        rw [List.append_assoc]
        exact e3 ρ' H' (p1.trans a1) (t1.trans a2) a3
    -- there is an answer
    have an : ∃ xs z, allStr (d :: xs) = some z := by
      have q2 := q1.bind
      cases ee : evEs g.pg cl ds as S1 with
      | none => rw [ee] at q2; exact q2.elim
      | some rr =>
        obtain ⟨rr, S2⟩ := rr
        rw [ee] at q2
        cases rr with
        | ok xs =>
          obtain ⟨z, e1, _⟩ := q2
          exact ⟨xs, z, e1⟩
        | ex _ _ => exact q2.elim
    obtain ⟨xs0, z0, e0⟩ := an
    cases d with
    | non => cases e0
    | bl _ => cases e0
    | tup _ => cases e0
    | obj _ => cases e0
    | str y =>
      cases str_dv dv
      obtain ⟨h1, h2⟩ := step y fun xs z e => by
        unfold allStr at e
        cases e2 : allStr xs with
        | none => rw [e2] at e; cases e
        | some z' => rw [e2] at e; cases e; exact ⟨z', rfl, rfl⟩
      refine .inl ⟨toStr y, rfl, by rw [toStr_len, ← sizeL_eq]; omega, toStr y, rfl, ?_, h2⟩
      rw [← toStr_app, toStr_len, List.length_append, ← sizeL_eq]
      exact h1
    | int i =>
      cases int_dv dv
      have hi : 0 ≤ i ∧ i < 1000000 := by
        by_cases hi : 0 ≤ i ∧ i < 1000000
        · exact hi
        · unfold allStr at e0
          rw [if_neg hi] at e0
          cases e0
      obtain ⟨h1, h2⟩ := step (strI i) fun xs z e => by
        unfold allStr at e
        rw [if_pos hi] at e
        cases e2 : allStr xs with
        | none => rw [e2] at e; cases e
        | some z' => rw [e2] at e; cases e; exact ⟨z', rfl, rfl⟩
      refine .inr ⟨i, rfl, log_small hi, toStr (strI i), by rw [strI_eq i hi.1], ?_, h2⟩
      rw [← toStr_app, toStr_len, List.length_append, ← sizeL_eq]
      exact h1
theorem snd_fstr {v1 v2 : Expr} {rest : List Expr} {as : Es} {pos : Pos} (h : PJ X (v1 :: v2 :: rest) (tsOf g cl W as)) (hp : plainEs as = true) : PE X (.JoinedStr (v1 :: v2 :: rest) pos) (rdE g cl W (.fstr as)) := by
  refine PEto (pe_joined h) ?_
  rintro σ H Q ⟨ρ, ds, S, r, sl, q⟩
  unfold evE at q
  have q2 := (noEx_post (x' := fun _ _ _ => False) q).bind
  refine fs_rd as hp [] ρ ds S σ H _ r sl (q2.imp (fun xs S' hx => ?_) fun _ _ _ z => z)
  cases e : allStr xs with
  | none => rw [e] at hx; exact hx.elim
  | some z =>
    rw [e] at hx
    simp only at hx
    by_cases hz : z.length ≤ sizeL
    · rw [if_pos hz] at hx
      exact ⟨z, rfl, by rw [List.length_nil, Nat.zero_add]; exact hz, fun ρ' H' a b c => (show PostV g ρ H (.str z) S' Q from hx) ρ' H' _ a b c dv_str⟩
    · rw [if_neg hz] at hx; exact hx.elim
end
end LA

/-! Soundness: dict displays; locks; the walks. -/
namespace LA
open PySem PySem.Spec PyProof.Rows L2
/-! ### locks, laid where the dict comes and taken off at the end -/
def NF (X : Cx) (d : Addr) : Prop := ∀ o' u', X.H_0 d ≠ some (.frz o' u')
def tLockV (X : Cx) (td : TE) : TE := fun σ H Q => td σ H fun x H1 => ∃ d kvs, x = .ref d ∧ H1 d = some (.dK kvs) ∧ ∀ od, NF X d → Q x (upd H1 d (.frz od (.dK kvs)))
theorem pe_lockV {X : Cx} {e : Expr} {td : TE} (h : PE X e td) : PE X e (tLockV X td) := by
  refine ⟨fun pins s σ H Q I hw => ?_⟩
  refine wpAny_mono (h.run pins s σ H _ I hw) (fun v s1 ⟨x, H1, I1, r, d, kvs, e1, e2, q⟩ => ?_) fun _ _ z => z
  obtain ⟨od, I2⟩ := I1.lock e2 True.intro
  exact ⟨x, _, I2, r, q od (I1.nofrz e2 True.intro)⟩
/-- a lock that is off at the end -/
def offE (X : Cx) (Q : VK) : VK := fun v H => Q v H ∨ ∃ d od u, H d = some (.frz od u) ∧ NF X d ∧ Q v (upd H d u)
theorem pe_off {X : Cx} {e : Expr} {t : TE} (h : PE X e t) : PE X e (fun σ H Q => t σ H (offE X Q)) := by
  refine ⟨fun pins s σ H Q I hw => ?_⟩
  refine wpAny_mono (h.run pins s σ H _ I hw) (fun v s1 ⟨x, H1, I1, r, q⟩ => ?_) fun _ _ z => z
  rcases q with q | ⟨d, od, u, e1, nf, q⟩
  · exact ⟨x, H1, I1, r, q⟩
  · exact ⟨x, _, I1.unlock e1 nf, r, q⟩
section
variable {g : GdX} {cl : Nat → List D → M D} {W : WX} {k : Nat} {c : Cc} {X : Cx}
/-! ### dict displays -/
theorem ky_dec (a b : Ky) : decide (kyKey a = kyKey b) = decide (a = b) := decide_eq_decide.mpr ⟨kyKey_inj, fun h => by rw [h]⟩
theorem kvs_any {G : Gd} {ρ : List Addr} {H : Hp} {ky : Ky} : ∀ {kvs : List (Ky × D)} {vs : List (Key × V)}, KVs G ρ H kvs vs → vs.any (fun kv => decide (kv.1 = kyKey ky)) = kvs.any (fun kv => decide (kv.1 = ky))
  | [], vs, h => by
    have e : vs = [] := h
    subst e
    rfl
  | (j, w) :: r, vs, h => by
    obtain ⟨u, ws, rfl, du, hr⟩ := h
    rw [List.any_cons, List.any_cons, kvs_any hr]
    show (decide (kyKey j = kyKey ky) || _) = (decide (j = ky) || _)
    rw [ky_dec]
theorem kvs_map {G : Gd} {ρ : List Addr} {H : Hp} {ky : Ky} {d : D} {v : V} (dv : DV G ρ H d v) : ∀ {kvs : List (Ky × D)} {vs : List (Key × V)}, KVs G ρ H kvs vs →
    KVs G ρ H (kvs.map (fun kv => if kv.1 = ky then (kv.1, d) else kv)) (vs.map (fun kv => if kv.1 = kyKey ky then (kv.1, v) else kv))
  | [], vs, h => by
    have e : vs = [] := h
    subst e
    rfl
  | (j, w) :: r, vs, h => by
    obtain ⟨u, ws, rfl, du, hr⟩ := h
    rw [List.map_cons, List.map_cons]
    by_cases hk : j = ky
    · subst hk
      rw [if_pos rfl, if_pos rfl]
      exact ⟨v, _, rfl, dv, kvs_map dv hr⟩
    · rw [if_neg hk, if_neg (show ¬ (kyKey j, u).1 = kyKey ky from fun z => hk (kyKey_inj z))]
      exact ⟨u, _, rfl, du, kvs_map dv hr⟩
theorem kvs_app {G : Gd} {ρ : List Addr} {H : Hp} {ky : Ky} {d : D} {v : V} (dv : DV G ρ H d v) : ∀ {kvs : List (Ky × D)} {vs : List (Key × V)}, KVs G ρ H kvs vs → KVs G ρ H (kvs ++ [(ky, d)]) (vs ++ [(kyKey ky, v)])
  | [], vs, h => by
    have e : vs = [] := h
    subst e
    exact ⟨v, [], rfl, dv, rfl⟩
  | (j, w) :: r, vs, h => by
    obtain ⟨u, ws, rfl, du, hr⟩ := h
    exact ⟨u, _, rfl, du, kvs_app dv hr⟩
theorem kvs_put {G : Gd} {ρ : List Addr} {H : Hp} {ky : Ky} {d : D} {v : V} (dv : DV G ρ H d v) {kvs : List (Ky × D)} {vs : List (Key × V)} (h : KVs G ρ H kvs vs) : KVs G ρ H (LA.putK ky d kvs) (L2.putK vs (kyKey ky) v) := by
  unfold LA.putK L2.putK
  rw [kvs_any h]
  split
  · exact kvs_map dv h
  · exact kvs_app dv h
/-- the pairs of a display as values -/
def pairUp : List V → List (V × V)
  | a :: b :: r => (a, b) :: pairUp r
  | _ => []
theorem dic_dvs {ρ : List Addr} {H : Hp} : ∀ (n : Nat) {xs : List D} {vs : List V} {acc kvs : List (Ky × D)} {as : List (Key × V)}, xs.length ≤ n → DVs g.toGd ρ H xs vs → KVs g.toGd ρ H acc as → dicD xs acc = some kvs →
    ∃ ps : List (Key × V), pairUp vs = ps.map (fun kv => (kV kv.1, kv.2)) ∧ 2 * ps.length = xs.length ∧ KVs g.toGd ρ H kvs (mergeK as ps)
  | n, [], vs, acc, kvs, as, _, h, ha, e => by
    rw [h.nil_inv]
    cases e
    exact ⟨[], rfl, rfl, ha⟩
  | n, [x], vs, acc, kvs, as, _, h, ha, e => by cases e
  | 0, x :: y :: r, vs, acc, kvs, as, hn, h, ha, e => by simp at hn
  | n + 1, x :: y :: r, vs, acc, kvs, as, hn, h, ha, e => by
    obtain ⟨v, us, rfl, dx, h1⟩ := h.cons_inv
    obtain ⟨u, ws, rfl, dy, h2⟩ := h1.cons_inv
    unfold dicD at e
    cases ek : toKy x with
    | none => rw [ek] at e; cases e
    | some ky =>
      rw [ek] at e
      obtain ⟨ps, e1, e2, e3⟩ := dic_dvs n (by simp at hn; omega) h2 (kvs_put (ky := ky) dy ha) e
      refine ⟨(kyKey ky, u) :: ps, ?_, by simp only [List.length_cons]; omega, e3⟩
      show (v, u) :: pairUp ws = _
      rw [e1, toKy_dv dx ek]
      rfl
def pairEs : Es → List (LA.E × LA.E)
  | .cons _ k (.cons _ v r) => (k, v) :: pairEs r
  | _ => []
def evenEs : Es → Bool
  | .nil => true
  | .cons a _ (.cons b _ r) => !a && !b && evenEs r
  | _ => false
theorem pairs_rd : ∀ (n : Nat) (as : Es), sizeOf as ≤ n → evenEs as = true → ∀ (σ : L2.St) (H : Hp) (ρ : List Addr) (ds : En) (S : Sto) (Q : List (V × V) → Hp → Prop), Rel g.toGd ρ S H → SlR g.toGd ρ H ds σ →
    MPost (evEs g.pg cl ds as S) (fun xs S' => ∀ ρ' H' vs, ρ <+: ρ' → TupK g.toGd H H' → Rel g.toGd ρ' S' H' → DVs g.toGd ρ' H' xs vs → Q (pairUp vs) H') (fun c fs S' => PostX g ρ H c fs S' fun cls dd H' => W cls dd σ H') →
    tPairs ((pairEs as).map fun p => (rdE g cl W p.1, rdE g cl W p.2)) σ H Q
  | n, .nil, _, _, σ, H, ρ, ds, S, Q, r, sl, q => q ρ H [] (List.prefix_refl _) .refl r .nil
  | n, .cons _ _ .nil, _, h, _, _, _, _, _, _, _, _, _ => by cases h
  | 0, .cons _ _ (.cons _ _ _), hn, _, _, _, _, _, _, _, _, _, _ => by simp at hn
  | n + 1, .cons a kx (.cons b vx as), hn, h, σ, H, ρ, ds, S, Q, r, sl, q => by
    have h' : (!a && !b && evenEs as) = true := h
    simp only [Bool.and_eq_true, Bool.not_eq_true'] at h'
    obtain ⟨⟨rfl, rfl⟩, hp⟩ := h'
    unfold evEs at q
    simp only [Bool.false_eq_true, if_false] at q
    show rdE g cl W kx σ H _
    refine rdE.bind r sl q fun ρ1 H1 S1 d v p1 t1 r1 dv sl1 q1 => ?_
    unfold evEs at q1
    simp only [Bool.false_eq_true, if_false] at q1
    rw [assoc_bind] at q1
    refine rdE.bind r1 sl1 q1 fun ρ2 H2 S2 d2 v2 p2 t2 r2 dv2 sl2 q2 => ?_
    rw [assoc_bind] at q2
    refine pairs_rd n as (by simp at hn; omega) hp σ H2 ρ2 ds S2 _ r2 sl2 (q2.bind.imp (fun xs S' z => ?_) fun _ _ _ z => z)
    intro ρ' H' vs a1 a2 a3 a4
    exact z ρ' H' (v :: v2 :: vs) (p1.trans (p2.trans a1)) (t1.trans (t2.trans a2)) a3 (.cons (dv.mono (p2.trans a1) (t2.trans a2)) (.cons (dv2.mono a1 a2) a4))
theorem evEs_keep_len : True := trivial
theorem snd_dic {keys : List (Option Expr)} {values : List Expr} {as : Es} {pos : Pos} (h : PPs X pos keys values ((pairEs as).map fun p => (rdE g cl W p.1, rdE g cl W p.2))) (he : evenEs as = true) (hall : keys.all (·.isSome) = true) (hl : keys.length = values.length) (h0 : keys ≠ [])
    (h15 : keys.length ≤ 15) : PE X (.Dict keys values pos) (rdE g cl W (.dic as)) := by
  refine PEto (pe_disp h hall hl h0 h15) ?_
  rintro σ H Q ⟨ρ, ds, S, r, sl, q⟩
  unfold evE at q
  intro p hp
  have pre : ρ <+: ρ ++ [p] := List.prefix_append _ _
  have tk : TupK g.toGd H (upd H p (.dK [])) := .new hp
  have r1 := r.new (o := .dct [] false) (ho := .dK []) hp ⟨[], rfl, upd_same⟩
  have hpi : (ρ ++ [p])[S.length]? = some p := by rw [← r.len]; simp
  have q1 : MPost (M.bind (evEs g.pg cl ds as) (fun xs => fillD (.obj S.length) xs) (S ++ [.dct [] false])) (fun d S' => PostV g ρ H d S' Q) (fun c fs S' => PostX g ρ H c fs S' fun cls dd H' => W cls dd σ H') := q
  refine pairs_rd _ as (Nat.le_refl _) he σ _ (ρ ++ [p]) ds _ _ r1 (sl.mono pre tk) (q1.bind.imp (fun xs S' z => ?_) fun _ _ _ z => z.mono pre tk)
  intro ρ' H' vs a1 a2 a3 a4
  unfold fillD at z
  simp only at z
  cases ei : S'[S.length]? with
  | none => rw [ei] at z; exact z.elim
  | some o =>
    cases ed : dicD xs [] with
    | none => rw [ei, ed] at z; cases o <;> first | exact z.elim | (rename_i kvs lk; cases kvs <;> cases lk <;> exact z.elim)
    | some kvs =>
      rw [ei, ed] at z
      cases o with
      | lst _ _ => exact z.elim
      | ins _ _ => exact z.elim
      | dct k0 lk =>
        cases k0 with
        | cons _ _ => cases lk <;> exact z.elim
        | nil =>
          cases lk with
          | true => exact z.elim
          | false =>
            simp only at z
            by_cases hz : xs.length ≤ 30
            · rw [if_pos hz] at z
              have hp' := pre_get a1 hpi
              obtain ⟨us, hu, hh⟩ := a3.ob _ _ p ei hp'
              have eu : us = [] := hu
              subst eu
              obtain ⟨ps, e1, e2, e3⟩ := dic_dvs (as := []) (acc := []) _ (Nat.le_refl _) a4 rfl ed
              refine ⟨hh, ps, e1, by omega, ?_⟩
              have z' : PostV g ρ' H' (.obj S.length) (S'.set S.length (.dct kvs false)) Q := (show PostV g ρ H _ _ Q from z).mono (pre.trans a1) (tk.trans a2)
              exact post_write a3 ei hp' rfl z' (fun tk => ⟨_, e3.mono (List.prefix_refl _) tk, upd_same⟩) fun _ => by unfold DV; exact ⟨p, rfl, hp'⟩
            · rw [if_neg hz] at z; exact z.elim
theorem snd_dic0 {pos : Pos} : PE X (.Dict [] [] pos) (rdE g cl W (.dic .nil)) := by
  refine PEto pe_dnewK ?_
  rintro σ H Q ⟨ρ, ds, S, r, sl, q⟩
  unfold evE at q
  intro p hp
  have q1 : MPost (fillD (.obj S.length) [] (S ++ [.dct [] false])) (fun d S' => PostV g ρ H d S' Q) (fun c fs S' => PostX g ρ H c fs S' fun cls dd H' => W cls dd σ H') := q
  unfold fillD at q1
  simp only at q1
  have e : (S ++ [Ob.dct [] false])[S.length]? = some (.dct [] false) := by simp
  rw [e] at q1
  have e2 : (S ++ [Ob.dct [] false]).set S.length (.dct [] false) = S ++ [.dct [] false] := by simp
  have q2 : PostV g ρ H (.obj S.length) ((S ++ [Ob.dct [] false]).set S.length (.dct [] false)) Q := q1
  rw [e2] at q2
  exact post_new q2 (List.prefix_refl _) .refl r hp ⟨[], rfl, upd_same⟩
end
end LA

/-! Soundness: what a loop walks. -/
namespace LA
open PySem PySem.Spec PyProof.Rows L2
section
variable {g : GdX} {cl : Nat → List D → M D} {W : WX} {k : Nat} {c : Cc} {X : Cx}
/-- the model's walk J goes as w says, from (ρ0, H0) on -/
structure ItR (g : GdX) (ρ0 : List Addr) (H0 : Hp) (w : Wk) (J : It) : Prop where
  go : ∀ ρ S H i d, ρ0 <+: ρ → TupK g.toGd H0 H → Rel g.toGd ρ S H → w.get S i = some (some d) → J.go i H
  stop : ∀ ρ S H i, ρ0 <+: ρ → TupK g.toGd H0 H → Rel g.toGd ρ S H → w.get S i = some none → J.stop i H
  yld : ∀ ρ S H i d x H', ρ0 <+: ρ → TupK g.toGd H0 H → Rel g.toGd ρ S H → w.get S i = some (some d) → J.yld i H x H' → Rel g.toGd ρ S H' ∧ TupK g.toGd H H' ∧ DV g.toGd ρ H' d x
theorem itr_tup {ρ0 : List Addr} {H0 : Hp} {a : Addr} {xs : List D} {vs : List V} (hK : X.K = g.K) (sq : SqT g.K H0 a vs) (dv : DVs g.toGd ρ0 H0 xs vs) : ItR g ρ0 H0 (.items xs) (Itt X.K a) where
  go := fun ρ S H i d p t r e => by
    cases ei : xs[i]? with
    | none => have e' : some xs[i]? = some (some d) := e; rw [ei] at e'; cases e'
    | some y =>
      obtain ⟨v, h1, _⟩ := dv.get ei
      exact ⟨vs, v, by rw [hK]; exact t.tup _ _ sq, h1⟩
  stop := fun ρ S H i p t r e => by
    have e' : xs[i]? = none := Option.some.inj e
    exact ⟨vs, by rw [hK]; exact t.tup _ _ sq, by rw [← dv.length]; exact List.getElem?_eq_none_iff.mp e'⟩
  yld := fun ρ S H i d x H' p t r e y => by
    have e' : xs[i]? = some d := Option.some.inj e
    obtain ⟨v, h1, h2⟩ := dv.get e'
    obtain ⟨rfl, hy⟩ := y
    have := hy vs (by rw [hK]; exact t.tup _ _ sq)
    rw [h1] at this
    cases this
    exact ⟨r, .refl, h2.mono p t⟩
theorem itr_lst {ρ0 : List Addr} {H0 : Hp} {a : Addr} {j n : Nat} (hK : X.K = g.K) (ha : ρ0[j]? = some a) : ItR g ρ0 H0 (.lst j n) (Itl X.K a) where
  go := fun ρ S H i d p t r e => by
    unfold Wk.get at e
    cases ej : S[j]? with
    | none => simp only [ej] at e; cases e
    | some o =>
      simp only [ej] at e
      cases o <;> first | (cases e; done) | skip
      rename_i ys lk
      simp only at e
      by_cases hl : ys.length = n
      · rw [if_pos hl] at e
        obtain ⟨vs, dv, hh⟩ := r.ob j _ a ej (pre_get p ha)
        obtain ⟨v, h1, _⟩ := dv.get (Option.some.inj e)
        refine ⟨vs, v, .inl ?_, h1⟩
        cases lk with
        | true => obtain ⟨o, hh⟩ := hh; exact .inr ⟨o, hh⟩
        | false => exact .inl hh
      · rw [if_neg hl] at e; cases e
  stop := fun ρ S H i p t r e => by
    unfold Wk.get at e
    cases ej : S[j]? with
    | none => simp only [ej] at e; cases e
    | some o =>
      simp only [ej] at e
      cases o <;> first | (cases e; done) | skip
      rename_i ys lk
      simp only at e
      by_cases hl : ys.length = n
      · rw [if_pos hl] at e
        obtain ⟨vs, dv, hh⟩ := r.ob j _ a ej (pre_get p ha)
        refine ⟨vs, .inl ?_, by rw [← dv.length]; exact List.getElem?_eq_none_iff.mp (Option.some.inj e)⟩
        cases lk with
        | true => obtain ⟨o, hh⟩ := hh; exact .inr ⟨o, hh⟩
        | false => exact .inl hh
      · rw [if_neg hl] at e; cases e
  yld := fun ρ S H i d x H' p t r e y => by
    unfold Wk.get at e
    cases ej : S[j]? with
    | none => simp only [ej] at e; cases e
    | some o =>
      simp only [ej] at e
      cases o <;> first | (cases e; done) | skip
      rename_i ys lk
      simp only at e
      by_cases hl : ys.length = n
      · rw [if_pos hl] at e
        obtain ⟨vs, dv, hh⟩ := r.ob j _ a ej (pre_get p ha)
        obtain ⟨v, h1, h2⟩ := dv.get (Option.some.inj e)
        obtain ⟨rfl, hy⟩ := y
        have hs : SqL X.K H' a vs := .inl (by
          cases lk with
          | true => obtain ⟨o, hh⟩ := hh; exact .inr ⟨o, hh⟩
          | false => exact .inl hh)
        have := hy vs hs
        rw [h1] at this
        cases this
        exact ⟨r, .refl, h2⟩
      · rw [if_neg hl] at e; cases e
theorem itr_str {ρ0 : List Addr} {H0 : Hp} {x : List Nat} : ItR g ρ0 H0 (.items (x.map fun c => .str [c])) (Its (toStr x)) where
  go := fun ρ S H i d p t r e => by
    have e' : (x.map fun c => D.str [c])[i]? = some d := Option.some.inj e
    have := (List.getElem?_eq_some_iff.mp e').1
    show i < (toStr x).cps.size
    simpa [toStr] using this
  stop := fun ρ S H i p t r e => by
    have e' : (x.map fun c => D.str [c])[i]? = none := Option.some.inj e
    have := List.getElem?_eq_none_iff.mp e'
    show (toStr x).cps.size ≤ i
    simpa [toStr] using this
  yld := fun ρ S H i d v H' p t r e y => by
    have e' : (x.map fun c => D.str [c])[i]? = some d := Option.some.inj e
    obtain ⟨rfl, ch, hc, rfl⟩ := y
    rw [List.getElem?_map] at e'
    have hc' : x[i]? = some ch := by simpa [toStr] using hc
    rw [hc'] at e'
    cases e'
    exact ⟨r, .refl, dv_str (x := [ch])⟩
theorem itr_rng {ρ0 : List Addr} {H0 : Hp} {a b : Int} : ItR g ρ0 H0 (.items (rangeD a b)) (Itr a (b - a).toNat) where
  go := fun ρ S H i d p t r e => by
    have e' : (rangeD a b)[i]? = some d := Option.some.inj e
    have := (List.getElem?_eq_some_iff.mp e').1
    show i < (b - a).toNat
    simpa [rangeD] using this
  stop := fun ρ S H i p t r e => by
    have e' : (rangeD a b)[i]? = none := Option.some.inj e
    have := List.getElem?_eq_none_iff.mp e'
    show (b - a).toNat ≤ i
    simpa [rangeD] using this
  yld := fun ρ S H i d v H' p t r e y => by
    have e' : (rangeD a b)[i]? = some d := Option.some.inj e
    obtain ⟨rfl, rfl⟩ := y
    have hl := (List.getElem?_eq_some_iff.mp e').1
    have hl' : i < (b - a).toNat := by simpa [rangeD] using hl
    have : (rangeD a b)[i]? = some (.int (a + (i : Int))) := by simp [rangeD, hl']
    rw [this] at e'
    cases e'
    exact ⟨r, .refl, dv_int⟩
theorem kvs_get {G : Gd} {ρ : List Addr} {H : Hp} : ∀ {kvs : List (Ky × D)} {vs : List (Key × V)} {i : Nat} {ky : Ky} {d : D}, KVs G ρ H kvs vs → kvs[i]? = some (ky, d) → ∃ v, vs[i]? = some (kyKey ky, v) ∧ DV G ρ H d v
  | [], vs, i, ky, d, h, e => by simp at e
  | (j, w) :: r, vs, i, ky, d, h, e => by
    obtain ⟨u, ws, rfl, du, hr⟩ := h
    cases i with
    | zero => simp at e; obtain ⟨rfl, rfl⟩ := e; exact ⟨u, rfl, du⟩
    | succ i => exact kvs_get (i := i) hr (by simpa using e)
theorem dv_key {ρ : List Addr} {H : Hp} (j : Ky) : DV g.toGd ρ H (ofKy j) (kV (kyKey j)) := by
  cases j with
  | n i => exact dv_int
  | s x => exact dv_str
theorem itr_keys {ρ0 : List Addr} {H0 : Hp} {a : Addr} {od : Obj} {kvs : List (Ky × D)} {vs : List (Key × V)} (hh : H0 a = some (.frz od (.dK vs))) (kv : KVs g.toGd ρ0 H0 kvs vs) : ItR g ρ0 H0 (.items (kvs.map fun kv => ofKy kv.1)) (Itk a od vs) where
  go := fun ρ S H i d p t r e => by
    have e' : (kvs.map fun kv => ofKy kv.1)[i]? = some d := Option.some.inj e
    have hl := (List.getElem?_eq_some_iff.mp e').1
    rw [List.length_map, kvs_len kv] at hl
    exact ⟨t.frz _ _ _ hh, hl⟩
  stop := fun ρ S H i p t r e => by
    have e' : (kvs.map fun kv => ofKy kv.1)[i]? = none := Option.some.inj e
    have hl := List.getElem?_eq_none_iff.mp e'
    rw [List.length_map, kvs_len kv] at hl
    exact ⟨t.frz _ _ _ hh, hl⟩
  yld := fun ρ S H i d x H' p t r e y => by
    have e' : (kvs.map fun kv => ofKy kv.1)[i]? = some d := Option.some.inj e
    obtain ⟨rfl, k, v, h1, rfl⟩ := y
    rw [List.getElem?_map] at e'
    cases ek : kvs[i]? with
    | none => rw [ek] at e'; cases e'
    | some z =>
      obtain ⟨ky, w⟩ := z
      rw [ek] at e'
      cases e'
      obtain ⟨u, h2, _⟩ := kvs_get kv ek
      rw [h1] at h2
      cases h2
      exact ⟨r, .refl, dv_key ky⟩
theorem itr_items {ρ0 : List Addr} {H0 : Hp} {a : Addr} {od : Obj} {kvs : List (Ky × D)} {vs : List (Key × V)} (hh : H0 a = some (.frz od (.dK vs))) (kv : KVs g.toGd ρ0 H0 kvs vs) : ItR g ρ0 H0 (.items (kvs.map fun kv => .tup [ofKy kv.1, kv.2])) (Iti a od vs) where
  go := fun ρ S H i d p t r e => by
    have e' : (kvs.map fun kv => D.tup [ofKy kv.1, kv.2])[i]? = some d := Option.some.inj e
    have hl := (List.getElem?_eq_some_iff.mp e').1
    rw [List.length_map, kvs_len kv] at hl
    exact ⟨t.frz _ _ _ hh, hl⟩
  stop := fun ρ S H i p t r e => by
    have e' : (kvs.map fun kv => D.tup [ofKy kv.1, kv.2])[i]? = none := Option.some.inj e
    have hl := List.getElem?_eq_none_iff.mp e'
    rw [List.length_map, kvs_len kv] at hl
    exact ⟨t.frz _ _ _ hh, hl⟩
  yld := fun ρ S H i d x H' p t r e y => by
    have e' : (kvs.map fun kv => D.tup [ofKy kv.1, kv.2])[i]? = some d := Option.some.inj e
    obtain ⟨T, k, v, h1, rfl, hT, rfl⟩ := y
    rw [List.getElem?_map] at e'
    cases ek : kvs[i]? with
    | none => rw [ek] at e'; cases e'
    | some z =>
      obtain ⟨ky, w⟩ := z
      rw [ek] at e'
      cases e'
      obtain ⟨u, h2, h3⟩ := kvs_get kv ek
      rw [h1] at h2
      cases h2
      refine ⟨r.tup hT, .new hT, ?_⟩
      unfold DV
      exact ⟨T, _, rfl, .of upd_same, .cons (dv_key ky) (.cons ((h3.mono p t).mono (List.prefix_refl _) (.new hT)) .nil)⟩
theorem itr_zip {ρ0 : List Addr} {H0 : Hp} {a b : Addr} {xs ys : List D} {vs ws : List V} (hK : X.K = g.K) (sa : SqT g.K H0 a vs) (da : DVs g.toGd ρ0 H0 xs vs) (sb : SqT g.K H0 b ws) (db : DVs g.toGd ρ0 H0 ys ws) :
    ItR g ρ0 H0 (.items (zipD xs ys)) (RZ.ItzT X.K a b) where
  go := fun ρ S H i d p t r e => by
    have e' : (zipD xs ys)[i]? = some d := Option.some.inj e
    have hl := (List.getElem?_eq_some_iff.mp e').1
    have hl' : i < xs.length ∧ i < ys.length := by simp [zipD] at hl; omega
    obtain ⟨v, h1, _⟩ := da.get (List.getElem?_eq_getElem hl'.1)
    obtain ⟨u, h2, _⟩ := db.get (List.getElem?_eq_getElem hl'.2)
    exact ⟨vs, ws, v, u, by rw [hK]; exact t.tup _ _ sa, by rw [hK]; exact t.tup _ _ sb, h1, h2⟩
  stop := fun ρ S H i p t r e => by
    have e' : (zipD xs ys)[i]? = none := Option.some.inj e
    have hl := List.getElem?_eq_none_iff.mp e'
    have hl' : xs.length ≤ i ∨ ys.length ≤ i := by simp [zipD] at hl; omega
    rw [da.length, db.length] at hl'
    exact ⟨vs, ws, by rw [hK]; exact t.tup _ _ sa, by rw [hK]; exact t.tup _ _ sb, hl'⟩
  yld := fun ρ S H i d x H' p t r e y => by
    have e' : (zipD xs ys)[i]? = some d := Option.some.inj e
    have hl := (List.getElem?_eq_some_iff.mp e').1
    have hl' : i < xs.length ∧ i < ys.length := by simp [zipD] at hl; omega
    obtain ⟨v, h1, h3⟩ := da.get (List.getElem?_eq_getElem hl'.1)
    obtain ⟨u, h2, h4⟩ := db.get (List.getElem?_eq_getElem hl'.2)
    obtain ⟨T, x1, y1, rfl, hT, rfl, hx, hy⟩ := y
    have q1 := hx vs (by rw [hK]; exact t.tup _ _ sa)
    have q2 := hy ws (by rw [hK]; exact t.tup _ _ sb)
    rw [h1] at q1
    rw [h2] at q2
    cases q1; cases q2
    have ez : (xs.zip ys)[i]? = some (xs[i]'hl'.1, ys[i]'hl'.2) := by
      rw [List.getElem?_eq_getElem (by rw [List.length_zip]; omega), List.getElem_zip]
    have e2 : (zipD xs ys)[i]? = some (.tup [xs[i]'hl'.1, ys[i]'hl'.2]) := by
      unfold zipD
      rw [List.getElem?_map, ez]
      rfl
    rw [e2] at e'
    cases e'
    refine ⟨r.tup hT, .new hT, ?_⟩
    unfold DV
    exact ⟨T, _, rfl, .of upd_same, .cons ((h3.mono p t).mono (List.prefix_refl _) (.new hT)) (.cons ((h4.mono p t).mono (List.prefix_refl _) (.new hT)) .nil)⟩
end
end LA

/-! Soundness: iterables. -/
namespace LA
open PySem PySem.Spec PyProof.Rows L2
theorem PIor {X : Cx} {tg it : Expr} {t u : TI} (h : PI X tg it t) (h' : PI X tg it u) : PI X tg it (fun σ H R => t σ H R ∨ u σ H R) := ⟨fun pins s σ H R I q => q.elim (h.run pins s σ H R I) (h'.run pins s σ H R I)⟩
theorem PIto {X : Cx} {tg it : Expr} {t t' : TI} (h : PI X tg it t) (i : ∀ σ H R, t' σ H R → t σ H R) : PI X tg it t' := ⟨fun pins s σ H R I q => h.run pins s σ H R I (i _ _ _ q)⟩
/-- the lock that a walk has laid -/
def LkR (X : Cx) (g : GdX) (H : Hp) (ρ' : List Addr) (H' : Hp) : Option Nat → Prop
  | none => True
  | some i => ∃ d od vs, ρ'[i]? = some d ∧ H' d = some (.frz od (.dK vs)) ∧ NF X d ∧ ∀ H'', TupK g.toGd H' H'' → TupK g.toGd H (upd H'' d (.dK vs))
def rdI (X : Cx) (g : GdX) (cl : Nat → List D → M D) (W : WX) (it : LA.I) : TI := fun σ H R => ∃ ρ ds S, Rel g.toGd ρ S H ∧ SlR g.toGd ρ H ds σ ∧
  MPost (evI g.pg cl ds it S) (fun w S' => ∀ ρ' H' J, ρ <+: ρ' → TupK g.toGd H H' → Rel g.toGd ρ' S' H' → ItR g ρ' H' w.1 J → LkR X g H ρ' H' w.2 → R J H') (fun c fs S' => PostX g ρ H c fs S' fun cls dd H' => W cls dd σ H')
section
variable {g : GdX} {cl : Nat → List D → M D} {W : WX} {k : Nat} {c : Cc} {X : Cx}
/-- the kind of what is walked -/
inductive WKind where | lst | tup | str | dct
def kindOf (S : Sto) : D → WKind
  | .tup _ => .tup
  | .str _ => .str
  | .obj i => match S[i]? with
    | some (.dct _ _) => .dct
    | _ => .lst
  | _ => .lst
theorem lock_rel {ρ : List Addr} {S : Sto} {H : Hp} {i : Nat} {d : Addr} {kvs : List (Ky × D)} {vs : List (Key × V)} (r : Rel g.toGd ρ S H) (hi : ρ[i]? = some d) (h0 : S[i]? = some (.dct kvs false)) (hd : H d = some (.dK vs)) (od : Obj) :
    Rel g.toGd ρ (S.set i (.dct kvs true)) (upd H d (.frz od (.dK vs))) ∧ TupK g.toGd H (upd H d (.frz od (.dK vs))) ∧ (∀ H'', TupK g.toGd (upd H d (.frz od (.dK vs))) H'' → TupK g.toGd H (upd H'' d (.dK vs))) ∧ KVs g.toGd ρ (upd H d (.frz od (.dK vs))) kvs vs := by
  have tk : TupK g.toGd H (upd H d (.frz od (.dK vs))) := .write hd (fun _ z => nomatch z) (fun _ _ z => nomatch z)
  obtain ⟨ws, kv, hw⟩ := r.ob i _ d h0 hi
  have hw' : H d = some (.dK ws) := hw
  rw [hd] at hw'
  cases hw'
  have kv' := kv.mono (List.prefix_refl _) tk
  obtain ⟨r', _⟩ := r.write (o := .dct kvs true) (ho := .frz od (.dK vs)) hi ⟨vs, kv', od, upd_same⟩ h0 rfl
  exact ⟨r', tk, fun H'' t => (tk.trans t).unlock hd (fun _ _ z => nomatch z) (t.frz d od _ upd_same) (fun _ z => nomatch z) (fun _ _ z => nomatch z) (fun _ z => nomatch z), kv'⟩
theorem snd_iex (G : Gk g k c X) {tg e : Expr} {x : LA.E} (h : PE X e (rdE g cl W x)) : PI X tg e (rdI X g cl W (.ex x)) := by
  refine PIto (PIor (PIor (PIor (pi_list h) (pi_tup h)) (pi_str h)) (pi_keys (pe_lockV h))) ?_
  rintro σ H R ⟨ρ, ds, S, r, sl, q⟩
  unfold evI at q
  cases ev : evE g.pg cl ds x S with
  | none => unfold M.bind at q; rw [ev] at q; exact q.elim
  | some rr =>
    obtain ⟨rr, S0⟩ := rr
    cases rr with
    | ex cc fs =>
      refine .inl (.inl (.inl ⟨ρ, ds, S, r, sl, ?_⟩))
      unfold M.bind at q
      rw [ev] at q ⊢
      exact q
    | ok d0 =>
      cases hk : kindOf S0 d0 with
      | lst =>
        refine .inl (.inl (.inl ?_))
        refine rdE.bindE r sl q fun ρ1 H1 S1 d v p1 t1 r1 dv sl1 e1 q1 => ?_
        rw [ev] at e1
        cases e1
        cases d0 with
        | tup _ => cases hk
        | str _ => cases hk
        | non => exact q1.elim
        | bl _ => exact q1.elim
        | int _ => exact q1.elim
        | obj i =>
          simp only [wkOf] at q1
          cases ei : S0[i]? with
          | none => rw [ei] at q1; exact q1.elim
          | some o =>
            rw [ei] at q1
            cases o with
            | dct _ _ => simp only [kindOf, ei] at hk; cases hk
            | ins _ _ => exact q1.elim
            | lst xs lk =>
              obtain ⟨a, vs, rfl, ha, _, sq⟩ := lst_rd r1 dv ei
              refine ⟨a, rfl, ⟨vs, by rw [G.K]; exact sq⟩, ?_⟩
              exact (show ∀ ρ' H' J, ρ <+: ρ' → TupK g.toGd H H' → Rel g.toGd ρ' S0 H' → ItR g ρ' H' (.lst i xs.length) J → LkR X g H ρ' H' none → R J H' from q1) ρ1 H1 _ p1 t1 r1 (itr_lst G.K ha) trivial
      | tup =>
        refine .inl (.inl (.inr ?_))
        refine rdE.bindE r sl q fun ρ1 H1 S1 d v p1 t1 r1 dv sl1 e1 q1 => ?_
        rw [ev] at e1
        cases e1
        cases d0 with
        | tup xs =>
          obtain ⟨a, vs, rfl, sq, dvs⟩ := tup_dv dv
          refine ⟨a, rfl, ⟨vs, by rw [G.K]; exact sq⟩, ?_⟩
          exact (show ∀ ρ' H' J, ρ <+: ρ' → TupK g.toGd H H' → Rel g.toGd ρ' S0 H' → ItR g ρ' H' (.items xs) J → LkR X g H ρ' H' none → R J H' from q1) ρ1 H1 _ p1 t1 r1 (itr_tup G.K sq dvs) trivial
        | obj i =>
          unfold kindOf at hk
          simp only at hk
          cases ei : S0[i]? with
          | none => rw [ei] at hk; cases hk
          | some o => rw [ei] at hk; cases o <;> cases hk
        | _ => cases hk
      | str =>
        refine .inl (.inr ?_)
        refine rdE.bindE r sl q fun ρ1 H1 S1 d v p1 t1 r1 dv sl1 e1 q1 => ?_
        rw [ev] at e1
        cases e1
        cases d0 with
        | str z =>
          refine ⟨toStr z, str_dv dv, ?_⟩
          exact (show ∀ ρ' H' J, ρ <+: ρ' → TupK g.toGd H H' → Rel g.toGd ρ' S0 H' → ItR g ρ' H' (.items (z.map fun c => .str [c])) J → LkR X g H ρ' H' none → R J H' from q1) ρ1 H1 _ p1 t1 r1 itr_str trivial
        | obj i =>
          unfold kindOf at hk
          simp only at hk
          cases ei : S0[i]? with
          | none => rw [ei] at hk; cases hk
          | some o => rw [ei] at hk; cases o <;> cases hk
        | _ => cases hk
      | dct =>
        refine .inr ?_
        refine rdE.bindE r sl q fun ρ1 H1 S1 d v p1 t1 r1 dv sl1 e1 q1 => ?_
        rw [ev] at e1
        cases e1
        cases d0 with
        | obj i =>
          simp only [wkOf] at q1
          cases ei : S0[i]? with
          | none => rw [ei] at q1; exact q1.elim
          | some o =>
            rw [ei] at q1
            cases o with
            | lst _ _ => simp only [kindOf, ei] at hk; cases hk
            | ins _ _ => exact q1.elim
            | dct kvs lk =>
              simp only at q1
              have q2 := q1.bind
              unfold lockD at q2
              rw [ei] at q2
              simp only at q2
              cases lk with
              | true => rw [if_pos rfl] at q2; exact q2.elim
              | false =>
                rw [if_neg Bool.false_ne_true] at q2
                obtain ⟨a, rfl, ha⟩ := obj_dv dv
                obtain ⟨vs, _, hd⟩ := r1.ob i _ a ei ha
                refine ⟨a, vs, rfl, hd, fun od nf => ⟨a, od, rfl, .inl ⟨vs, upd_same, ?_⟩⟩⟩
                obtain ⟨r2, t2, un, kv⟩ := lock_rel r1 ha ei hd od
                exact (show ∀ ρ' H' J, ρ <+: ρ' → TupK g.toGd H H' → Rel g.toGd ρ' (S0.set i (.dct kvs true)) H' → ItR g ρ' H' (.items (kvs.map fun kv => ofKy kv.1)) J → LkR X g H ρ' H' (some i) → R J H' from q2) ρ1 _ _ p1 (t1.trans t2) r2
                  (itr_keys upd_same kv) ⟨a, od, vs, ha, upd_same, nf, fun H'' t => t1.trans (un H'' t)⟩
        | tup _ => cases hk
        | str _ => cases hk
        | non => cases hk
        | bl _ => cases hk
        | int _ => cases hk
theorem snd_iitems (G : Gk g k c X) {elts : List Expr} {kk : Nat} {tpos : Pos} {e : Expr} {x : LA.E} {apos cpos : Pos} (h : PE X e (rdE g cl W x)) (ho : attrOk e = true) (hl : (apos.endLine == cpos.line) = true) :
    PI X (.Tuple elts kk tpos) (.Call (.Attribute e "items" apos) [] [] cpos) (rdI X g cl W (.items x)) := by
  refine PIto (pi_items (pe_lockV h) (attr_ok ho) hl) ?_
  rintro σ H R ⟨ρ, ds, S, r, sl, q⟩
  unfold evI at q
  refine rdE.bind r sl q fun ρ1 H1 S1 d v p1 t1 r1 dv sl1 q1 => ?_
  cases d <;> first | exact q1.elim | skip
  rename_i i
  simp only at q1
  cases ei : S1[i]? with
  | none => rw [ei] at q1; exact q1.elim
  | some o =>
    rw [ei] at q1
    cases o with
    | lst _ _ => exact q1.elim
    | ins _ _ => exact q1.elim
    | dct kvs lk =>
      simp only at q1
      have q2 := q1.bind
      unfold lockD at q2
      rw [ei] at q2
      simp only at q2
      cases lk with
      | true => rw [if_pos rfl] at q2; exact q2.elim
      | false =>
        rw [if_neg Bool.false_ne_true] at q2
        obtain ⟨a, rfl, ha⟩ := obj_dv dv
        obtain ⟨vs, _, hd⟩ := r1.ob i _ a ei ha
        refine ⟨a, vs, rfl, hd, fun od nf => ⟨a, od, vs, rfl, upd_same, ?_⟩⟩
        obtain ⟨r2, t2, un, kv⟩ := lock_rel r1 ha ei hd od
        exact (show ∀ ρ' H' J, ρ <+: ρ' → TupK g.toGd H H' → Rel g.toGd ρ' (S1.set i (.dct kvs true)) H' → ItR g ρ' H' (.items (kvs.map fun kv => .tup [ofKy kv.1, kv.2])) J → LkR X g H ρ' H' (some i) → R J H' from q2) ρ1 _ _ p1 (t1.trans t2) r2
          (itr_items upd_same kv) ⟨a, od, vs, ha, upd_same, nf, fun H'' t => t1.trans (un H'' t)⟩
end
end LA

/-! Soundness: range, zip. -/
namespace LA
open PySem PySem.Spec PyProof.Rows L2
section
variable {g : GdX} {cl : Nat → List D → M D} {W : WX} {k : Nat} {c : Cc} {X : Cx}
theorem snd_irange (G : Cxt g k cl W c X) {tg a : Expr} {x : LA.E} {p pos : Pos} (hx : c.blt? "range" = true) (ha : PE X a (rdE g cl W x)) (h1 : isStar a = false) : PI X tg (.Call (.Name "range" p) [a] [] pos) (rdI X g cl W (.range x)) := by
  obtain ⟨b1, _⟩ := Cc.blt_ok hx
  have hs := starEach_no (r := []) (env := X.env) h1
  refine PIto (pi_range1 (G.gl_ b1) (by rw [G.mg]; exact G.fac.free _ (by decide +kernel)) (pa_cons ha pa_nil hs) hs) ?_
  rintro σ H R ⟨ρ, ds, S, r, sl, q⟩
  unfold evI at q
  refine rdE.bind r sl q fun ρ1 H1 S1 d v p1 t1 r1 dv sl1 q1 => ?_
  cases d <;> first | exact q1.elim | skip
  rename_i n
  simp only at q1
  by_cases hn : -1000000 < n ∧ n < 1000000
  · rw [if_pos hn] at q1
    refine ⟨n, by rw [int_dv dv], by omega, by omega, ?_⟩
    have e := (itr_rng (g := g) (ρ0 := ρ1) (H0 := H1) (a := 0) (b := n))
    rw [show n - 0 = n by omega] at e
    exact (show ∀ ρ' H' J, ρ <+: ρ' → TupK g.toGd H H' → Rel g.toGd ρ' S1 H' → ItR g ρ' H' (.items (rangeD 0 n)) J → LkR X g H ρ' H' none → R J H' from q1) ρ1 H1 _ p1 t1 r1 e trivial
  · rw [if_neg hn] at q1; exact q1.elim
theorem snd_irange2 (G : Cxt g k cl W c X) {tg a b : Expr} {x y : LA.E} {p pos : Pos} (hx : c.blt? "range" = true) (ha : PE X a (rdE g cl W x)) (hb : PE X b (rdE g cl W y)) (h1 : isStar a = false) (h2 : isStar b = false) :
    PI X tg (.Call (.Name "range" p) [a, b] [] pos) (rdI X g cl W (.range2 x y)) := by
  obtain ⟨b1, _⟩ := Cc.blt_ok hx
  have hs2 := starEach_no (r := []) (env := X.env) h2
  have hs := (starEach_no (r := [b]) (env := X.env) h1)
  refine PIto (pi_range2 (G.gl_ b1) (by rw [G.mg]; exact G.fac.free _ (by decide +kernel)) (pa_cons ha (pa_cons hb pa_nil hs2) hs) (by rw [hs, hs2]; rfl) hs2) ?_
  rintro σ H R ⟨ρ, ds, S, r, sl, q⟩
  unfold evI at q
  refine rdE.bind r sl q fun ρ1 H1 S1 d v p1 t1 r1 dv sl1 q1 => ?_
  refine rdE.bind r1 sl1 q1 fun ρ2 H2 S2 d2 v2 p2 t2 r2 dv2 sl2 q2 => ?_
  cases d <;> first | exact q2.elim | skip
  cases d2 <;> first | exact q2.elim | skip
  rename_i i j
  simp only at q2
  by_cases hn : (-1000000 < i ∧ i < 1000000) ∧ -1000000 < j ∧ j < 1000000
  · rw [if_pos hn] at q2
    refine ⟨i, j, by rw [int_dv dv, int_dv dv2], by omega, ?_⟩
    exact (show ∀ ρ' H' J, ρ <+: ρ' → TupK g.toGd H H' → Rel g.toGd ρ' S2 H' → ItR g ρ' H' (.items (rangeD i j)) J → LkR X g H ρ' H' none → R J H' from q2) ρ2 H2 _ (p1.trans p2) (t1.trans t2) r2 itr_rng trivial
  · rw [if_neg hn] at q2; exact q2.elim
theorem snd_izip (G : Cxt g k cl W c X) {elts : List Expr} {kk : Nat} {tpos : Pos} {a b : Expr} {x y : LA.E} {p pos : Pos} (hx : c.blt? "zip" = true) (ha : PE X a (rdE g cl W x)) (hb : PE X b (rdE g cl W y)) (h1 : isStar a = false) (h2 : isStar b = false) :
    PI X (.Tuple elts kk tpos) (.Call (.Name "zip" p) [a, b] [] pos) (rdI X g cl W (.zip x y)) := by
  obtain ⟨b1, _⟩ := Cc.blt_ok hx
  have hs2 := starEach_no (r := []) (env := X.env) h2
  have hs := (starEach_no (r := [b]) (env := X.env) h1)
  refine PIto (RZ.pi_zipA (G.gl_ b1) (by rw [G.mg]; exact G.fac.free _ (by decide +kernel)) (pa_cons ha (pa_cons hb pa_nil hs2) hs) hs (star_any (by show (isStar b || false) = false; rw [h2]; rfl) pos X.env)) ?_
  rintro σ H R ⟨ρ, ds, S, r, sl, q⟩
  unfold evI at q
  refine rdE.bind r sl q fun ρ1 H1 S1 d v p1 t1 r1 dv sl1 q1 => ?_
  refine rdE.bind r1 sl1 q1 fun ρ2 H2 S2 d2 v2 p2 t2 r2 dv2 sl2 q2 => ?_
  cases d <;> first | exact q2.elim | skip
  cases d2 <;> first | exact q2.elim | skip
  rename_i xs ys
  obtain ⟨a1, vs, rfl, sa, da⟩ := tup_dv (dv.mono p2 t2)
  obtain ⟨a2, ws, rfl, sb, db⟩ := tup_dv dv2
  refine ⟨a1, a2, vs, ws, rfl, .inr ⟨by rw [G.K]; exact sa, by rw [G.K]; exact sb, ?_⟩⟩
  exact (show ∀ ρ' H' J, ρ <+: ρ' → TupK g.toGd H H' → Rel g.toGd ρ' S2 H' → ItR g ρ' H' (.items (zipD xs ys)) J → LkR X g H ρ' H' none → R J H' from q2) ρ2 H2 _ (p1.trans p2) (t1.trans t2) r2 (itr_zip G.K sa da sb db) trivial
end
end LA

/-! Soundness: enumerate, over a tuple or a list. -/
namespace LA
open PySem PySem.Spec PyProof.Rows L2
/-- the tuple at a, each item in a new pair with its number -/
def IteT (K : PySem.W.Frag) (a : Addr) : It :=
  ⟨fun i H => ∃ (xs : List V) (x : V), SqT K H a xs ∧ xs[i]? = some x, fun i H v H1 => ∃ T x, v = .ref T ∧ H T = none ∧ H1 = upd H T (.tup [.int (i : Nat), x]) ∧ ∀ xs, SqT K H a xs → xs[i]? = some x, fun i H => ∃ xs : List V, SqT K H a xs ∧ xs.length ≤ i⟩
theorem tup_ne_iter {h : Heap} {a it : Addr} {its : Array Value} {i : Nat} (ht : h.IsTuple a its) (hi : h.IsTupleIter it a i) : a ≠ it := by
  rintro rfl
  obtain ⟨o, h1, h2, n, h3⟩ := ht
  obtain ⟨o', g1, g2, g3⟩ := hi
  rw [h1] at g1
  cases g1
  rw [h3] at g3
  cases g3
theorem turn_enumT {P : Program} {w : World} {K : PySem.W.Frag} {elts : List Expr} {kk : Nat} {tpos : Pos} (a e it : Addr) :
    Turn P w K (.Tuple elts kk tpos) (IteT K a) [e, it] e (fun i h => (∃ old, IsEnum h e it ((i : Nat) : Int) old) ∧ h.IsTupleIter it a i ∧ e ≠ it ∧ e ≠ a) where
  mem := List.mem_cons_self
  obj := fun i h st b hb => by
    obtain ⟨⟨old, he⟩, ⟨o, ho, hc, hd⟩, _⟩ := st
    rcases List.mem_cons.mp hb with z | z
    · rw [z]; exact ⟨_, he, fun v q => nomatch q⟩
    · rw [List.mem_singleton.mp z]; exact ⟨o, ho, fun v q => by rw [hd] at q; cases q⟩
  keep := fun i h h1 st k => let ⟨⟨old, he⟩, hi, hne⟩ := st; ⟨⟨old, k e (by simp) _ he⟩, hi.at fun o q => k it (by simp) o q, hne⟩
  item := by
    intro X hP hw hK hc i pins s σ H E I hf st hg
    subst hP hw hK
    obtain ⟨⟨old, he⟩, hit, hne, hea⟩ := st
    obtain ⟨xs, x, hq, hx⟩ := hg
    obtain ⟨its, rv, p, hz⟩ := I.tuple hq
    obtain ⟨u, hu, ru⟩ := rv.get hx
    have ht : s.heap.IsTuple a its.toArray := p
    have hel : e < s.heap.objs.size := Heap.lt_size he
    have hil : it < s.heap.objs.size := by obtain ⟨_, q, _⟩ := hit; exact Heap.lt_size q
    have hil' : i < its.length := (List.getElem?_eq_some_iff.mp hu).1
    refine wpAny_pyNext_enum_itemC (Draws.tuple (A := X.A.in1) (I.ok.hd hc) it a (tup_ne_iter ht hit) its.toArray) he ⟨hit, ht⟩ (by simpa using hil') hne (by simp [hne, hea]) fun x1 h1 tk hp ho st1 hT hsz hk => ?_
    have ex : x1 = u := by
      have hp' : its[i]? = some x1 := by simpa using hp
      rw [hu] at hp'
      exact (Option.some.inj hp').symm
    subst ex
    refine ⟨_, rfl, wpAny_letOwnedTupleGo_enum (s := { s with heap := h1, toks := tk + 1 }) ho fun h2 he2 sb => ?_⟩
    have hT2 : h2.get? s.heap.objs.size = some { cls := .type "tuple", data := .seq #[.int i tk, x1] } := (sb.2 _ (Nat.ne_of_gt hel)).trans hT
    have fresh : H s.heap.objs.size = none := I.hok.fresh (Nat.le_refl _)
    have new : ObjOk X.prog X.w (upd H s.heap.objs.size (.tup [.int (i : Nat), x])) h2 s.heap.objs.size (.tup [.int (i : Nat), x]) :=
      ⟨(show 2 ≤ sizeLine by decide), [.int i tk, x1], .cons ⟨_, rfl⟩ (.cons ru .nil), ⟨_, hT2, rfl, _, rfl⟩⟩
    have I1 : Inv X pins σ (upd H s.heap.objs.size (.tup [.int (i : Nat), x])) { s with heap := h2, toks := tk + 1 } :=
      I.turnedNew (ch := [e, it]) (fun b ob hb q => by
        have n1 : b ≠ e := fun z => hb (by simp [z])
        have n2 : b ≠ it := fun z => hb (by simp [z])
        exact (sb.2 b n1).trans (hk b ob n1 n2 q)) hf (Nat.le_refl _) new
    refine ⟨.ref s.heap.objs.size, _, I1, rfl, ⟨_, x, rfl, fresh, rfl, fun ys hy => by rw [I.tuple_inj hy hq]; exact hx⟩, ⟨⟨x1, ?_⟩, st1.1.at fun o q => (sb.2 it (Ne.symm hne)).trans q, hne, hea⟩, fun b hb => ?_⟩
    · rw [Int.natCast_succ]; exact he2
    · have hb' : b < s.heap.objs.size := by
        rcases List.mem_cons.mp hb with z | z
        · exact z ▸ hel
        · rw [List.mem_singleton.mp z]; exact hil
      rw [upd_ne (Nat.ne_of_lt hb')]
      exact (hf b hb).1
  done := by
    intro X hP hw hK hc i pins s σ H E I hf st hg
    subst hP hw hK
    obtain ⟨⟨old, he⟩, hit, hne, hea⟩ := st
    obtain ⟨xs, hq, hx⟩ := hg
    obtain ⟨its, rv, p, hz⟩ := I.tuple hq
    have ht : s.heap.IsTuple a its.toArray := p
    obtain ⟨f0, f1, f2, f3, f4, f5⟩ := hf it (by simp)
    have hl := rv.length
    have h0 : its.toArray[i]? = none := by simp; omega
    -- at that place it stops
    have D : Draws X.prog X.w X.A.in1 it [it, a] i (fun _ _ => False) (fun j h => j = i ∧ h.IsTupleIter it a i ∧ h.IsTuple a its.toArray) := {
      live := fun _ _ z => let ⟨o, ho, _⟩ := z.2.1; ⟨o, ho⟩
      frame := fun _ _ _ z k => ⟨z.1, z.2.1.at fun o q => k it (by simp) o q, z.2.2.at fun o q => k a (by simp) o q⟩
      item := fun j s1 Q1 E1 hj z hQ => absurd z.1 (Nat.ne_of_lt hj)
      done := fun s1 Q1 E1 z hE => wpAny_nextOf_tuple_end (I.ok.hd hc) z.2.1 z.2.2 h0 hE }
    exact wpAny_pyNext_enum_endD D he ⟨rfl, hit, ht⟩ fun h1 eb => ⟨rfl, I.turned (t' := s.toks) (fun b o hb q => eb b o hb q) f0 f1 f3 f4 f5⟩
  self := fun A i s Q E st h => let ⟨⟨_, he⟩, _⟩ := st; wpAny_pyIter_enum he h
theorem enumT_new (l : Addr) (items : Array Value) : Meets (Builtin.«enumerate.__new__» ⟨[.type "enumerate", .ref l], []⟩) (fun _ R s => s.heap.IsTuple l items ∧
    R (.ok (.ret (.ref (s.heap.push { cls := .type "tuple_iterator", data := .fields #[.ref l, .int 0 0] }).objs.size)))
      { s with heap := (s.heap.push { cls := .type "tuple_iterator", data := .fields #[.ref l, .int 0 0] }).push { cls := .type "enumerate", data := .fields #[.none, .bool false, .ref s.heap.objs.size, rawInt 0, .none, .none] } }) :=
  .of_wp fun prog w A R s h => by
    obtain ⟨hp, gg, d, tk, os⟩ := s
    obtain ⟨hL, h⟩ := h
    have hsub := sub_enumerate
    have q1 : ∀ {A1 : Around} {E : Value → Shared → Prop} {Q : Value → Shared → Prop}, Q (.ref hp.objs.size) ⟨hp.push { cls := .type "tuple_iterator", data := .fields #[.ref l, .int 0 0] }, gg, d, tk, os⟩ → wpAny (model prog w) A1 (pyIter (.ref l)) Q E ⟨hp, gg, d, tk, os⟩ :=
      fun q => wpAny_pyIter_tuple hL q
    wp_walk using q1
    refine wpAny_stack_any fun st => wpAny_pure ?_
    split
    · rename_i c _ _ _ _ _
      cases (c == Value.type "enumerate") <;> (wp_walk using q1; exact ⟨_, rfl, h⟩)
    · wp_walk using q1
      exact ⟨_, rfl, h⟩
theorem call_enumT {prog : Program} {w : World} {A : Around} {E : Value → Shared → Prop} {s : Shared} {l : Addr} {items : Array Value} {Q : Value → Shared → Prop} (hL : s.heap.IsTuple l items)
    (h : ∀ h1, IsEnum h1 (s.heap.objs.size + 1) s.heap.objs.size 0 .none → h1.IsTupleIter s.heap.objs.size l 0 → (∀ b o, s.heap.get? b = some o → h1.get? b = some o) → Q (.ref (s.heap.objs.size + 1)) { s with heap := h1 }) :
    wpAny (model prog w) A (PySem.call (.type "enumerate") [.ref l]) Q E s := by
  have kk : ∀ b o, s.heap.get? b = some o → ((s.heap.push { cls := .type "tuple_iterator", data := .fields #[.ref l, .int 0 0] }).push { cls := .type "enumerate", data := .fields #[.none, .bool false, .ref s.heap.objs.size, rawInt 0, .none, .none] }).get? b = some o :=
    fun b o x => Heap.get?_push_of_some _ (Heap.get?_push_of_some _ x)
  refine callType_new F.called_enumerate (by decide) (F.typeCall_enumerate_1 _) (F.newCall_enumerate_1 _) (fun obj => F.args_object_init_2 obj _) F.entry_enumerate_new (enumT_new l items) ⟨hL, ?_⟩
  have hz : (s.heap.push { cls := .type "tuple_iterator", data := .fields #[.ref l, .int 0 0] }).objs.size = s.heap.objs.size + 1 := Heap.size_push ..
  show _ ∧ _
  rw [hz]
  have he : IsEnum ((s.heap.push { cls := .type "tuple_iterator", data := .fields #[.ref l, .int 0 0] }).push { cls := .type "enumerate", data := .fields #[.none, .bool false, .ref s.heap.objs.size, rawInt 0, .none, .none] }) (s.heap.objs.size + 1) s.heap.objs.size 0 .none := by
    have q := Heap.get?_push_size (s.heap.push { cls := .type "tuple_iterator", data := .fields #[.ref l, .int 0 0] }) (o := { cls := .type "enumerate", data := .fields #[.none, .bool false, .ref s.heap.objs.size, rawInt 0, .none, .none] }) rfl
    rw [hz] at q
    exact q
  exact ⟨⟨_, he, rfl⟩, h _ he ⟨_, Heap.get?_push_of_some _ (Heap.get?_push_size _ rfl), rfl, rfl⟩ kk⟩
def iEnumT (K : PySem.W.Frag) (ta : TA) : TI := fun σ H R => ta σ H fun vs H1 => ∃ a xs, vs = [.ref a] ∧ SqT K H1 a xs ∧ R (IteT K a) H1
theorem pi_enumT {X : Cx} {e : Expr} {ta : TA} {p pos tpos : Pos} {elts : List Expr} {kk : Nat} (hg : Gl X "enumerate") (hm : X.mg "enumerate" = none) (ha : PA X [e] ta) (hs : starEach [e] X.env = [(false, eval e X.env)]) :
    PI X (.Tuple elts kk tpos) (.Call (.Name "enumerate" p) [e] [] pos) (iEnumT X.K ta) := by
  refine ⟨fun pins s σ H R I h => ?_⟩
  refine Call_ (ld_blt I hg hm boot_enumerate (PyProof.Rows.callWith_type1 (thn (ha.run pos pins s σ H _ I h) fun us s1 ⟨vs, H1, I1, r1, q1⟩ => ?_) hs rfl))
  obtain ⟨a, xs, rfl, hq, q⟩ := q1
  cases r1 with
  | cons r rr =>
    cases rr
    cases r
    obtain ⟨its, rv, p1, hz⟩ := I1.tuple hq
    have ht : s1.heap.IsTuple a its.toArray := p1
    have hal : a < s1.heap.objs.size := by obtain ⟨o, ho, _⟩ := ht; exact Heap.lt_size ho
    refine call_enumT ht fun h1 he hit hk => wpAny_pyIter_enum he ?_
    refine ⟨s1.heap.objs.size + 1, [s1.heap.objs.size + 1, s1.heap.objs.size], _, _, H1, rfl, I1.kept (t' := s1.toks) hk, turn_enumT a (s1.heap.objs.size + 1) s1.heap.objs.size, ⟨⟨.none, he⟩, hit, Nat.succ_ne_self _, Nat.ne_of_gt (Nat.lt_succ_of_lt hal)⟩, fun b hb => ?_, q⟩
    have hle : s1.heap.objs.size ≤ b := by
      rcases List.mem_cons.mp hb with z | z
      · rw [z]; exact Nat.le_succ _
      · rw [List.mem_singleton.mp z]; exact Nat.le_refl _
    exact I1.fpOk hle (I1.hok.fresh hle)
section
variable {g : GdX} {cl : Nat → List D → M D} {W : WX} {k : Nat} {c : Cc} {X : Cx}
theorem num_get (xs : List D) (i : Nat) : (numD xs)[i]? = (xs[i]?).map fun y => .tup [.int i, y] := by
  unfold numD
  rw [List.getElem?_map, List.getElem?_zipIdx]
  cases xs[i]? with
  | none => rfl
  | some y => simp
theorem itr_enumT {ρ0 : List Addr} {H0 : Hp} {a : Addr} {xs : List D} {vs : List V} (hK : X.K = g.K) (sa : SqT g.K H0 a vs) (da : DVs g.toGd ρ0 H0 xs vs) : ItR g ρ0 H0 (.items (numD xs)) (IteT X.K a) where
  go := fun ρ S H i d p t r e => by
    have e' : (numD xs)[i]? = some d := Option.some.inj e
    rw [num_get] at e'
    obtain ⟨y, hy, _⟩ := Option.map_eq_some_iff.mp e'
    obtain ⟨v, h1, _⟩ := da.get hy
    exact ⟨vs, v, by rw [hK]; exact t.tup _ _ sa, h1⟩
  stop := fun ρ S H i p t r e => by
    have e' : (numD xs)[i]? = none := Option.some.inj e
    rw [num_get, Option.map_eq_none_iff] at e'
    exact ⟨vs, by rw [hK]; exact t.tup _ _ sa, by rw [← da.length]; exact List.getElem?_eq_none_iff.mp e'⟩
  yld := fun ρ S H i d x H1 p t r e y => by
    have e' : (numD xs)[i]? = some d := Option.some.inj e
    rw [num_get] at e'
    obtain ⟨y0, hy0, rfl⟩ := Option.map_eq_some_iff.mp e'
    obtain ⟨v, h1, h2⟩ := da.get hy0
    obtain ⟨T, x1, rfl, hT, rfl, hx⟩ := y
    have q1 := hx vs (by rw [hK]; exact t.tup _ _ sa)
    rw [h1] at q1
    cases q1
    refine ⟨r.tup hT, .new hT, ?_⟩
    unfold DV
    exact ⟨T, _, rfl, .of upd_same, .cons dv_int (.cons ((h2.mono p t).mono (List.prefix_refl _) (.new hT)) .nil)⟩
theorem itr_enumL {ρ0 : List Addr} {H0 : Hp} {a : Addr} {j n : Nat} (hK : X.K = g.K) (ha : ρ0[j]? = some a) : ItR g ρ0 H0 (.enumL j n) (Ite X.K a) where
  go := fun ρ S H i d p t r e => by
    unfold Wk.get at e
    cases ej : S[j]? with
    | none => simp only [ej] at e; cases e
    | some o =>
      simp only [ej] at e
      cases o <;> first | (cases e; done) | skip
      rename_i ys lk
      simp only at e
      by_cases hl : ys.length = n
      · rw [if_pos hl] at e
        obtain ⟨vs, dv, hh⟩ := r.ob j _ a ej (pre_get p ha)
        cases ey : ys[i]? with
        | none => rw [ey] at e; cases e
        | some y =>
          obtain ⟨v, h1, _⟩ := dv.get ey
          refine ⟨vs, v, .inl ?_, h1⟩
          cases lk with
          | true => obtain ⟨o, hh⟩ := hh; exact .inr ⟨o, hh⟩
          | false => exact .inl hh
      · rw [if_neg hl] at e; cases e
  stop := fun ρ S H i p t r e => by
    unfold Wk.get at e
    cases ej : S[j]? with
    | none => simp only [ej] at e; cases e
    | some o =>
      simp only [ej] at e
      cases o <;> first | (cases e; done) | skip
      rename_i ys lk
      simp only at e
      by_cases hl : ys.length = n
      · rw [if_pos hl] at e
        obtain ⟨vs, dv, hh⟩ := r.ob j _ a ej (pre_get p ha)
        cases ey : ys[i]? with
        | some y => rw [ey] at e; cases e
        | none =>
          refine ⟨vs, .inl ?_, by rw [← dv.length]; exact List.getElem?_eq_none_iff.mp ey⟩
          cases lk with
          | true => obtain ⟨o, hh⟩ := hh; exact .inr ⟨o, hh⟩
          | false => exact .inl hh
      · rw [if_neg hl] at e; cases e
  yld := fun ρ S H i d x H1 p t r e y => by
    unfold Wk.get at e
    cases ej : S[j]? with
    | none => simp only [ej] at e; cases e
    | some o =>
      simp only [ej] at e
      cases o <;> first | (cases e; done) | skip
      rename_i ys lk
      simp only at e
      by_cases hl : ys.length = n
      · rw [if_pos hl] at e
        obtain ⟨vs, dv, hh⟩ := r.ob j _ a ej (pre_get p ha)
        cases ey : ys[i]? with
        | none => rw [ey] at e; cases e
        | some y0 =>
          rw [ey] at e
          cases e
          obtain ⟨v, h1, h2⟩ := dv.get ey
          obtain ⟨T, x1, rfl, hT, rfl, hx⟩ := y
          have q1 := hx vs (.inl (by
            cases lk with
            | true => obtain ⟨o, hh⟩ := hh; exact .inr ⟨o, hh⟩
            | false => exact .inl hh))
          rw [h1] at q1
          cases q1
          refine ⟨r.tup hT, .new hT, ?_⟩
          unfold DV
          exact ⟨T, _, rfl, .of upd_same, .cons dv_int (.cons (h2.mono (List.prefix_refl _) (.new hT)) .nil)⟩
      · rw [if_neg hl] at e; cases e
def isTup : D → Bool
  | .tup _ => true
  | _ => false
theorem snd_ienum (G : Cxt g k cl W c X) {elts : List Expr} {kk : Nat} {tpos : Pos} {a : Expr} {x : LA.E} {p pos : Pos} (hx : c.blt? "enumerate" = true) (ha : PE X a (rdE g cl W x)) (h1 : isStar a = false) :
    PI X (.Tuple elts kk tpos) (.Call (.Name "enumerate" p) [a] [] pos) (rdI X g cl W (.enum x)) := by
  obtain ⟨b1, _⟩ := Cc.blt_ok hx
  have hs := starEach_no (r := []) (env := X.env) h1
  have hm : X.mg "enumerate" = none := by rw [G.mg]; exact G.fac.free _ (by decide +kernel)
  refine PIto (PIor (pi_enum (G.gl_ b1) hm (pa_cons ha pa_nil hs) hs) (pi_enumT (G.gl_ b1) hm (pa_cons ha pa_nil hs) hs)) ?_
  rintro σ H R ⟨ρ, ds, S, r, sl, q⟩
  unfold evI at q
  cases ev : evE g.pg cl ds x S with
  | none => unfold M.bind at q; rw [ev] at q; exact q.elim
  | some rr =>
    obtain ⟨rr, S0⟩ := rr
    cases rr with
    | ex cc fs =>
      refine .inl ⟨ρ, ds, S, r, sl, ?_⟩
      unfold M.bind at q
      rw [ev] at q ⊢
      exact q
    | ok d0 =>
      cases hk : isTup d0 with
      | true =>
        refine .inr ?_
        refine rdE.bindE r sl q fun ρ1 H1 S1 d v p1 t1 r1 dv sl1 e1 q1 => ?_
        rw [ev] at e1
        cases e1
        cases d0 <;> first | cases hk | skip
        rename_i xs
        obtain ⟨a1, vs, rfl, sq, dvs⟩ := tup_dv dv
        refine ⟨a1, vs, rfl, by rw [G.K]; exact sq, ?_⟩
        exact (show ∀ ρ' H' J, ρ <+: ρ' → TupK g.toGd H H' → Rel g.toGd ρ' S0 H' → ItR g ρ' H' (.items (numD xs)) J → LkR X g H ρ' H' none → R J H' from q1) ρ1 H1 _ p1 t1 r1 (itr_enumT G.K sq dvs) trivial
      | false =>
        refine .inl ?_
        refine rdE.bindE r sl q fun ρ1 H1 S1 d v p1 t1 r1 dv sl1 e1 q1 => ?_
        rw [ev] at e1
        cases e1
        cases d0 with
        | tup _ => cases hk
        | str _ => exact q1.elim
        | non => exact q1.elim
        | bl _ => exact q1.elim
        | int _ => exact q1.elim
        | obj i =>
          simp only at q1
          cases ei : S0[i]? with
          | none => rw [ei] at q1; exact q1.elim
          | some o =>
            rw [ei] at q1
            cases o with
            | dct _ _ => exact q1.elim
            | ins _ _ => exact q1.elim
            | lst xs lk =>
              obtain ⟨a1, vs, rfl, ha1, _, sq⟩ := lst_rd r1 dv ei
              refine ⟨a1, vs, rfl, by rw [G.K]; exact sq, ?_⟩
              exact (show ∀ ρ' H' J, ρ <+: ρ' → TupK g.toGd H H' → Rel g.toGd ρ' S0 H' → ItR g ρ' H' (.enumL i xs.length) J → LkR X g H ρ' H' none → R J H' from q1) ρ1 H1 _ p1 t1 r1 (itr_enumL G.K ha1) trivial
end
end LA

/-! Soundness: targets, list comprehensions. -/
namespace LA
open PySem PySem.Spec PyProof.Rows L2
theorem PGto {X : Cx} {e : Expr} {t u : TG} (h : PG X e t) (i : ∀ v σ H Q, u v σ H Q → t v σ H Q) : PG X e u := ⟨fun pins s σ H v x Q I r q => h.run pins s σ H v x Q I r (i _ _ _ _ q)⟩
theorem PGor {X : Cx} {e : Expr} {t u : TG} (h : PG X e t) (k : PG X e u) : PG X e (fun v σ H Q => t v σ H Q ∨ u v σ H Q) :=
  ⟨fun pins s σ H v x Q I r q => q.elim (h.run pins s σ H v x Q I r) (k.run pins s σ H v x Q I r)⟩
theorem PGsto {X : Cx} {e : List Expr} {t u : TGs} (h : PGs X e t) (i : ∀ v σ H Q, u v σ H Q → t v σ H Q) : PGs X e u := ⟨fun pins s σ H v x Q I r q => h.run pins s σ H v x Q I r (i _ _ _ _ q)⟩
theorem wipe_set {σ : L2.St} {i : Nat} {v : Option V} : ∀ {vs : List Nat}, i ∈ vs → L2.wipe (σ.set i v) vs = L2.wipe σ vs
  | j :: vs, h => by
    show (L2.wipe (σ.set i v) vs).set j none = (L2.wipe σ vs).set j none
    by_cases hi : i ∈ vs
    · rw [wipe_set hi]
    · have e : i = j := by
        rcases List.mem_cons.mp h with z | z
        · exact z
        · exact absurd z hi
      subst e
      have key : ∀ (ws : List Nat), i ∉ ws → L2.wipe (σ.set i v) ws = (L2.wipe σ ws).set i v := by
        intro ws
        induction ws with
        | nil => intro _; rfl
        | cons w ws ih =>
          intro hw
          have h1 : i ≠ w := fun z => hw (z ▸ List.mem_cons_self)
          show (L2.wipe (σ.set i v) ws).set w none = ((L2.wipe σ ws).set w none).set i v
          rw [ih (fun z => hw (List.mem_cons_of_mem _ z)), List.set_comm _ _ h1]
      rw [key vs hi, List.set_set]
theorem wipe_wipe {σ : L2.St} (vs : List Nat) : ∀ ws : List Nat, (∀ i ∈ ws, i ∈ vs) → L2.wipe (L2.wipe σ ws) vs = L2.wipe σ vs
  | [], _ => rfl
  | j :: ws, h => by
    show L2.wipe ((L2.wipe σ ws).set j none) vs = _
    rw [wipe_set (h j List.mem_cons_self)]
    exact wipe_wipe vs ws fun i hi => h i (List.mem_cons_of_mem _ hi)
section
variable {g : GdX} {cl : Nat → List D → M D} {W : WX} {k : Nat} {c : Cc} {X : Cx}
/-- what a target does -/
def rdG (g : GdX) (t : Tg) : TG := fun v σ H Q => ∃ ρ S d ds ds', Rel g.toGd ρ S H ∧ DV g.toGd ρ H d v ∧ SlR g.toGd ρ H ds σ ∧ setTg S t d ds = some ds' ∧
  ∀ σ', SlR g.toGd ρ H ds' σ' → (∀ vs, (∀ i ∈ tgIx t, i ∈ vs) → L2.wipe σ' vs = L2.wipe σ vs) → Q σ' H
def rdGs (g : GdX) (t : Tg) : TGs := fun v σ H Q => ∃ ρ S d ds ds', Rel g.toGd ρ S H ∧ DVs g.toGd ρ H d v ∧ SlR g.toGd ρ H ds σ ∧ setTg.setTgs S t d ds = some ds' ∧
  ∀ σ', SlR g.toGd ρ H ds' σ' → (∀ vs, (∀ i ∈ tgIx t, i ∈ vs) → L2.wipe σ' vs = L2.wipe σ vs) → Q σ' H
/-- what may be stored to -/
def StOk (X : Cx) (c : Cc) (ok : Str → Bool) : Prop := ∀ x, ok x = true → Loc c.sc x ∧ (X.fn x = true ∨ X.env.scope.names.lookup x = some .local)
def tgLen : Tg → Nat
  | .cons _ b => tgLen b + 1
  | _ => 0
theorem tgs_len (c : Cc) : ∀ (n : Nat) (es : List Expr) (t : Tg) (env : Env), compTg.compTgs c n es = some t →
    (assignEach es env).length = tgLen t ∧ (assignEach es env).findIdx? (·.1) = none ∧ (∀ S xs ds ds', setTg.setTgs S t xs ds = some ds' → xs.length = tgLen t)
  | 0, _, _, _, h => by cases h
  | n + 1, [], t, env, h => by
    cases h
    refine ⟨rfl, rfl, fun S xs ds ds' e => ?_⟩
    cases xs with
    | nil => rfl
    | cons _ _ => unfold setTg.setTgs at e; cases e
  | n + 1, e :: r, t, env, h => by
    unfold compTg.compTgs at h
    cases h1 : compTg c n e with
    | none => rw [h1] at h; cases h
    | some a =>
      cases h2 : compTg.compTgs c n r with
      | none => rw [h1, h2] at h; cases h
      | some b =>
        rw [h1, h2] at h
        cases h
        obtain ⟨q1, q2, q3⟩ := tgs_len c n r b env h2
        have hns : assignEach (e :: r) env = (false, assign e env) :: assignEach r env := by
          cases e with
          | Starred _ _ => cases n <;> cases h1
          | _ => rfl
        refine ⟨by rw [hns, List.length_cons, q1]; rfl, by rw [hns, List.findIdx?_cons, q2]; rfl, fun S xs ds ds' e' => ?_⟩
        cases xs with
        | nil => unfold setTg.setTgs at e'; cases e'
        | cons x xs =>
          unfold setTg.setTgs at e'
          cases e3 : setTg S a x ds with
          | none => rw [e3] at e'; cases e'
          | some dm =>
            rw [e3] at e'
            rw [List.length_cons, q3 S xs dm ds' e']
            rfl
mutual
theorem snd_tg (G : Gk g k c X) {ok : Str → Bool} (K : StOk X c ok) : ∀ (n : Nat) (e : Expr) (t : Tg), compTg c n e = some t → tgOk ok n e = true → PG X e (rdG g t)
  | 0, _, _, h, _ => by cases h
  | n + 1, .Name x pos, t, h, hs => by
    unfold compTg at h
    cases hi : c.loc? x with
    | none => rw [hi] at h; cases h
    | some i =>
      rw [hi] at h
      cases h
      obtain ⟨h1, h2⟩ := Cc.loc_ok hi
      obtain ⟨k1, k2⟩ := K x hs
      refine PGto (pg_name (i := i) (by rw [G.N]; exact G.nd) (by rw [G.N]; exact h1) (by rw [G.sc]; exact k1) k2) ?_
      rintro v σ H Q ⟨ρ, S, d, ds, ds', r, dv, sl, e, q⟩
      unfold setTg at e
      by_cases hlt : i < ds.length
      · rw [if_pos hlt] at e
        cases e
        exact q _ (sl.set i dv) fun vs hv => wipe_set (hv i List.mem_cons_self)
      · rw [if_neg hlt] at e; cases e
  | n + 1, .Tuple es kk pos, t, h, hs => by
    unfold compTg at h
    unfold tgOk at hs
    obtain ⟨q1, q2, q3⟩ := tgs_len c n es t X.env h
    have ps := snd_tgs G K n es t h hs
    refine PGto (PGor (pg_tup G.calm ps q1 q2) (pg_lst G.calm ps q1 q2)) ?_
    rintro v σ H Q ⟨ρ, S, d, ds, ds', r, dv, sl, e, q⟩
    have e1 : ∃ xs, seqOf S d = some xs ∧ setTg.setTgs S t xs ds = some ds' := by
      cases t with
      | name i =>
        exfalso
        cases n with
        | zero => cases h
        | succ n =>
          cases es with
          | nil => cases h
          | cons e0 r0 =>
            unfold compTg.compTgs at h
            cases z1 : compTg c n e0 <;> cases z2 : compTg.compTgs c n r0 <;> (rw [z1, z2] at h; cases h)
      | nil =>
        unfold setTg at e
        cases es1 : seqOf S d with
        | none => rw [es1] at e; cases e
        | some xs =>
          rw [es1] at e
          cases xs with
          | nil => exact ⟨[], rfl, by unfold setTg.setTgs; exact e⟩
          | cons _ _ => cases e
      | cons a b =>
        unfold setTg at e
        cases es1 : seqOf S d with
        | none => rw [es1] at e; cases e
        | some xs =>
          rw [es1] at e
          cases xs with
          | nil => cases e
          | cons y ys => exact ⟨y :: ys, rfl, by unfold setTg.setTgs; exact e⟩
    obtain ⟨xs, e2, e3⟩ := e1
    obtain ⟨a, vs, rfl, sq, dvs⟩ := dv.ref_seq r e2
    have hlen : vs.length = tgLen t := by rw [← dvs.length]; exact q3 S xs ds ds' e3
    rcases sq with sq | sq
    · exact .inl ⟨a, vs, rfl, by rw [G.K]; exact sq, hlen, ρ, S, xs, ds, ds', r, dvs, sl, e3, q⟩
    · exact .inr ⟨a, vs, rfl, by rw [G.K]; exact sq, hlen, ρ, S, xs, ds, ds', r, dvs, sl, e3, q⟩
  | n + 1, .Constant _ _ _, _, h, _ => by cases h
  | n + 1, .List _ _, _, h, _ => by cases h
  | n + 1, .Dict _ _ _, _, h, _ => by cases h
  | n + 1, .Set _ _ _, _, h, _ => by cases h
  | n + 1, .Attribute _ _ _, _, h, _ => by cases h
  | n + 1, .Subscript _ _ _, _, h, _ => by cases h
  | n + 1, .BinOp _ _ _ _, _, h, _ => by cases h
  | n + 1, .UnaryOp _ _ _, _, h, _ => by cases h
  | n + 1, .BoolOp _ _ _, _, h, _ => by cases h
  | n + 1, .IfExp _ _ _ _, _, h, _ => by cases h
  | n + 1, .Compare _ _ _ _, _, h, _ => by cases h
  | n + 1, .Call _ _ _ _, _, h, _ => by cases h
  | n + 1, .JoinedStr _ _, _, h, _ => by cases h
  | n + 1, .ListComp _ _ _ _, _, h, _ => by cases h
  | n + 1, .DictComp _ _ _ _ _, _, h, _ => by cases h
  | n + 1, .Starred _ _, _, h, _ => by cases h
theorem snd_tgs (G : Gk g k c X) {ok : Str → Bool} (K : StOk X c ok) : ∀ (n : Nat) (es : List Expr) (t : Tg), compTg.compTgs c n es = some t → tgOk.tgsOk ok n es = true → PGs X es (rdGs g t)
  | 0, _, _, h, _ => by cases h
  | n + 1, [], t, h, _ => by
    cases h
    refine PGsto pgs_nil ?_
    rintro v σ H Q ⟨ρ, S, d, ds, ds', r, dv, sl, e, q⟩
    cases d with
    | nil => unfold setTg.setTgs at e; cases e; exact ⟨dv.nil_inv, q σ sl fun _ _ => rfl⟩
    | cons _ _ => unfold setTg.setTgs at e; cases e
  | n + 1, e :: es, t, h, hs => by
    unfold compTg.compTgs at h
    unfold tgOk.tgsOk at hs
    obtain ⟨hs1, hs2⟩ := Bool.and_eq_true_iff.mp hs
    cases h1 : compTg c n e with
    | none => rw [h1] at h; cases h
    | some a =>
      cases h2 : compTg.compTgs c n es with
      | none => rw [h1, h2] at h; cases h
      | some b =>
        rw [h1, h2] at h
        cases h
        have hns : (assignEach (e :: es) X.env).map (·.2) = assign e X.env :: (assignEach es X.env).map (·.2) := by
          cases e with
          | Starred _ _ => cases n <;> cases h1
          | _ => rfl
        refine PGsto (pgs_cons (snd_tg G K n e a h1 hs1) (snd_tgs G K n es b h2 hs2) hns) ?_
        rintro v σ H Q ⟨ρ, S, d, ds, ds', r, dv, sl, e', q⟩
        cases d with
        | nil => unfold setTg.setTgs at e'; cases e'
        | cons x xs =>
          obtain ⟨u, us, rfl, dx, dr⟩ := dv.cons_inv
          unfold setTg.setTgs at e'
          cases e3 : setTg S a x ds with
          | none => rw [e3] at e'; cases e'
          | some dm =>
            rw [e3] at e'
            refine ⟨u, us, rfl, ρ, S, x, ds, dm, r, dx, sl, e3, fun σ1 sl1 w1 => ?_⟩
            refine ⟨ρ, S, xs, dm, ds', r, dr, sl1, e', fun σ2 sl2 w2 => ?_⟩
            exact q σ2 sl2 fun vs hv => (w2 vs fun i hi => hv i (List.mem_append_right _ hi)).trans (w1 vs fun i hi => hv i (List.mem_append_left _ hi))
end
end
end LA

/-! Soundness: comprehensions. -/
namespace LA
open PySem PySem.Spec PyProof.Rows L2
/-- in a block nothing is let out -/
abbrev Wn : WX := fun _ _ _ _ => False
section
variable {g : GdX} {cl : Nat → List D → M D} {W : WX} {k : Nat} {c : Cc} {X : Cx}
theorem Cxt.blk (G : Cxt g k cl W c X) (s : Shared) (H : Hp) (scope : Scope) (C : Addr) (cs : List (Str × Addr)) (fp : List Addr) : Cxt g k cl Wn (c.blk scope) (X.blk s H scope (compEnvC scope cs C X.env) fp) where
  prog := G.prog
  w := G.w
  K := G.K
  mg := G.mg
  base := G.base
  N := G.N
  nd := G.nd
  sc := by show relS scope X.env.scope = relS scope c.sc; rw [G.sc]
  gl := G.gl
  an := G.an
  room := G.room
  calm := G.calm
  fac := G.fac
  lvl := G.lvl
  tk := fun u s1 ⟨_, _, _, _, _, _, _, _, _, _, _, _, _, _, _, _, z⟩ => z.elim
theorem blk_st (s : Shared) (H : Hp) (scope : Scope) (C : Addr) (cs : List (Str × Addr)) (fp : List Addr) : StOk (X.blk s H scope (compEnvC scope cs C X.env) fp) (c.blk scope) (locOk scope) := by
  intro x hx
  unfold locOk at hx
  cases e : scope.names.lookup x with
  | none => rw [e] at hx; cases hx
  | some q =>
    rw [e] at hx
    cases q with
    | «local» => exact ⟨.inl (lookup_relS_keep (by decide) e), .inr (lookup_relS_keep (by decide) e)⟩
    | cell => exact ⟨.inr (lookup_relS_keep (by decide) e), .inl (by show (scope.names.lookup x == some .cell) = true; rw [e]; rfl)⟩
    | _ => cases hx
theorem pts_true {X : Cx} : PTs X [] (rdT g cl W (.con (.bl true))) := ⟨fun pins s σ H Q I ⟨ρ, ds, S, r, sl, q⟩ => pts_nil.run pins s σ H Q I (by
  unfold evE at q
  exact (show ∀ ρ' H', ρ <+: ρ' → TupK g.toGd H H' → Rel g.toGd ρ' S H' → Q true H' from q) ρ H (List.prefix_refl _) .refl r)⟩
/-- the end of a walk: the lock is taken off -/
theorem off_end {ρ ρ1 ρ2 : List Addr} {H H1 H2 : Hp} {S2 : Sto} {lk : Option Nat} {j : Nat} {a : Addr} {Q : VK} (p1 : ρ <+: ρ1) (t1 : TupK g.toGd H H1) (l : LkR X g H ρ1 H1 lk) (p2 : ρ1 <+: ρ2) (t2 : TupK g.toGd H1 H2) (r2 : Rel g.toGd ρ2 S2 H2)
    (hj : ρ2[j]? = some a) (q : MPost (M.bind (unlk lk) (fun _ => M.pure (.obj j)) S2) (fun d S' => PostV g ρ H d S' Q) (fun _ _ _ => False)) : offE X Q (.ref a) H2 := by
  have dv : ∀ H3, DV g.toGd ρ2 H3 (.obj j) (.ref a) := fun H3 => by unfold DV; exact ⟨a, rfl, hj⟩
  cases lk with
  | none =>
    have q' : PostV g ρ H (.obj j) S2 Q := q
    exact .inl (q' ρ2 H2 _ (p1.trans p2) (t1.trans t2) r2 (dv _))
  | some i =>
    obtain ⟨b, od, vs, h1, h2, nf, un⟩ := l
    have h1' := pre_get p2 h1
    have h2' := t2.frz b od _ h2
    have q1 : MPost (lockD i false S2) (fun _ S' => MPost (M.pure (D.obj j) S') (fun d S' => PostV g ρ H d S' Q) (fun _ _ _ => False)) (fun _ _ _ => False) := q.bind
    unfold lockD at q1
    cases e : S2[i]? with
    | none => rw [e] at q1; exact q1.elim
    | some o =>
      rw [e] at q1
      cases o with
      | lst _ _ => exact q1.elim
      | ins _ _ => exact q1.elim
      | dct kvs b2 =>
        simp only at q1
        cases b2 with
        | false => rw [if_pos rfl] at q1; exact q1.elim
        | true =>
          rw [if_neg (by decide)] at q1
          have q2 : PostV g ρ H (.obj j) (S2.set i (.dct kvs false)) Q := q1
          exact .inr ⟨b, od, _, h2', nf, q2 ρ2 _ _ (p1.trans p2) (un H2 t2) (r2.unlock h1' e h2') (dv _)⟩
/-- a turn of a list comprehension; of its block's end -/
def lcB (pg : Pg) (cl : Nat → List D → M D) (f x : LA.E) (r : D) (σ1 : En) : M Unit := M.bind (evE pg cl σ1 f) fun b => M.bind (truthM b) fun b => if b then M.bind (evE pg cl σ1 x) fun y => appO r y else M.pure ()
def lcS (pg : Pg) (cl : Nat → List D → M D) (σ : En) (t : Tg) (vs : List Nat) (f x : LA.E) (r : D) : D → M Unit := fun d => M.bind (tgM t d (LA.wipe σ vs)) (lcB pg cl f x r)
/-- the loop's state and what is still to come -/
def LcW (g : GdX) (cl : Nat → List D → M D) (step : D → M Unit) (w : Wk × Option Nat) (j : Nat) (ρ : List Addr) (H : Hp) (Q : VK) (m i : Nat) (S2 : Sto) : Prop :=
  MPost (M.bind (loopC w.1 step m i) (fun _ => M.bind (unlk w.2) fun _ => M.pure (.obj j)) S2) (fun d S' => PostV g ρ H d S' Q) (fun _ _ _ => False)
theorem LcW.zero {step : D → M Unit} {w : Wk × Option Nat} {j : Nat} {ρ : List Addr} {H : Hp} {Q : VK} {i : Nat} {S2 : Sto} (q : LcW g cl step w j ρ H Q 0 i S2) : w.1.get S2 i = some none ∧ MPost (M.bind (unlk w.2) (fun _ => M.pure (.obj j)) S2) (fun d S' => PostV g ρ H d S' Q) (fun _ _ _ => False) := by
  unfold LcW at q
  have q4 := q.bind
  unfold loopC at q4
  cases eg : w.1.get S2 i with
  | none => simp only [eg] at q4; exact q4.elim
  | some o =>
    cases o with
    | some _ => simp only [eg] at q4; exact q4.elim
    | none => simp only [eg] at q4; exact ⟨rfl, q4⟩
theorem LcW.succ {step : D → M Unit} {w : Wk × Option Nat} {j : Nat} {ρ : List Addr} {H : Hp} {Q : VK} {m i : Nat} {S2 : Sto} (q : LcW g cl step w j ρ H Q (m + 1) i S2) :
    ∃ d, w.1.get S2 i = some (some d) ∧ MPost (step d S2) (fun _ S3 => LcW g cl step w j ρ H Q m (i + 1) S3) (fun _ _ _ => False) := by
  unfold LcW at q
  cases eg : w.1.get S2 i with
  | none => unfold M.bind loopC at q; simp only [eg] at q; exact q.elim
  | some o =>
    cases o with
    | none => unfold M.bind loopC at q; simp only [eg] at q; exact q.elim
    | some d =>
      refine ⟨d, rfl, ?_⟩
      have e4 : loopC w.1 step (m + 1) i S2 = M.bind (step d) (fun _ => loopC w.1 step m (i + 1)) S2 := by
        rw [loopC]; simp only [eg]
      have q2 : MPost (M.bind (M.bind (step d) (fun _ => loopC w.1 step m (i + 1))) (fun _ => M.bind (unlk w.2) fun _ => M.pure (.obj j)) S2) (fun d S' => PostV g ρ H d S' Q) (fun _ _ _ => False) := by
        unfold M.bind at q ⊢
        rw [e4] at q
        unfold M.bind at q
        exact q
      rw [assoc_bind] at q2
      exact q2.bind
/-- one turn, from the loop's item on -/
theorem lc_turn {f x : LA.E} {t : Tg} {vs : List Nat} (hix : ∀ i ∈ tgIx t, i ∈ vs) {σ : L2.St} {ds : En} {ρ2 : List Addr} {S2 : Sto} {H3 : Hp} {d : D} {u : V} {j : Nat} {D0 : Addr} {Nx : Hp → Prop} {K : Sto → Prop} (r4 : Rel g.toGd ρ2 S2 H3) (dv4 : DV g.toGd ρ2 H3 d u)
    (sl : SlR g.toGd ρ2 H3 ds σ) (hD : ρ2[j]? = some D0) (q : MPost (lcS g.pg cl ds t vs f x (.obj j) d S2) (fun _ S3 => K S3) (fun _ _ _ => False))
    (hn : ∀ ρ5 S5 H5, ρ2 <+: ρ5 → TupK g.toGd H3 H5 → Rel g.toGd ρ5 S5 H5 → K S5 → Nx H5) :
    rdG g t u (L2.wipe σ vs) H3 fun σ2 H2 => L2.wipe σ2 vs = L2.wipe σ vs ∧ rdT g cl Wn f σ2 H2 fun b H4 =>
      if b = true then rdE g cl Wn x σ2 H4 fun y H5 => ∃ acc, H5 D0 = some (.lst acc) ∧ acc.length < sizeLine ∧ Nx (upd H5 D0 (.lst (acc ++ [y]))) else Nx H4 := by
  have q5 := MPost.bind q
  unfold tgM at q5
  cases es : setTg S2 t d (LA.wipe ds vs) with
  | none => rw [es] at q5; exact q5.elim
  | some ds' =>
    rw [es] at q5
    refine ⟨ρ2, S2, d, _, ds', r4, dv4, sl.wipe vs, es, fun σ5 sl5 w5 => ⟨(w5 vs hix).trans (wipe_wipe vs vs fun _ z => z), ?_⟩⟩
    have q6 : MPost (lcB g.pg cl f x (.obj j) ds' S2) (fun _ S3 => K S3) (fun c fs S' => PostX g ρ2 H3 c fs S' fun cls dd H' => Wn cls dd σ5 H') := (show MPost (lcB g.pg cl f x (.obj j) ds' S2) (fun _ S3 => K S3) (fun _ _ _ => False) from q5).imp (fun _ _ z => z) fun _ _ _ z => z.elim
    unfold lcB at q6
    refine rdT.bind r4 sl5 q6 fun ρ6 H6 S6 b p6 t6 r6 sl6 q7 => ?_
    cases b with
    | false => exact hn ρ6 S6 H6 p6 t6 r6 (show K S6 from q7)
    | true =>
      simp only [if_true] at q7 ⊢
      refine rdE.bind r6 sl6 q7 fun ρ7 H7 S7 y v p7 t7 r7 dv7 sl7 q8 => ?_
      unfold appO at q8
      simp only at q8
      have hD7 := pre_get (p6.trans p7) hD
      cases ej : S7[j]? with
      | none => rw [ej] at q8; exact q8.elim
      | some o =>
        rw [ej] at q8
        cases o with
        | dct _ _ => exact q8.elim
        | ins _ _ => exact q8.elim
        | lst xs lk =>
          cases lk with
          | true => exact q8.elim
          | false =>
            simp only at q8
            by_cases hz : xs.length < sizeL
            · rw [if_pos hz] at q8
              obtain ⟨ws, dws, hh⟩ := r7.ob j _ D0 ej hD7
              have hh' : H7 D0 = some (.lst ws) := hh
              have tk : TupK g.toGd H7 (upd H7 D0 (.lst (ws ++ [v]))) := .write hh' (fun _ z => nomatch z) (fun _ _ z => nomatch z)
              obtain ⟨r8, _⟩ := r7.write (o := .lst (xs ++ [y]) false) (ho := .lst (ws ++ [v])) hD7 ⟨ws ++ [v], (dws.append (.cons dv7 .nil)).mono (List.prefix_refl _) tk, upd_same⟩ ej rfl
              refine ⟨ws, hh', by rw [← dws.length, ← sizeL_eq]; exact hz, ?_⟩
              exact hn ρ7 _ _ (p6.trans p7) ((t6.trans t7).trans tk) r8 (show K (S7.set j (.lst (xs ++ [y]) false)) from q8)
            · rw [if_neg hz] at q8; exact q8.elim
theorem lc_rd {x f : LA.E} {t : Tg} {it : LA.I} {vs : List Nat} (hix : ∀ i ∈ tgIx t, i ∈ vs) {σ : L2.St} {H : Hp} {Q : VK} (h : rdE g cl W (.lc x t it f vs) σ H Q) :
    tLc (rdI X g cl W it) (rdG g t) (rdT g cl Wn f) (rdE g cl Wn x) vs σ H (offE X Q) := by
  obtain ⟨ρ, ds, S, r, sl, q⟩ := h
  unfold evE at q
  have qn : MPost (evI g.pg cl ds it S) (fun w S1 => MPost (M.bind (new (.lst [] false)) (fun r => M.bind (loopC w.1 (lcS g.pg cl ds t vs f x r) w.1.len 0) fun _ => M.bind (unlk w.2) fun _ => M.pure r) S1) (fun d S' => PostV g ρ H d S' Q) (fun _ _ _ => False)) (fun _ _ _ => False) :=
    (noEx_post (x' := fun _ _ _ => False) q).bind
  refine ⟨ρ, ds, S, r, sl, qn.imp (fun w S1 z => ?_) fun _ _ _ z => z.elim⟩
  intro ρ1 H1 J p1 t1 r1 itr lk D0 hD
  have r2 := r1.new (o := .lst [] false) (ho := .lst []) hD ⟨[], .nil, upd_same⟩
  have p2 : ρ1 <+: ρ1 ++ [D0] := List.prefix_append _ _
  have t2 : TupK g.toGd H1 (upd H1 D0 (.lst [])) := .new hD
  have hDi : (ρ1 ++ [D0])[S1.length]? = some D0 := by rw [← r1.len]; simp
  have z1 : LcW g cl (lcS g.pg cl ds t vs f x (.obj S1.length)) w S1.length ρ H Q w.1.len 0 (S1 ++ [.lst [] false]) := z
  refine ⟨fun i m H2 => ∃ ρ2 S2, ρ1 ++ [D0] <+: ρ2 ∧ TupK g.toGd (upd H1 D0 (.lst [])) H2 ∧ Rel g.toGd ρ2 S2 H2 ∧ LcW g cl (lcS g.pg cl ds t vs f x (.obj S1.length)) w S1.length ρ H Q m i S2,
    ⟨w.1.len, _, _, List.prefix_refl _, .refl, r2, z1⟩, ?_⟩
  rintro i m H2 ⟨ρ2, S2, p3, t3, r3, q3⟩
  have p13 := p2.trans p3
  have t13 := t2.trans t3
  cases m with
  | zero =>
    left
    obtain ⟨eg, q4⟩ := q3.zero
    exact ⟨itr.stop ρ2 S2 H2 i p13 t13 r3 eg, off_end p1 t1 lk p13 t13 r3 (pre_get p3 hDi) q4⟩
  | succ m =>
    right
    obtain ⟨d, eg, q4⟩ := q3.succ
    refine ⟨itr.go ρ2 S2 H2 i d p13 t13 r3 eg, _, fun H3 hn => ⟨m, Nat.lt_succ_self _, hn⟩, fun u H3 y => ?_⟩
    obtain ⟨r4, t4, dv4⟩ := itr.yld ρ2 S2 H2 i d u H3 p13 t13 r3 eg y
    exact lc_turn hix r4 dv4 (sl.mono (p1.trans p13) (t1.trans (t13.trans t4))) (pre_get p3 hDi) q4 fun ρ5 S5 H5 p5 t5 r5 k5 => ⟨ρ5, S5, p3.trans p5, t3.trans (t4.trans t5), r5, k5⟩
end
end LA

/-! Soundness: comprehensions of two loops, of dicts. -/
namespace LA
open PySem PySem.Spec PyProof.Rows L2
/-- an iterable that lays no lock -/
def rdI0 (g : GdX) (cl : Nat → List D → M D) (W : WX) (it : LA.I) : TI := fun σ H R => ∃ ρ ds S, Rel g.toGd ρ S H ∧ SlR g.toGd ρ H ds σ ∧
  MPost (evI g.pg cl ds it S) (fun w S1 => w.2 = none ∧ ∀ ρ1 H1 J, ρ <+: ρ1 → TupK g.toGd H H1 → Rel g.toGd ρ1 S1 H1 → ItR g ρ1 H1 w.1 J → R J H1) (fun c fs S1 => PostX g ρ H c fs S1 fun cls dd H1 => W cls dd σ H1)
section
variable {g : GdX} {cl : Nat → List D → M D} {W : WX} {k : Nat} {c : Cc} {X : Cx}
theorem pi_0 {tg e : Expr} {it : LA.I} (h : PI X tg e (rdI X g cl W it)) : PI X tg e (rdI0 g cl W it) := PIto h fun σ H R ⟨ρ, ds, S, r, sl, q⟩ =>
  ⟨ρ, ds, S, r, sl, q.imp (fun w S1 z ρ1 H1 J p t r1 itr lk => z.2 ρ1 H1 J p t r1 itr) fun _ _ _ z => z⟩
/-- y goes to the end of the list at D0 -/
theorem app_turn {ρ2 ρ7 : List Addr} {H3 H7 : Hp} {S7 : Sto} {y : D} {v : V} {j : Nat} {D0 : Addr} {Nx : Hp → Prop} {K : Sto → Prop} (hD : ρ2[j]? = some D0) (p7 : ρ2 <+: ρ7) (t7 : TupK g.toGd H3 H7) (r7 : Rel g.toGd ρ7 S7 H7) (dv7 : DV g.toGd ρ7 H7 y v)
    (q8 : MPost (appO (.obj j) y S7) (fun _ S3 => K S3) (fun _ _ _ => False)) (hn : ∀ ρ5 S5 H5, ρ2 <+: ρ5 → TupK g.toGd H3 H5 → Rel g.toGd ρ5 S5 H5 → K S5 → Nx H5) :
    ∃ acc, H7 D0 = some (.lst acc) ∧ acc.length < sizeLine ∧ Nx (upd H7 D0 (.lst (acc ++ [v]))) := by
  unfold appO at q8
  simp only at q8
  have hD7 := pre_get p7 hD
  cases ej : S7[j]? with
  | none => rw [ej] at q8; exact q8.elim
  | some o =>
    rw [ej] at q8
    cases o with
    | dct _ _ => exact q8.elim
    | ins _ _ => exact q8.elim
    | lst xs lk =>
      cases lk with
      | true => exact q8.elim
      | false =>
        simp only at q8
        by_cases hz : xs.length < sizeL
        · rw [if_pos hz] at q8
          obtain ⟨ws, dws, hh⟩ := r7.ob j _ D0 ej hD7
          have hh' : H7 D0 = some (.lst ws) := hh
          have tk : TupK g.toGd H7 (upd H7 D0 (.lst (ws ++ [v]))) := .write hh' (fun _ z => nomatch z) (fun _ _ z => nomatch z)
          obtain ⟨r8, _⟩ := r7.write (o := .lst (xs ++ [y]) false) (ho := .lst (ws ++ [v])) hD7 ⟨ws ++ [v], (dws.append (.cons dv7 .nil)).mono (List.prefix_refl _) tk, upd_same⟩ ej rfl
          refine ⟨ws, hh', by rw [← dws.length, ← sizeL_eq]; exact hz, ?_⟩
          exact hn ρ7 _ _ p7 (t7.trans tk) r8 (show K (S7.set j (.lst (xs ++ [y]) false)) from q8)
        · rw [if_neg hz] at q8; exact q8.elim
def lc2I (pg : Pg) (cl : Nat → List D → M D) (t2 : Tg) (vs1 : List Nat) (x : LA.E) (r : D) (σ1 : En) : D → M Unit := fun d => M.bind (tgM t2 d (LA.wipe σ1 vs1)) fun σ2 => M.bind (evE pg cl σ2 x) fun y => appO r y
def lc2B (pg : Pg) (cl : Nat → List D → M D) (t2 : Tg) (it2 : LA.I) (vs1 : List Nat) (x : LA.E) (r : D) (σ1 : En) : M Unit :=
  M.bind (evI pg cl σ1 it2) fun w2 => if w2.2.isNone then loopC w2.1 (lc2I pg cl t2 vs1 x r σ1) w2.1.len 0 else M.stuck
def lc2S (pg : Pg) (cl : Nat → List D → M D) (σ : En) (t : Tg) (vs : List Nat) (t2 : Tg) (it2 : LA.I) (vs1 : List Nat) (x : LA.E) (r : D) : D → M Unit := fun d => M.bind (tgM t d (LA.wipe σ vs)) (lc2B pg cl t2 it2 vs1 x r)
theorem loopC_zero {step : D → M Unit} {w : Wk} {i : Nat} {S2 : Sto} {K : Sto → Prop} (q : MPost (loopC w step 0 i S2) (fun _ S3 => K S3) (fun _ _ _ => False)) : w.get S2 i = some none ∧ K S2 := by
  unfold loopC at q
  cases eg : w.get S2 i with
  | none => simp only [eg] at q; exact q.elim
  | some o =>
    cases o with
    | some _ => simp only [eg] at q; exact q.elim
    | none => simp only [eg] at q; exact ⟨rfl, q⟩
theorem loopC_succ {step : D → M Unit} {w : Wk} {m i : Nat} {S2 : Sto} {K : Sto → Prop} (q : MPost (loopC w step (m + 1) i S2) (fun _ S3 => K S3) (fun _ _ _ => False)) :
    ∃ d, w.get S2 i = some (some d) ∧ MPost (step d S2) (fun _ S3 => MPost (loopC w step m (i + 1) S3) (fun _ S3 => K S3) (fun _ _ _ => False)) (fun _ _ _ => False) := by
  unfold loopC at q
  cases eg : w.get S2 i with
  | none => simp only [eg] at q; exact q.elim
  | some o =>
    cases o with
    | none => simp only [eg] at q; exact q.elim
    | some d => simp only [eg] at q; exact ⟨d, rfl, q.bind⟩
theorem lc2_turn {x : LA.E} {t t2 : Tg} {it2 : LA.I} {vs vs1 : List Nat} (hix : ∀ i ∈ tgIx t, i ∈ vs) (hix1 : ∀ i ∈ tgIx t2, i ∈ vs1) {σ : L2.St} {ds : En} {ρ2 : List Addr} {S2 : Sto} {H3 : Hp} {d : D} {u : V} {j : Nat} {D0 : Addr} {Nx : Hp → Prop} {K : Sto → Prop} (r4 : Rel g.toGd ρ2 S2 H3) (dv4 : DV g.toGd ρ2 H3 d u)
    (sl : SlR g.toGd ρ2 H3 ds σ) (hD : ρ2[j]? = some D0) (q : MPost (lc2S g.pg cl ds t vs t2 it2 vs1 x (.obj j) d S2) (fun _ S3 => K S3) (fun _ _ _ => False))
    (hn : ∀ ρ5 S5 H5, ρ2 <+: ρ5 → TupK g.toGd H3 H5 → Rel g.toGd ρ5 S5 H5 → K S5 → Nx H5) :
    rdG g t u (L2.wipe σ vs) H3 fun σ2 H2 => L2.wipe σ2 vs = L2.wipe σ vs ∧ tYes σ2 H2 fun b H3 =>
      if b = true then rdI0 g cl Wn it2 σ2 H3 fun J1 H4 => ∃ W1 : Nat → Nat → Hp → Prop, (∃ m, W1 0 m H4) ∧ ∀ j k H, W1 j k H →
        (J1.stop j H ∧ Nx H) ∨ (J1.go j H ∧ ∃ Nx1 : Hp → Prop, (∀ H1, Nx1 H1 → ∃ k1, k1 < k ∧ W1 (j + 1) k1 H1) ∧ ∀ z H1, J1.yld j H z H1 → rdG g t2 z (L2.wipe σ2 vs1) H1 fun σ3 H5 => L2.wipe σ3 vs1 = L2.wipe σ2 vs1 ∧ tYes σ3 H5 fun b H6 =>
          if b = true then rdE g cl Wn x σ3 H6 fun y H7 => ∃ acc, H7 D0 = some (.lst acc) ∧ acc.length < sizeLine ∧ Nx1 (upd H7 D0 (.lst (acc ++ [y]))) else Nx1 H6)
      else Nx H3 := by
  have q5 := MPost.bind q
  unfold tgM at q5
  cases es : setTg S2 t d (LA.wipe ds vs) with
  | none => rw [es] at q5; exact q5.elim
  | some ds' =>
    rw [es] at q5
    refine ⟨ρ2, S2, d, _, ds', r4, dv4, sl.wipe vs, es, fun σ5 sl5 w5 => ⟨(w5 vs hix).trans (wipe_wipe vs vs fun _ z => z), ?_⟩⟩
    have q6 : MPost (lc2B g.pg cl t2 it2 vs1 x (.obj j) ds' S2) (fun _ S3 => K S3) (fun _ _ _ => False) := q5
    simp only [tYes, if_true]
    refine ⟨ρ2, ds', S2, r4, sl5, q6.bind.imp (fun w2 S6 z => ?_) fun _ _ _ z => z.elim⟩
    cases h2 : w2.2 with
    | some _ => rw [h2] at z; exact z.elim
    | none =>
      rw [h2] at z
      refine ⟨rfl, fun ρ6 H6 J1 p6 t6 r6 itr => ?_⟩
      have z1 : MPost (loopC w2.1 (lc2I g.pg cl t2 vs1 x (.obj j) ds') w2.1.len 0 S6) (fun _ S3 => K S3) (fun _ _ _ => False) := z
      refine ⟨fun i m H7 => ∃ ρ7 S7, ρ6 <+: ρ7 ∧ TupK g.toGd H6 H7 ∧ Rel g.toGd ρ7 S7 H7 ∧ MPost (loopC w2.1 (lc2I g.pg cl t2 vs1 x (.obj j) ds') m i S7) (fun _ S3 => K S3) (fun _ _ _ => False), ⟨_, ρ6, S6, List.prefix_refl _, .refl, r6, z1⟩, ?_⟩
      rintro i m H7 ⟨ρ7, S7, p7, t7, r7, q7⟩
      cases m with
      | zero =>
        obtain ⟨eg, kk⟩ := loopC_zero q7
        exact .inl ⟨itr.stop ρ7 S7 H7 i p7 t7 r7 eg, hn ρ7 S7 H7 (p6.trans p7) (t6.trans t7) r7 kk⟩
      | succ m =>
        obtain ⟨d2, eg, q8⟩ := loopC_succ q7
        refine .inr ⟨itr.go ρ7 S7 H7 i d2 p7 t7 r7 eg, _, fun H8 hh => ⟨m, Nat.lt_succ_self _, hh⟩, fun z8 H8 y8 => ?_⟩
        obtain ⟨r8, t8, dv8⟩ := itr.yld ρ7 S7 H7 i d2 z8 H8 p7 t7 r7 eg y8
        have q9 := MPost.bind q8
        unfold tgM at q9
        cases es2 : setTg S7 t2 d2 (LA.wipe ds' vs1) with
        | none => rw [es2] at q9; exact q9.elim
        | some ds2 =>
          rw [es2] at q9
          have sl8 := (sl5.mono (p6.trans p7) (t6.trans (t7.trans t8))).wipe vs1
          refine ⟨ρ7, S7, d2, _, ds2, r8, dv8, sl8, es2, fun σ9 sl9 w9 => ⟨(w9 vs1 hix1).trans (wipe_wipe vs1 vs1 fun _ z => z), ?_⟩⟩
          have q10 : MPost (M.bind (evE g.pg cl ds2 x) (fun y => appO (.obj j) y) S7) (fun _ S3 => MPost (loopC w2.1 (lc2I g.pg cl t2 vs1 x (.obj j) ds') m (i + 1) S3) (fun _ S3 => K S3) (fun _ _ _ => False)) (fun c fs S' => PostX g ρ7 H8 c fs S' fun cls dd H' => Wn cls dd σ9 H') :=
            (show MPost (M.bind (evE g.pg cl ds2 x) (fun y => appO (.obj j) y) S7) _ (fun _ _ _ => False) from q9).imp (fun _ _ z => z) fun _ _ _ z => z.elim
          refine ⟨ρ7, ds2, S7, r8, sl9, q10.bind.imp (fun y S9 z9 => ?_) fun _ _ _ z => z⟩
          intro ρ9 H9 v9 p9 t9 r9 dv9
          have z10 : MPost (appO (.obj j) y S9) (fun _ S3 => MPost (loopC w2.1 (lc2I g.pg cl t2 vs1 x (.obj j) ds') m (i + 1) S3) (fun _ S3 => K S3) (fun _ _ _ => False)) (fun _ _ _ => False) := by
            unfold appO at z9 ⊢
            simp only at z9 ⊢
            cases ez : S9[j]? with
            | none => rw [ez] at z9; exact z9
            | some o =>
              rw [ez] at z9
              cases o with
              | lst xs lk =>
                cases lk with
                | true => exact z9
                | false =>
                  simp only at z9 ⊢
                  by_cases hz : xs.length < sizeL
                  · rw [if_pos hz] at z9 ⊢; exact z9
                  · rw [if_neg hz] at z9; exact z9.elim
              | dct _ _ => exact z9
              | ins _ _ => exact z9
          exact app_turn (g := g) (Nx := fun H7 => ∃ ρ7 S7, ρ6 <+: ρ7 ∧ TupK g.toGd H6 H7 ∧ Rel g.toGd ρ7 S7 H7 ∧ MPost (loopC w2.1 (lc2I g.pg cl t2 vs1 x (.obj j) ds') m (i + 1) S7) (fun _ S3 => K S3) (fun _ _ _ => False)) (pre_get (p6.trans p7) hD) p9 t9 r9 dv9 z10 fun ρ10 S10 H10 p10 t10 r10 k10 => ⟨ρ10, S10, p7.trans p10, t7.trans (t8.trans t10), r10, k10⟩
theorem lc2_rd {x : LA.E} {t t2 : Tg} {it it2 : LA.I} {vs vs1 : List Nat} (hix : ∀ i ∈ tgIx t, i ∈ vs) (hix1 : ∀ i ∈ tgIx t2, i ∈ vs1) {σ : L2.St} {H : Hp} {Q : VK} (h : rdE g cl W (.lc2 x t it t2 it2 vs vs1) σ H Q) :
    tLc2 (rdI X g cl W it) (rdG g t) tYes (rdI0 g cl Wn it2) (rdG g t2) tYes (rdE g cl Wn x) vs vs1 σ H (offE X Q) := by
  obtain ⟨ρ, ds, S, r, sl, q⟩ := h
  unfold evE at q
  have qn : MPost (evI g.pg cl ds it S) (fun w S1 => MPost (M.bind (new (.lst [] false)) (fun r => M.bind (loopC w.1 (lc2S g.pg cl ds t vs t2 it2 vs1 x r) w.1.len 0) fun _ => M.bind (unlk w.2) fun _ => M.pure r) S1) (fun d S' => PostV g ρ H d S' Q) (fun _ _ _ => False)) (fun _ _ _ => False) :=
    (noEx_post (x' := fun _ _ _ => False) q).bind
  refine ⟨ρ, ds, S, r, sl, qn.imp (fun w S1 z => ?_) fun _ _ _ z => z.elim⟩
  intro ρ1 H1 J p1 t1 r1 itr lk D0 hD
  have r2 := r1.new (o := .lst [] false) (ho := .lst []) hD ⟨[], .nil, upd_same⟩
  have p2 : ρ1 <+: ρ1 ++ [D0] := List.prefix_append _ _
  have tn : TupK g.toGd H1 (upd H1 D0 (.lst [])) := .new hD
  have hDi : (ρ1 ++ [D0])[S1.length]? = some D0 := by rw [← r1.len]; simp
  have z1 : LcW g cl (lc2S g.pg cl ds t vs t2 it2 vs1 x (.obj S1.length)) w S1.length ρ H Q w.1.len 0 (S1 ++ [.lst [] false]) := z
  refine ⟨fun i m H2 => ∃ ρ2 S2, ρ1 ++ [D0] <+: ρ2 ∧ TupK g.toGd (upd H1 D0 (.lst [])) H2 ∧ Rel g.toGd ρ2 S2 H2 ∧ LcW g cl (lc2S g.pg cl ds t vs t2 it2 vs1 x (.obj S1.length)) w S1.length ρ H Q m i S2,
    ⟨w.1.len, _, _, List.prefix_refl _, .refl, r2, z1⟩, ?_⟩
  rintro i m H2 ⟨ρ2, S2, p3, t3, r3, q3⟩
  have p13 := p2.trans p3
  have t13 := tn.trans t3
  cases m with
  | zero =>
    left
    obtain ⟨eg, q4⟩ := q3.zero
    exact ⟨itr.stop ρ2 S2 H2 i p13 t13 r3 eg, off_end p1 t1 lk p13 t13 r3 (pre_get p3 hDi) q4⟩
  | succ m =>
    right
    obtain ⟨d, eg, q4⟩ := q3.succ
    refine ⟨itr.go ρ2 S2 H2 i d p13 t13 r3 eg, _, fun H3 hn => ⟨m, Nat.lt_succ_self _, hn⟩, fun u H3 y => ?_⟩
    obtain ⟨r4, t4, dv4⟩ := itr.yld ρ2 S2 H2 i d u H3 p13 t13 r3 eg y
    exact lc2_turn hix hix1 r4 dv4 (sl.mono (p1.trans p13) (t1.trans (t13.trans t4))) (pre_get p3 hDi) q4 fun ρ5 S5 H5 p5 t5 r5 k5 => ⟨ρ5, S5, p3.trans p5, t3.trans (t4.trans t5), r5, k5⟩
/-! ### dicts -/
def dcS (pg : Pg) (cl : Nat → List D → M D) (σ : En) (t : Tg) (vs : List Nat) (kx vx : LA.E) (r : D) : D → M Unit := fun d => M.bind (tgM t d (LA.wipe σ vs)) fun σ' => M.bind (evE pg cl σ' kx) fun k => M.bind (evE pg cl σ' vx) fun v => putO r k v
theorem dc_turn {kx vx : LA.E} {t : Tg} {vs : List Nat} (hix : ∀ i ∈ tgIx t, i ∈ vs) {σ : L2.St} {ds : En} {ρ2 : List Addr} {S2 : Sto} {H3 : Hp} {d : D} {u : V} {j : Nat} {D0 : Addr} {Nx : Hp → Prop} {K : Sto → Prop} (r4 : Rel g.toGd ρ2 S2 H3) (dv4 : DV g.toGd ρ2 H3 d u)
    (sl : SlR g.toGd ρ2 H3 ds σ) (hD : ρ2[j]? = some D0) (q : MPost (dcS g.pg cl ds t vs kx vx (.obj j) d S2) (fun _ S3 => K S3) (fun _ _ _ => False))
    (hn : ∀ ρ5 S5 H5, ρ2 <+: ρ5 → TupK g.toGd H3 H5 → Rel g.toGd ρ5 S5 H5 → K S5 → Nx H5) :
    rdG g t u (L2.wipe σ vs) H3 fun σ2 H2 => L2.wipe σ2 vs = L2.wipe σ vs ∧ tYes σ2 H2 fun b H4 =>
      if b = true then rdE g cl Wn kx σ2 H4 fun y H5 => rdE g cl Wn vx σ2 H5 fun z H6 => ∃ kvs k, y = kV k ∧ H6 D0 = some (.dK kvs) ∧ kvs.length < sizeLine ∧ Nx (upd H6 D0 (.dK (L2.putK kvs k z))) else Nx H4 := by
  have q5 := MPost.bind q
  unfold tgM at q5
  cases es : setTg S2 t d (LA.wipe ds vs) with
  | none => rw [es] at q5; exact q5.elim
  | some ds' =>
    rw [es] at q5
    refine ⟨ρ2, S2, d, _, ds', r4, dv4, sl.wipe vs, es, fun σ5 sl5 w5 => ⟨(w5 vs hix).trans (wipe_wipe vs vs fun _ z => z), ?_⟩⟩
    have q6 : MPost (M.bind (evE g.pg cl ds' kx) (fun k => M.bind (evE g.pg cl ds' vx) fun v => putO (.obj j) k v) S2) (fun _ S3 => K S3) (fun c fs S' => PostX g ρ2 H3 c fs S' fun cls dd H' => Wn cls dd σ5 H') :=
      (show MPost (M.bind (evE g.pg cl ds' kx) (fun k => M.bind (evE g.pg cl ds' vx) fun v => putO (.obj j) k v) S2) _ (fun _ _ _ => False) from q5).imp (fun _ _ z => z) fun _ _ _ z => z.elim
    simp only [tYes, if_true]
    refine rdE.bind r4 sl5 q6 fun ρ6 H6 S6 y v p6 t6 r6 dv6 sl6 q7 => ?_
    refine rdE.bind r6 sl6 q7 fun ρ7 H7 S7 z u7 p7 t7 r7 dv7 sl7 q8 => ?_
    unfold putO at q8
    simp only at q8
    have hD7 := pre_get (p6.trans p7) hD
    cases ej : S7[j]? with
    | none => rw [ej] at q8; exact q8.elim
    | some o =>
      cases ek : toKy y with
      | none => rw [ej, ek] at q8; cases o <;> first | exact q8.elim | (rename_i kvs lk; cases lk <;> exact q8.elim)
      | some ky =>
        rw [ej, ek] at q8
        cases o with
        | lst _ _ => exact q8.elim
        | ins _ _ => exact q8.elim
        | dct kvs lk =>
          cases lk with
          | true => exact q8.elim
          | false =>
            simp only at q8
            by_cases hz : kvs.length < 1000
            · rw [if_pos hz] at q8
              obtain ⟨ws, kv, hh⟩ := r7.ob j _ D0 ej hD7
              have hh' : H7 D0 = some (.dK ws) := hh
              have tk : TupK g.toGd H7 (upd H7 D0 (.dK (L2.putK ws (kyKey ky) u7))) := .write hh' (fun _ z => nomatch z) (fun _ _ z => nomatch z)
              obtain ⟨r8, _⟩ := r7.write (o := .dct (LA.putK ky z kvs) false) (ho := .dK (L2.putK ws (kyKey ky) u7)) hD7 ⟨_, (kvs_put (ky := ky) dv7 kv).mono (List.prefix_refl _) tk, upd_same⟩ ej rfl
              refine ⟨ws, kyKey ky, toKy_dv dv6 ek, hh', ?_, ?_⟩
              · rw [← kvs_len kv, ← sizeL_eq]
                exact Nat.lt_of_lt_of_le hz (by decide)
              · exact hn ρ7 _ _ (p6.trans p7) ((t6.trans t7).trans tk) r8 (show K (S7.set j (.dct (LA.putK ky z kvs) false)) from q8)
            · rw [if_neg hz] at q8; exact q8.elim
theorem dc_rd {kx vx : LA.E} {t : Tg} {it : LA.I} {vs : List Nat} (hix : ∀ i ∈ tgIx t, i ∈ vs) {σ : L2.St} {H : Hp} {Q : VK} (h : rdE g cl W (.dc kx vx t it vs) σ H Q) :
    tDc (rdI X g cl W it) (rdG g t) tYes (rdE g cl Wn kx) (rdE g cl Wn vx) vs σ H (offE X Q) := by
  obtain ⟨ρ, ds, S, r, sl, q⟩ := h
  unfold evE at q
  have qn : MPost (evI g.pg cl ds it S) (fun w S1 => MPost (M.bind (new (.dct [] false)) (fun r => M.bind (loopC w.1 (dcS g.pg cl ds t vs kx vx r) w.1.len 0) fun _ => M.bind (unlk w.2) fun _ => M.pure r) S1) (fun d S' => PostV g ρ H d S' Q) (fun _ _ _ => False)) (fun _ _ _ => False) :=
    (noEx_post (x' := fun _ _ _ => False) q).bind
  refine ⟨ρ, ds, S, r, sl, qn.imp (fun w S1 z => ?_) fun _ _ _ z => z.elim⟩
  intro ρ1 H1 J p1 t1 r1 itr lk D0 hD
  have r2 := r1.new (o := .dct [] false) (ho := .dK []) hD ⟨[], rfl, upd_same⟩
  have p2 : ρ1 <+: ρ1 ++ [D0] := List.prefix_append _ _
  have tn : TupK g.toGd H1 (upd H1 D0 (.dK [])) := .new hD
  have hDi : (ρ1 ++ [D0])[S1.length]? = some D0 := by rw [← r1.len]; simp
  have z1 : LcW g cl (dcS g.pg cl ds t vs kx vx (.obj S1.length)) w S1.length ρ H Q w.1.len 0 (S1 ++ [.dct [] false]) := z
  refine ⟨fun i m H2 => ∃ ρ2 S2, ρ1 ++ [D0] <+: ρ2 ∧ TupK g.toGd (upd H1 D0 (.dK [])) H2 ∧ Rel g.toGd ρ2 S2 H2 ∧ LcW g cl (dcS g.pg cl ds t vs kx vx (.obj S1.length)) w S1.length ρ H Q m i S2,
    ⟨w.1.len, _, _, List.prefix_refl _, .refl, r2, z1⟩, ?_⟩
  rintro i m H2 ⟨ρ2, S2, p3, t3, r3, q3⟩
  have p13 := p2.trans p3
  have t13 := tn.trans t3
  cases m with
  | zero =>
    left
    obtain ⟨eg, q4⟩ := q3.zero
    exact ⟨itr.stop ρ2 S2 H2 i p13 t13 r3 eg, off_end p1 t1 lk p13 t13 r3 (pre_get p3 hDi) q4⟩
  | succ m =>
    right
    obtain ⟨d, eg, q4⟩ := q3.succ
    refine ⟨itr.go ρ2 S2 H2 i d p13 t13 r3 eg, _, fun H3 hn => ⟨m, Nat.lt_succ_self _, hn⟩, fun u H3 y => ?_⟩
    obtain ⟨r4, t4, dv4⟩ := itr.yld ρ2 S2 H2 i d u H3 p13 t13 r3 eg y
    exact dc_turn hix r4 dv4 (sl.mono (p1.trans p13) (t1.trans (t13.trans t4))) (pre_get p3 hDi) q4 fun ρ5 S5 H5 p5 t5 r5 k5 => ⟨ρ5, S5, p3.trans p5, t3.trans (t4.trans t5), r5, k5⟩
/-! ### as values -/
/-- a reading in every block of the context -/
abbrev InB (X : Cx) (scope : Scope) (P : Cx → Prop) : Prop := ∀ (s : Shared) (H : Hp) (C : Addr) (cs : List (Str × Addr)) (fp : List Addr), P (X.blk s H scope (compEnvC scope cs C X.env) fp)
theorem folded_no {e : Expr} {env : Env} (h : isSet e = false) : ∀ x, foldedSetIterable e env x = pure x := by
  intro x
  cases e <;> first | rfl | exact absurd h (by simp [isSet])
section
variable {elt elt2 tg iter tg2 iter2 : Expr} {ifs : List Expr} {scope : Scope} {own : List (Str × Nat)} {pos : Pos} {x x2 f : LA.E} {t t2 : Tg} {it it2 : LA.I} {n : Nat}
theorem snd_lc (G : Cxt g k cl W c X) (hi : PI X tg iter (rdI X g cl W it)) (ok : blkC c.N c.sc scope own = true) (ht : compTg (c.blk scope) n tg = some t) (hto : tgOk (locOk scope) n tg = true) (hix : ∀ i ∈ tgIx t, i ∈ own.map (·.2))
    (hf : InB X scope fun Y => PTs Y ifs (rdT g cl Wn f)) (he : InB X scope fun Y => PE Y elt (rdE g cl Wn x)) (hs : isSet iter = false) : PE X (.ListComp elt [⟨tg, iter, ifs, 0⟩] scope pos) (rdE g cl W (.lc x t it f (own.map (·.2)))) :=
  PEto (pe_off (pe_lc G.calm (by rw [G.N]; exact G.nd) hi (by rw [G.N, G.sc]; exact blkOk_by ok) (fun s H C cs fp => snd_tg (G.blk s H scope C cs fp).toGk (blk_st s H scope C cs fp) n tg t ht hto) hf he (folded_no hs)))
    fun σ H Q h => lc_rd hix h
theorem snd_lc2 (G : Cxt g k cl W c X) (hi : PI X tg iter (rdI X g cl W it)) (ok : blkC c.N c.sc scope own = true) (ht : compTg (c.blk scope) n tg = some t) (hto : tgOk (locOk scope) n tg = true) (hix : ∀ i ∈ tgIx t, i ∈ own.map (·.2))
    (hi2 : InB X scope fun Y => PI Y tg2 iter2 (rdI Y g cl Wn it2)) (ht2 : compTg (c.blk scope) n tg2 = some t2) (hto2 : tgOk (locOk scope) n tg2 = true) (hix2 : ∀ i ∈ tgIx t2, i ∈ own.map (·.2))
    (he : InB X scope fun Y => PE Y elt (rdE g cl Wn x)) (hs : isSet iter = false) (hs2 : isSet iter2 = false) : PE X (.ListComp elt [⟨tg, iter, [], 0⟩, ⟨tg2, iter2, [], 0⟩] scope pos) (rdE g cl W (.lc2 x t it t2 it2 (own.map (·.2)) (tgIx t2))) :=
  PEto (pe_off (pe_lc2 G.calm (by rw [G.N]; exact G.nd) hi (by rw [G.N, G.sc]; exact blkOk_by ok) hix2 (fun s H C cs fp => snd_tg (G.blk s H scope C cs fp).toGk (blk_st s H scope C cs fp) n tg t ht hto) (fun _ _ _ _ _ => pts_nil) (fun s H C cs fp => pi_0 (hi2 s H C cs fp))
    (fun s H C cs fp => snd_tg (G.blk s H scope C cs fp).toGk (blk_st s H scope C cs fp) n tg2 t2 ht2 hto2) (fun _ _ _ _ _ => pts_nil) he (folded_no hs) (fun _ => folded_no hs2)))
    fun σ H Q h => lc2_rd hix (fun _ z => z) h
theorem snd_dc (G : Cxt g k cl W c X) (hi : PI X tg iter (rdI X g cl W it)) (ok : blkC c.N c.sc scope own = true) (ht : compTg (c.blk scope) n tg = some t) (hto : tgOk (locOk scope) n tg = true) (hix : ∀ i ∈ tgIx t, i ∈ own.map (·.2))
    (he : InB X scope fun Y => PE Y elt (rdE g cl Wn x)) (he2 : InB X scope fun Y => PE Y elt2 (rdE g cl Wn x2)) (hs : isSet iter = false) : PE X (.DictComp elt elt2 [⟨tg, iter, [], 0⟩] scope pos) (rdE g cl W (.dc x x2 t it (own.map (·.2)))) :=
  PEto (pe_off (pe_dc G.calm (by rw [G.N]; exact G.nd) hi (by rw [G.N, G.sc]; exact blkOk_by ok) (fun s H C cs fp => snd_tg (G.blk s H scope C cs fp).toGk (blk_st s H scope C cs fp) n tg t ht hto) (fun _ _ _ _ _ => pts_nil) he he2 (folded_no hs)))
    fun σ H Q h => dc_rd hix h
end
end
end LA

/-! Soundness: statements. -/
namespace LA
open PySem PySem.Spec PyProof.Rows L2
def SPost (r : Option (Fl × Sto)) (nx : En → Sto → Prop) (rt : D → Sto → Prop) (ex : Nat → List (Nat × D) → En → Sto → Prop) : Prop := match r with
  | some (.nx σ, S) => nx σ S
  | some (.rt d, S) => rt d S
  | some (.ex c fs σ, S) => ex c fs σ S
  | none => False
theorem SPost.imp {r : Option (Fl × Sto)} {nx nx' : En → Sto → Prop} {rt rt' : D → Sto → Prop} {ex ex' : Nat → List (Nat × D) → En → Sto → Prop} (h : SPost r nx rt ex) (h1 : ∀ σ S, nx σ S → nx' σ S) (h2 : ∀ d S, rt d S → rt' d S) (h3 : ∀ c fs σ S, ex c fs σ S → ex' c fs σ S) : SPost r nx' rt' ex' := by
  cases r with
  | none => exact h
  | some r =>
    obtain ⟨f, S⟩ := r
    cases f with
    | nx σ => exact h1 _ _ h
    | rt d => exact h2 _ _ h
    | ex c fs σ => exact h3 _ _ _ _ h
theorem SPost.bind {m : SM} {f : En → SM} {S : Sto} {nx : En → Sto → Prop} {rt : D → Sto → Prop} {ex : Nat → List (Nat × D) → En → Sto → Prop} (h : SPost (SM.bind m f S) nx rt ex) : SPost (m S) (fun σ S1 => SPost (f σ S1) nx rt ex) rt ex := by
  unfold SM.bind at h
  cases e : m S with
  | none => rw [e] at h; exact h
  | some r =>
    obtain ⟨r, S1⟩ := r
    rw [e] at h
    cases r <;> exact h
theorem SPost.inS {α : Type} {σ : En} {m : M α} {f : α → SM} {S : Sto} {nx : En → Sto → Prop} {rt : D → Sto → Prop} {ex : Nat → List (Nat × D) → En → Sto → Prop} (h : SPost (M.inS σ m f S) nx rt ex) : MPost (m S) (fun a S1 => SPost (f a S1) nx rt ex) (fun c fs S1 => ex c fs σ S1) := by
  unfold M.inS at h
  cases e : m S with
  | none => rw [e] at h; exact h
  | some r =>
    obtain ⟨r, S1⟩ := r
    rw [e] at h
    cases r <;> exact h
def NxP (g : GdX) (ρ : List Addr) (H : Hp) (ds : En) (S : Sto) (K : L2.St → Hp → Prop) : Prop := ∀ ρ1 H1 σ1, ρ <+: ρ1 → TupK g.toGd H H1 → Rel g.toGd ρ1 S H1 → SlR g.toGd ρ1 H1 ds σ1 → K σ1 H1
def ExP (g : GdX) (ρ : List Addr) (H : Hp) (c : Nat) (fs : List (Nat × D)) (ds : En) (S : Sto) (W : WX) : Prop := ∀ ρ1 H1 σ1 cls dd, ρ <+: ρ1 → TupK g.toGd H H1 → Rel g.toGd ρ1 S H1 → SlR g.toGd ρ1 H1 ds σ1 → XV g ρ1 H1 c fs cls dd → W cls dd σ1 H1
/-- how a statement ends, for whoever wants Dn and W -/
def FinP (g : GdX) (ρ : List Addr) (H : Hp) (W : WX) (Dn : Ends) (r : Option (Fl × Sto)) : Prop := SPost r (fun ds S => NxP g ρ H ds S Dn.nx) (fun d S => PostV g ρ H d S Dn.rt) (fun c fs ds S => ExP g ρ H c fs ds S W)
def rdS (g : GdX) (W : WX) (m : En → SM) : TS := fun Dn σ H => ∃ ρ ds S, Rel g.toGd ρ S H ∧ SlR g.toGd ρ H ds σ ∧ FinP g ρ H W Dn (m ds S)
section
variable {g : GdX} {cl : Nat → List D → M D} {W : WX} {k : Nat} {c : Cc} {X : Cx} {ρ ρ1 : List Addr} {H H1 : Hp} {S : Sto} {ds : En} {σ : L2.St} {Dn : Ends}
theorem NxP.mono {K : L2.St → Hp → Prop} (h : NxP g ρ H ds S K) (p : ρ <+: ρ1) (t : TupK g.toGd H H1) : NxP g ρ1 H1 ds S K := fun _ _ _ a b => h _ _ _ (p.trans a) (t.trans b)
theorem ExP.mono {cc : Nat} {fs : List (Nat × D)} (h : ExP g ρ H cc fs ds S W) (p : ρ <+: ρ1) (t : TupK g.toGd H H1) : ExP g ρ1 H1 cc fs ds S W := fun _ _ _ _ _ a b => h _ _ _ _ _ (p.trans a) (t.trans b)
theorem FinP.mono {r : Option (Fl × Sto)} (h : FinP g ρ H W Dn r) (p : ρ <+: ρ1) (t : TupK g.toGd H H1) : FinP g ρ1 H1 W Dn r :=
  SPost.imp h (fun _ _ z => z.mono p t) (fun _ _ z => PostV.mono z p t) fun _ _ _ _ z => z.mono p t
theorem ExP.pe {cc : Nat} {fs : List (Nat × D)} (sl : SlR g.toGd ρ H ds σ) (h : ExP g ρ H cc fs ds S W) : PostX g ρ H cc fs S (fun cls dd H1 => W cls dd σ H1) := fun ρ1 H1 cls dd a b r x => h ρ1 H1 σ cls dd a b r (sl.mono a b) x
/-- an expression in a statement -/
theorem FinP.inE {α : Type} {m : M α} {f : α → SM} (sl : SlR g.toGd ρ H ds σ) (h : FinP g ρ H W Dn (M.inS ds m f S)) : MPost (m S) (fun a S1 => FinP g ρ H W Dn (f a S1)) (fun c fs S1 => PostX g ρ H c fs S1 fun cls dd H1 => W cls dd σ H1) :=
  (SPost.inS h).imp (fun _ _ z => z) fun _ _ _ z => z.pe sl
theorem rdE.inS {e : LA.E} {f : D → SM} {Q : VK} (r : Rel g.toGd ρ S H) (sl : SlR g.toGd ρ H ds σ) (h : FinP g ρ H W Dn (M.inS ds (evE g.pg cl ds e) f S))
    (hq : ∀ ρ1 H1 S1 d v, ρ <+: ρ1 → TupK g.toGd H H1 → Rel g.toGd ρ1 S1 H1 → DV g.toGd ρ1 H1 d v → SlR g.toGd ρ1 H1 ds σ → FinP g ρ1 H1 W Dn (f d S1) → Q v H1) : rdE g cl W e σ H Q :=
  ⟨ρ, ds, S, r, sl, (h.inE sl).imp (fun d S1 z ρ1 H1 v a b rr dv => hq ρ1 H1 S1 d v a b rr dv (sl.mono a b) (z.mono a b)) fun _ _ _ z => z⟩
theorem rdEs.inS {e : Es} {f : List D → SM} {Q : List V → Hp → Prop} (r : Rel g.toGd ρ S H) (sl : SlR g.toGd ρ H ds σ) (h : FinP g ρ H W Dn (M.inS ds (evEs g.pg cl ds e) f S))
    (hq : ∀ ρ1 H1 S1 d v, ρ <+: ρ1 → TupK g.toGd H H1 → Rel g.toGd ρ1 S1 H1 → DVs g.toGd ρ1 H1 d v → SlR g.toGd ρ1 H1 ds σ → FinP g ρ1 H1 W Dn (f d S1) → Q v H1) : rdEs g cl W e σ H Q :=
  ⟨ρ, ds, S, r, sl, (h.inE sl).imp (fun d S1 z ρ1 H1 v a b rr dv => hq ρ1 H1 S1 d v a b rr dv (sl.mono a b) (z.mono a b)) fun _ _ _ z => z⟩
theorem FinP.nx {ds' : En} {S1 : Sto} (h : FinP g ρ H W Dn (some (.nx ds', S1))) {σ1 : L2.St} (r : Rel g.toGd ρ S1 H) (sl : SlR g.toGd ρ H ds' σ1) : Dn.nx σ1 H := (show NxP g ρ H ds' S1 Dn.nx from h) ρ H σ1 (List.prefix_refl _) .refl r sl
/-- a stored target -/
theorem FinP.tg {t : Tg} {d : D} {v : V} {f : En → SM} {K : L2.St → Hp → Prop} (r : Rel g.toGd ρ S H) (sl : SlR g.toGd ρ H ds σ) (dv : DV g.toGd ρ H d v) (h : FinP g ρ H W Dn (M.inS ds (tgM t d ds) f S))
    (hk : ∀ ds' σ', SlR g.toGd ρ H ds' σ' → FinP g ρ H W Dn (f ds' S) → K σ' H) : rdG g t v σ H K := by
  have q := h.inE sl
  unfold tgM at q
  cases es : setTg S t d ds with
  | none => rw [es] at q; exact q.elim
  | some ds' =>
    rw [es] at q
    exact ⟨ρ, S, d, ds, ds', r, dv, sl, es, fun σ' sl' _ => hk ds' σ' sl' q⟩
theorem fvs_length : ∀ {fs : List (Nat × D)} {vs : List (Str × V)}, FVs g.toGd ρ H fs vs → fs.length = vs.length
  | [], _, h => by rw [show _ = [] from h]; rfl
  | (b, w) :: r, _, h => by
    obtain ⟨n, v, ws, _, rfl, _, hr⟩ := h
    rw [List.length_cons, List.length_cons, fvs_length hr]
theorem fvs_put (nd : g.an.Nodup) {a : Nat} {n : Str} (ea : g.an[a]? = some n) {d : D} {v : V} (dv : DV g.toGd ρ H d v) : ∀ {fs : List (Nat × D)} {vs : List (Str × V)}, FVs g.toGd ρ H fs vs → FVs g.toGd ρ H (putA a d fs) (putF n v vs)
  | [], _, h => by rw [show _ = [] from h]; exact ⟨n, v, [], ea, rfl, dv, rfl⟩
  | (b, w) :: r, _, h => by
    obtain ⟨m, u, ws, em, rfl, du, hr⟩ := h
    unfold putA putF
    by_cases hb : a = b
    · subst hb
      have e : g.an[a]? = some m := em
      rw [ea] at e
      cases e
      rw [if_pos rfl, if_pos rfl]
      exact ⟨n, v, ws, ea, rfl, dv, hr⟩
    · have hm : m ≠ n := by
        rintro rfl
        have e : g.an[b]? = some m := em
        obtain ⟨h1, g1⟩ := List.getElem?_eq_some_iff.mp ea
        obtain ⟨h2, g2⟩ := List.getElem?_eq_some_iff.mp e
        exact hb ((List.getElem_inj nd).mp (g1.trans g2.symm))
      rw [if_neg hb, if_neg hm]
      exact ⟨m, u, _, em, rfl, du, fvs_put nd ea dv hr⟩
variable {N : Nat}
/-! ### small ones -/
theorem PSor {st : Stmt} {t u : TS} (h : PS X st t) (h' : PS X st u) : PS X st (fun D σ H => t D σ H ∨ u D σ H) := ⟨fun pins s σ H D I q => q.elim (h.run pins s σ H D I) (h'.run pins s σ H D I)⟩
theorem sws_pass {pos : Pos} : PS X (.Pass pos) (rdS g W fun ds => evC g.pg cl N ds .pass) := PSto ps_pass fun Dn σ H ⟨ρ, ds, S, r, sl, q⟩ => by
  unfold evC at q
  exact q.nx r sl
theorem sws_doc {x : Str} {j : Nat} {pos pos1 : Pos} : PS X (.Expr (.Constant (.str x) j pos) pos1) (rdS g W fun ds => evC g.pg cl N ds .pass) := PSto ps_doc fun Dn σ H ⟨ρ, ds, S, r, sl, q⟩ => by
  unfold evC at q
  exact q.nx r sl
theorem swaps_no {e : Expr} {t : Option Expr} {l : Nat} {env : Env} (h : isComp e = false) : swapsWith e t l env = pure false := by
  cases e <;> first | rfl | exact absurd h (by simp [isComp])
theorem swaps_other {e t : Expr} {l : Nat} {env : Env} (h : ∀ x p, t ≠ .Name x p) : swapsWith e (some t) l env = pure false := by
  cases e <;> cases t <;> first | rfl | exact absurd rfl (h _ _)
theorem sws_ex {e : Expr} {x : LA.E} {pos : Pos} (he : PE X e (rdE g cl W x)) (hc : isComp e = false) : PS X (.Expr e pos) (rdS g W fun ds => evC g.pg cl N ds (.ex x)) := PSto (ps_expr he (swaps_no hc)) fun Dn σ H ⟨ρ, ds, S, r, sl, q⟩ => by
  unfold evC at q
  exact rdE.inS r sl q fun ρ1 H1 S1 d v p1 t1 r1 dv sl1 q1 => q1.nx r1 sl1
theorem sws_ret {e : Expr} {x : LA.E} {pos : Pos} (he : PE X e (rdE g cl W x)) : PS X (.Return (some e) pos) (rdS g W fun ds => evC g.pg cl N ds (.ret x)) := PSto (ps_ret he) fun Dn σ H ⟨ρ, ds, S, r, sl, q⟩ => by
  unfold evC at q
  exact rdE.inS r sl q fun ρ1 H1 S1 d v p1 t1 r1 dv sl1 q1 => (show PostV g ρ1 H1 d S1 Dn.rt from q1) ρ1 H1 v (List.prefix_refl _) .refl r1 dv
theorem sws_retN {pos : Pos} : PS X (.Return none pos) (rdS g W fun ds => evC g.pg cl N ds (.ret (.con .non))) := PSto ps_retN fun Dn σ H ⟨ρ, ds, S, r, sl, q⟩ => by
  unfold evC at q
  have q1 := q.inE sl
  unfold evE at q1
  exact (show PostV g ρ H .non S Dn.rt from q1) ρ H .non (List.prefix_refl _) .refl r dv_non
theorem rdS.at {m : En → SM} (r : Rel g.toGd ρ S H) (sl : SlR g.toGd ρ H ds σ) (q : FinP g ρ H W Dn (m ds S)) : rdS g W m Dn σ H := ⟨ρ, ds, S, r, sl, q⟩
theorem sws_ite {t : Expr} {a b : List Stmt} {x : LA.E} {u w : Cs} {pos : Pos} (ht : PT X t (rdT g cl W x)) (ha : PSs X a (rdS g W fun ds => evCs g.pg cl N ds u)) (hb : PSs X b (rdS g W fun ds => evCs g.pg cl N ds w)) :
    PS X (.If t a b pos) (rdS g W fun ds => evC g.pg cl N ds (.ite x u w)) := PSto (ps_if ht ha hb) fun Dn σ H ⟨ρ, ds, S, r, sl, q⟩ => by
  unfold evC at q
  have q1 := q.inE sl
  have q2 : MPost (M.bind (evE g.pg cl ds x) truthM S) (fun b S1 => FinP g ρ H W Dn (if b then evCs g.pg cl N ds u S1 else evCs g.pg cl N ds w S1)) (fun c fs S1 => PostX g ρ H c fs S1 fun cls dd H1 => W cls dd σ H1) := by
    unfold M.bind
    cases e : evE g.pg cl ds x S with
    | none => rw [e] at q1; exact q1
    | some rr =>
      obtain ⟨rr, S1⟩ := rr
      rw [e] at q1
      cases rr with
      | ex c fs => exact q1
      | ok d =>
        have q3 := FinP.inE (m := truthM d) sl (show FinP g ρ H W Dn (M.inS ds (truthM d) (fun t => if t then evCs g.pg cl N ds u else evCs g.pg cl N ds w) S1) from q1)
        refine q3.imp (fun b S2 z => ?_) fun _ _ _ z => z
        cases b <;> exact z
  refine ⟨ρ, ds, S, r, sl, q2.imp (fun b S1 z ρ1 H1 p1 t1 r1 => ?_) fun _ _ _ z => z⟩
  cases b with
  | true => exact rdS.at r1 (sl.mono p1 t1) (FinP.mono z p1 t1)
  | false => exact rdS.at r1 (sl.mono p1 t1) (FinP.mono z p1 t1)
theorem sws_nil : PSs X [] (rdS g W fun ds => evCs g.pg cl N ds .nil) := PSsto pss_nil fun Dn σ H ⟨ρ, ds, S, r, sl, q⟩ => by
  unfold evCs at q
  exact q.nx r sl
theorem sws_cons {s : Stmt} {r : List Stmt} {a : C} {b : Cs} (h1 : PS X s (rdS g W fun ds => evC g.pg cl N ds a)) (h2 : PSs X r (rdS g W fun ds => evCs g.pg cl N ds b)) : PSs X (s :: r) (rdS g W fun ds => evCs g.pg cl N ds (.cons a b)) :=
  PSsto (pss_cons h1 h2) fun Dn σ H ⟨ρ, ds, S, r, sl, q⟩ => by
    unfold evCs at q
    refine ⟨ρ, ds, S, r, sl, (SPost.bind q).imp (fun ds1 S1 z ρ1 H1 σ1 p1 t1 r1 sl1 => ?_) (fun _ _ z => z) fun _ _ _ _ z => z⟩
    exact rdS.at r1 sl1 (FinP.mono z p1 t1)
/-! ### stores -/
theorem sws_asg {tg e : Expr} {t : Tg} {x : LA.E} {pos : Pos} (he : PE X e (rdE g cl W x)) (hg : PG X tg (rdG g t)) (hs : swapsWithSole [tg] e pos.line X.env = pure false) (hw : swappedStores [tg] e X.env = pure none) (h1 : (assignEach [tg] X.env).map (·.2) = [assign tg X.env]) :
    PS X (.Assign [tg] e pos) (rdS g W fun ds => evC g.pg cl N ds (.asg t x)) := PSto (ps_asg he hg hs hw h1) fun Dn σ H ⟨ρ, ds, S, r, sl, q⟩ => by
  unfold evC at q
  exact rdE.inS r sl q fun ρ1 H1 S1 d v p1 t1 r1 dv sl1 q1 => q1.tg r1 sl1 dv fun ds' σ' sl' z => z.nx r1 sl'
/-- the same words for name = e -/
theorem sws_set {y : Str} {e : Expr} {i : Nat} {x : LA.E} {pos py : Pos} (G : Gk g k c X) (he : PE X e (rdE g cl W x)) (hi : c.loc? y = some i) (hk : Loc c.sc y ∧ (X.fn y = true ∨ X.env.scope.names.lookup y = some .local)) (hs : swapsWith e (some (.Name y py)) pos.line X.env = pure false) :
    PS X (.Assign [.Name y py] e pos) (rdS g W fun ds => evC g.pg cl N ds (.asg (.name i) x)) := by
  obtain ⟨h1, _⟩ := Cc.loc_ok hi
  refine PSto (ps_set (i := i) (by rw [G.N]; exact G.nd) (by rw [G.N]; exact h1) (by rw [G.sc]; exact hk.1) he hs hk.2) fun Dn σ H ⟨ρ, ds, S, r, sl, q⟩ => ?_
  unfold evC at q
  refine rdE.inS r sl q fun ρ1 H1 S1 d v p1 t1 r1 dv sl1 q1 => ?_
  have q2 := q1.inE sl1
  unfold tgM setTg at q2
  by_cases hlt : i < ds.length
  · rw [if_pos hlt] at q2
    exact (show FinP g ρ1 H1 W Dn (some (.nx (ds.set i (some d)), S1)) from q2).nx r1 (sl1.set i dv)
  · rw [if_neg hlt] at q2; exact q2.elim
theorem sws_fld (G : Cxt g k cl W c X) {o e : Expr} {n : Str} {a : Nat} {x y : LA.E} {pos p1 : Pos} (ho : PE X o (rdE g cl W y)) (he : PE X e (rdE g cl W x)) (hn : g.an[a]? = some n) :
    PS X (.Assign [.Attribute o n p1] e pos) (rdS g W fun ds => evC g.pg cl N ds (.asgF y a x)) := PSto (ps_fld ho he (swaps_other fun _ _ h => nomatch h)) fun Dn σ H ⟨ρ, ds, S, r, sl, q⟩ => by
  unfold evC at q
  refine rdE.inS r sl q fun ρ1 H1 S1 d v p1 t1 r1 dv sl1 q1 => ?_
  refine rdE.inS r1 sl1 q1 fun ρ2 H2 S2 d2 v2 p2 t2 r2 dv2 sl2 q2 => ?_
  have q3 := q2.inE sl2
  unfold setF at q3
  cases d2 <;> first | exact q3.elim | skip
  rename_i i
  simp only at q3
  cases ei : S2[i]? with
  | none => rw [ei] at q3; exact q3.elim
  | some oo =>
    rw [ei] at q3
    cases oo with
    | lst _ _ => exact q3.elim
    | dct _ _ => exact q3.elim
    | ins cc fs =>
      simp only at q3
      cases ec : g.pg.cls[cc]? with
      | none => rw [ec] at q3; exact q3.elim
      | some ci =>
        rw [ec] at q3
        simp only at q3
        by_cases ha : a ∈ ci.flds ∧ fs.length < 900
        · rw [if_pos ha] at q3
          obtain ⟨b, C, dx, vs, rfl, hb, hC, fv, hH⟩ := ins_at r2 dv2 ei
          have cf := G.fac.clf cc C ci hC ec
          refine ⟨b, C, dx, vs, rfl, hH, by rw [G.K]; exact cf.cl, by rw [G.K]; exact cf.no a n ha.1 hn, ?_, ?_⟩
          · rw [← fvs_length fv]; exact Nat.lt_trans ha.2 (by decide)
          · have tk : TupK g.toGd H2 (upd H2 b (.ins C dx (putF n v vs))) := .write hH (fun _ z => nomatch z) (fun _ _ z => nomatch z)
            obtain ⟨r3, _⟩ := r2.write (o := .ins cc (putA a d fs)) (ho := .ins C dx (putF n v vs)) hb ⟨C, dx, putF n v vs, hC, (fvs_put G.fac.anNd hn (dv.mono p2 t2) fv).mono (List.prefix_refl _) tk, upd_same⟩ ei rfl
            exact (show NxP g ρ2 H2 ds (S2.set i (.ins cc (putA a d fs))) Dn.nx from q3) ρ2 _ σ (List.prefix_refl _) tk r3 (sl2.mono (List.prefix_refl _) tk)
        · rw [if_neg ha] at q3; exact q3.elim
end
end LA

/-! Soundness: o[i] = e, o.a += e, pairs, names for comprehensions, loops. -/
namespace LA
open PySem PySem.Spec PyProof.Rows L2
theorem set_any {X : Cx} (hu : X.A.units + 1 < cLine) : PSet X (fun o i v H Q => rSetL o i v H Q ∨ rSetD o i v H Q) := fun pins s σ H o i v ov iv u Q I ro ri rv h => h.elim (set_list pins s σ H o i v ov iv u Q I ro ri rv) (set_dict hu pins s σ H o i v ov iv u Q I ro ri rv)
theorem sub_plain {o i : Expr} {pos : Pos} {env : Env} (h : isSlice i = false) : ∀ v, assign (.Subscript o i pos) env v = (do
      let ov ← holding [v] (eval o env)
      let iv ← holding [v, ov] (eval i env)
      standAt pos
      holding [v, ov, iv] (setItem ov iv v)
      release [v, ov, iv] []) := by
  intro v
  cases i <;> first | rfl | exact absurd h (by simp [isSlice])
/-- a lock that is off behind a statement -/
def offD (X : Cx) (D : Ends) : Ends where
  nx := fun σ H => D.nx σ H ∨ ∃ d od u, H d = some (.frz od u) ∧ NF X d ∧ D.nx σ (upd H d u)
  rt := offE X D.rt
  bk := D.bk
  ct := D.ct
theorem ps_offD {X : Cx} {st : Stmt} {t : TS} (h : PS X st t) : PS X st (fun D σ H => t (offD X D) σ H) := by
  refine ⟨fun pins s σ H D I hw => ?_⟩
  refine thn (h.run pins s σ H _ I hw) fun f s1 q => ?_
  cases f with
  | next =>
    obtain ⟨σ1, H1, I1, q⟩ := q
    rcases q with q | ⟨d, od, u, e1, nf, q⟩
    · exact ⟨σ1, H1, I1, q⟩
    · exact ⟨σ1, _, I1.unlock e1 nf, q⟩
  | brk => exact q
  | cont => exact q
  | ret v =>
    obtain ⟨x, σ1, H1, I1, r, q⟩ := q
    rcases q with q | ⟨d, od, u, e1, nf, q⟩
    · exact ⟨x, σ1, H1, I1, r, q⟩
    · exact ⟨x, σ1, _, I1.unlock e1 nf, r, q⟩
section
variable {g : GdX} {cl : Nat → List D → M D} {W : WX} {k : Nat} {c : Cc} {X : Cx} {ρ ρ1 : List Addr} {H H1 : Hp} {S : Sto} {ds : En} {σ : L2.St} {Dn : Ends} {N : Nat}
theorem sws_sub (G : Cxt g k cl W c X) {o i e : Expr} {x y z : LA.E} {pos p1 : Pos} (ho : PE X o (rdE g cl W y)) (hi : PE X i (rdE g cl W z)) (he : PE X e (rdE g cl W x)) (hsl : isSlice i = false) (hc : isComp e = false) :
    PS X (.Assign [.Subscript o i p1] e pos) (rdS g W fun ds => evC g.pg cl N ds (.asgI y z x)) := by
  have hw : swappedStores [.Subscript o i p1] e X.env = pure none := by cases e <;> rfl
  refine PSto (ps_asg he (pg_sub ho hi (set_any (by have := G.hu; omega)) (sub_plain hsl)) (swaps_no (t := some (.Subscript o i p1)) (l := pos.line) (env := X.env) hc) hw rfl) fun Dn σ H ⟨ρ, ds, S, r, sl, q⟩ => ?_
  unfold evC at q
  refine rdE.inS r sl q fun ρ1 H1 S1 d v p1 t1 r1 dv sl1 q1 => ?_
  refine rdE.inS r1 sl1 q1 fun ρ2 H2 S2 d2 v2 p2 t2 r2 dv2 sl2 q2 => ?_
  refine rdE.inS r2 sl2 q2 fun ρ3 H3 S3 d3 v3 p3 t3 r3 dv3 sl3 q3 => ?_
  have q4 := q3.inE sl3
  have dv' := dv.mono (p2.trans p3) (t2.trans t3)
  have dv2' := dv2.mono p3 t3
  unfold setI at q4
  cases d2 <;> first | exact q4.elim | skip
  rename_i j
  simp only at q4
  cases ej : S3[j]? with
  | none => rw [ej] at q4; exact q4.elim
  | some oo =>
    rw [ej] at q4
    obtain ⟨a, rfl, ha⟩ := obj_dv dv2'
    cases oo with
    | ins _ _ => exact q4.elim
    | lst xs lk =>
      cases lk with
      | true => exact q4.elim
      | false =>
        simp only at q4
        cases d3 <;> first | exact q4.elim | skip
        rename_i n
        simp only at q4
        cases ix : LA.ixN xs.length n with
        | none => rw [ix] at q4; exact q4.elim
        | some m =>
          rw [ix] at q4
          obtain ⟨vs, dvs, hh⟩ := r3.ob j _ a ej ha
          have hh' : H3 a = some (.lst vs) := hh
          have tk : TupK g.toGd H3 (upd H3 a (.lst (vs.set m v))) := .write hh' (fun _ z => nomatch z) (fun _ _ z => nomatch z)
          obtain ⟨r4, _⟩ := r3.write (o := .lst (xs.set m d) false) (ho := .lst (vs.set m v)) ha ⟨vs.set m v, (dvs.set m dv').mono (List.prefix_refl _) tk, upd_same⟩ ej rfl
          refine .inl ⟨a, vs, n, m, rfl, int_dv dv3, hh', by rw [← dvs.length]; exact ix, ?_⟩
          exact (show NxP g ρ3 H3 ds (S3.set j (.lst (xs.set m d) false)) Dn.nx from q4) ρ3 _ σ (List.prefix_refl _) tk r4 (sl3.mono (List.prefix_refl _) tk)
    | dct kvs lk =>
      cases lk with
      | true => exact q4.elim
      | false =>
        simp only at q4
        cases ek : toKy d3 with
        | none => rw [ek] at q4; exact q4.elim
        | some ky =>
          rw [ek] at q4
          simp only at q4
          by_cases hz : kvs.length < 1000
          · rw [if_pos hz] at q4
            obtain ⟨vs, kv, hh⟩ := r3.ob j _ a ej ha
            have hh' : H3 a = some (.dK vs) := hh
            have tk : TupK g.toGd H3 (upd H3 a (.dK (L2.putK vs (kyKey ky) v))) := .write hh' (fun _ z => nomatch z) (fun _ _ z => nomatch z)
            obtain ⟨r4, _⟩ := r3.write (o := .dct (LA.putK ky d kvs) false) (ho := .dK (L2.putK vs (kyKey ky) v)) ha ⟨_, (kvs_put (ky := ky) dv' kv).mono (List.prefix_refl _) tk, upd_same⟩ ej rfl
            have hl : vs.length < sizeLine := by
              rw [← kvs_len kv, ← sizeL_eq]
              exact Nat.lt_of_lt_of_le hz (by decide)
            have pt := DPut.k (v := v) (k := kyKey ky) hh' hl
            refine .inr ⟨a, _, rfl, ?_, (show NxP g ρ3 H3 ds (S3.set j (.dct (LA.putK ky d kvs) false)) Dn.nx from q4) ρ3 _ σ (List.prefix_refl _) tk r4 (sl3.mono (List.prefix_refl _) tk)⟩
            rw [toKy_dv dv3 ek]
            exact pt
          · rw [if_neg hz] at q4; exact q4.elim
theorem sws_aug (G : Cxt g k cl W c X) {o e : Expr} {n : Str} {a : Nat} {x y : LA.E} {pos p1 : Pos} (ho : PE X o (rdE g cl W y)) (he : PE X e (rdE g cl W x)) (hn : g.an[a]? = some n) :
    PS X (.AugAssign (.Attribute o n p1) .Add e pos) (rdS g W fun ds => evC g.pg cl N ds (.augF y a x)) := PSto (ps_fldaug ho he in_add) fun Dn σ H ⟨ρ, ds, S, r, sl, q⟩ => by
  unfold evC at q
  refine rdE.inS r sl q fun ρ1 H1 S1 d v p1 t1 r1 dv sl1 q1 => ?_
  have q0 := q1.inE sl1
  unfold clsM at q0
  cases d <;> first | exact q0.elim | skip
  rename_i i
  simp only at q0
  cases ei : S1[i]? with
  | none => rw [ei] at q0; exact q0.elim
  | some oo =>
    rw [ei] at q0
    cases oo with
    | lst _ _ => exact q0.elim
    | dct _ _ => exact q0.elim
    | ins cc fs =>
      simp only at q0
      have q2 := FinP.inE sl1 (show FinP g ρ1 H1 W Dn (M.inS ds (getF g.pg (.obj i) a) (fun x1 => M.inS ds (evE g.pg cl ds x) fun y => M.inS ds (clsM (.obj i)) fun c1 => M.inS ds (addI x1 y) fun z =>
        if cc = c1 then M.inS ds (setF g.pg (.obj i) a z) fun _ => fun S => some (.nx ds, S) else fun _ => none) S1) from q0)
      unfold getF at q2
      simp only [ei] at q2
      cases ec : g.pg.cls[cc]? with
      | none => rw [ec] at q2; exact q2.elim
      | some ci =>
        rw [ec] at q2
        simp only at q2
        by_cases ha : a ∈ ci.flds
        · rw [if_pos ha] at q2
          obtain ⟨b, C, dx, vs, rfl, hb, hC, fv, hH⟩ := ins_at r1 dv ei
          have cf := G.fac.clf cc C ci hC ec
          have lv := fvs_look (an := g.an) G.fac.anNd hn fv
          cases el : lookA a fs with
          | none => rw [el] at q2; exact q2.elim
          | some w0 =>
            rw [el] at q2 lv
            obtain ⟨u, l1, l2⟩ := lv
            refine ⟨b, C, dx, vs, u, rfl, hH, by rw [G.K]; exact cf.cl, by rw [G.K]; exact cf.no a n ha hn, l1, ?_⟩
            have q3 : FinP g ρ1 H1 W Dn (M.inS ds (evE g.pg cl ds x) (fun y => M.inS ds (clsM (.obj i)) fun c1 => M.inS ds (addI w0 y) fun z =>
              if cc = c1 then M.inS ds (setF g.pg (.obj i) a z) fun _ => fun S => some (.nx ds, S) else fun _ => none) S1) := q2
            refine rdE.inS r1 sl1 q3 fun ρ2 H2 S2 y v2 p2 t2 r2 dv2 sl2 q4 => ?_
            have q5 := q4.inE sl2
            unfold clsM at q5
            simp only at q5
            cases ei2 : S2[i]? with
            | none => rw [ei2] at q5; exact q5.elim
            | some o2 =>
              rw [ei2] at q5
              cases o2 with
              | lst _ _ => exact q5.elim
              | dct _ _ => exact q5.elim
              | ins c2 fs2 =>
                have q6 := FinP.inE sl2 (show FinP g ρ2 H2 W Dn (M.inS ds (addI w0 y) (fun z => if cc = c2 then M.inS ds (setF g.pg (.obj i) a z) fun _ => fun S => some (.nx ds, S) else fun _ => none) S2) from q5)
                unfold addI at q6
                cases w0 <;> first | exact q6.elim | skip
                cases y <;> first | exact q6.elim | skip
                rename_i i1 j1
                have q7 : FinP g ρ2 H2 W Dn ((if cc = c2 then M.inS ds (setF g.pg (.obj i) a (.int (i1 + j1))) fun _ => fun S => some (.nx ds, S) else fun _ => none) S2) := q6
                by_cases hcc : cc = c2
                · subst hcc
                  rw [if_pos rfl] at q7
                  have q8 := FinP.inE sl2 q7
                  unfold setF at q8
                  simp only [ei2, ec] at q8
                  by_cases hz : a ∈ ci.flds ∧ fs2.length < 900
                  · rw [if_pos hz] at q8
                    obtain ⟨b2, C2, dx2, vs2, e2, hb2, hC2, fv2, hH2⟩ := ins_at r2 (dv.mono p2 t2) ei2
                    cases e2
                    rw [hC] at hC2
                    cases hC2
                    refine ⟨i1, j1, int_dv l2, int_dv dv2, dx2, vs2, hH2, ?_, ?_⟩
                    · rw [← fvs_length fv2]; exact Nat.lt_trans hz.2 (by decide)
                    · have tk : TupK g.toGd H2 (upd H2 b (.ins C dx2 (putF n (.int (i1 + j1)) vs2))) := .write hH2 (fun _ z => nomatch z) (fun _ _ z => nomatch z)
                      obtain ⟨r3, _⟩ := r2.write (o := .ins cc (putA a (.int (i1 + j1)) fs2)) (ho := .ins C dx2 (putF n (.int (i1 + j1)) vs2)) hb2 ⟨C, dx2, _, hC, (fvs_put G.fac.anNd hn dv_int fv2).mono (List.prefix_refl _) tk, upd_same⟩ ei2 rfl
                      exact (show NxP g ρ2 H2 ds (S2.set i (.ins cc (putA a (.int (i1 + j1)) fs2))) Dn.nx from q8) ρ2 _ σ (List.prefix_refl _) tk r3 (sl2.mono (List.prefix_refl _) tk)
                  · rw [if_neg hz] at q8; exact q8.elim
                · rw [if_neg hcc] at q7; exact q7.elim
        · rw [if_neg ha] at q2; exact q2.elim
/-! ### pairs whose stores are turned round -/
def parF (c : Cc) (line : Nat) (e : Expr) : Option Str := match e with
  | .Name id pos => if c.sc.names.lookup id == some .local && pos.line == line then some id else none
  | _ => none
theorem parN_filter (c : Cc) (line : Nat) (f : Expr → Option Str) (hf : ∀ e, f e = parF c line e) : ∀ ts : List Expr, ts.filterMap f = parN c line ts
  | [] => rfl
  | t :: ts => by
    have ih := parN_filter c line f hf ts
    rw [List.filterMap_cons, hf]
    cases t <;> first | exact ih | skip
    rename_i x p
    unfold parF parN
    by_cases hb : (c.sc.names.lookup x == some .local && p.line == line) = true
    · simp only [hb, if_true, ih]
    · have hb' := Bool.eq_false_iff.mpr hb
      simp only [hb', Bool.false_eq_true, if_false, ih]
theorem any_star (f : Expr → Bool) (hf : ∀ e, f e = isStar e) (vs : List Expr) : vs.any f = vs.any isStar := by
  rw [show f = isStar from funext hf]
theorem parK_ok (c : Cc) (env : Env) (he : env.scope = c.sc) (hf : env.scope.kind = .function) {ts vs : List Expr} {k1 k2 : Nat} {p1 p2 : Pos} {r : Option (List Str)} (h : parK c ts vs = some r) : swappedStores [.Tuple ts k1 p1] (.Tuple vs k2 p2) env = pure r := by
  have hb : env.blockKind = .function := by unfold Env.blockKind; rw [hf]; rfl
  have hk : ∀ x, env.kindOf x = c.sc.names.lookup x := fun x => by unfold Env.kindOf; rw [he]
  unfold swappedStores
  simp only [hb]
  rw [parN_filter c ((ts.head?.map (·.pos.line)).getD 0) _ (by intro e; cases e <;> first | rfl | (simp only [hk, parF]))]
  rw [any_star _ (by intro e; cases e <;> rfl)]
  unfold parK at h
  by_cases h1 : (!(ts.length == 2 || ts.length == 3) || vs.length != ts.length) = true
  · rw [if_pos h1] at h
    cases h
    simp only [h1, Bool.true_or, if_true]
  · rw [if_neg h1] at h
    have h1' := Bool.eq_false_iff.mpr h1
    simp only [h1', Bool.false_or]
    rw [if_neg (by decide)]
    by_cases h2 : vs.any isStar = true
    · rw [if_pos h2] at h
      cases h
      simp only [h2, if_true]
    · rw [if_neg h2] at h
      rw [if_neg h2]
      by_cases h3 : ((parN c ((ts.head?.map (·.pos.line)).getD 0) ts).length != ts.length || (parN c ((ts.head?.map (·.pos.line)).getD 0) ts).eraseDups.length != (parN c ((ts.head?.map (·.pos.line)).getD 0) ts).length) = true
      · rw [if_pos h3] at h ⊢
        cases h
        rfl
      · rw [if_neg h3] at h ⊢
        by_cases h4 : vs.all (foldedForSure 8) = true
        · rw [if_pos h4] at h ⊢
          cases h
          rfl
        · rw [if_neg h4] at h ⊢
          by_cases h5 : vs.all (constantsAlone 8) = true
          · rw [if_pos h5] at h
            cases h
          · rw [if_neg h5] at h ⊢
            cases h
            rfl
/-! ### names for values -/
theorem loc_par {y : Str} {p : Pos} {line : Nat} {r : List Expr} {names : List Str} (h : parN c line (.Name y p :: r) = names) (hl : names.length = r.length + 1) : c.sc.names.lookup y = some .local ∧ names = y :: parN c line r := by
  have len : ∀ l : List Expr, (parN c line l).length ≤ l.length := by
    intro l
    induction l with
    | nil => exact Nat.le_refl _
    | cons e l ih =>
      cases e <;> first | (exact Nat.le_succ_of_le ih) | skip
      rename_i x q
      unfold parN
      split
      · exact Nat.succ_le_succ ih
      · exact Nat.le_succ_of_le ih
  unfold parN at h
  split at h
  · rename_i hb
    simp only [Bool.and_eq_true, beq_iff_eq] at hb
    exact ⟨hb.1, h.symm⟩
  · have := len r
    rw [h] at this
    omega
theorem names_nodup {l : List Str} (h : l.eraseDups.length = l.length) : ∀ x y r, l = x :: y :: r → x ≠ y := by
  rintro x y r rfl e
  subst e
  have h2 : (x :: x :: r).eraseDups.length ≤ (x :: r).length := by
    rw [List.eraseDups_cons]
    have h3 : ((x :: r).filter fun b => !b == x) = r.filter fun b => !b == x := by
      rw [List.filter_cons]; simp
    rw [h3]
    have h4 : (r.filter fun b => !b == x).eraseDups.length ≤ (r.filter fun b => !b == x).length := by
      generalize (r.filter fun b => !b == x) = q
      have key : ∀ (n : Nat) (q : List Str), q.length ≤ n → q.eraseDups.length ≤ q.length := by
        intro n
        induction n with
        | zero => intro q hq; cases q with
          | nil => exact Nat.le_refl _
          | cons _ _ => simp at hq
        | succ n ih =>
          intro q hq
          cases q with
          | nil => exact Nat.le_refl _
          | cons a q =>
            rw [List.eraseDups_cons, List.length_cons, List.length_cons]
            have f1 := List.length_filter_le (fun b => !b == a) q
            have f2 := ih (q.filter fun b => !b == a) (by simp at hq; omega)
            omega
      exact key _ q (Nat.le_refl _)
    have h5 := List.length_filter_le (fun b => !b == x) r
    simp only [List.length_cons]
    omega
  rw [h] at h2
  simp only [List.length_cons] at h2
  omega
theorem Gk.kind (G : Gk g k c X) (hf : c.sc.kind = .function) : X.env.scope.kind = .function := by rw [G.sc]; exact hf
/-- two names -/
theorem sws_par2 (G : Gk g k c X) {y1 y2 : Str} {i1 i2 : Nat} {a b : Expr} {as : Es} {py1 py2 pt p2 pos : Pos} {k1 k2 : Nat} (ha : PA X [a, b] (rdEs g cl W as)) (h1 : c.loc? y1 = some i1) (h2 : c.loc? y2 = some i2)
    (l1 : c.sc.names.lookup y1 = some .local) (l2 : c.sc.names.lookup y2 = some .local) (hne : y1 ≠ y2) (hw : swappedStores [.Tuple [.Name y1 py1, .Name y2 py2] k1 pt] (.Tuple [a, b] k2 p2) X.env = pure (some [y1, y2])) :
    PS X (.Assign [.Tuple [.Name y1 py1, .Name y2 py2] k1 pt] (.Tuple [a, b] k2 p2) pos) (rdS g W fun ds => evC g.pg cl N ds (.asg (.cons (.name i1) (.cons (.name i2) .nil)) (.tup as))) := by
  obtain ⟨n1, _⟩ := Cc.loc_ok h1
  obtain ⟨n2, _⟩ := Cc.loc_ok h2
  have hi : i1 ≠ i2 := by
    rintro rfl
    rw [n1] at n2
    exact hne (Option.some.inj n2)
  refine PSto (ps_par (i := i1) (j := i2) G.calm (by rw [G.N]; exact G.nd) (by rw [G.N]; exact n1) (by rw [G.N]; exact n2) hi (by rw [G.sc]; exact l1) (by rw [G.sc]; exact l2) ha hw) fun Dn σ H ⟨ρ, ds, S, r, sl, q⟩ => ?_
  unfold evC at q
  have q0 := q.inE sl
  unfold evE at q0
  refine ⟨ρ, ds, S, r, sl, q0.bind.imp (fun xs S1 z ρ1 H1 vs p1 t1 r1 dv => ?_) fun _ _ _ z => z⟩
  have sl1 := sl.mono p1 t1
  by_cases hz : xs.length ≤ sizeL
  · rw [if_pos hz] at z
    have z1 := FinP.inE (sl.mono p1 t1) (FinP.mono (show FinP g ρ H W Dn (M.inS ds (tgM (.cons (.name i1) (.cons (.name i2) .nil)) (.tup xs) ds) (fun σ' => fun S => some (.nx σ', S)) S1) from z) p1 t1)
    unfold tgM at z1
    cases es : setTg S1 (.cons (.name i1) (.cons (.name i2) .nil)) (.tup xs) ds with
    | none => rw [es] at z1; exact z1.elim
    | some ds' =>
      rw [es] at z1
      rcases xs with _ | ⟨x1, _ | ⟨x2, _ | ⟨x3, r3⟩⟩⟩
      · simp [setTg, setTg.setTgs, seqOf] at es
      · simp only [setTg, setTg.setTgs, seqOf] at es
        by_cases g1 : i1 < ds.length
        · rw [if_pos g1] at es; cases es
        · rw [if_neg g1] at es; cases es
      · obtain ⟨v1, ws, rfl, d1, dr⟩ := dv.cons_inv
        obtain ⟨v2, ws2, rfl, d2, dr2⟩ := dr.cons_inv
        rw [dr2.nil_inv]
        refine ⟨v1, v2, rfl, ?_⟩
        simp only [setTg, setTg.setTgs, seqOf] at es
        by_cases g1 : i1 < ds.length
        · rw [if_pos g1] at es
          simp only [List.length_set] at es
          by_cases g2 : i2 < ds.length
          · rw [if_pos g2] at es
            cases es
            exact (show FinP g ρ1 H1 W Dn (some (.nx ((ds.set i1 (some x1)).set i2 (some x2)), S1)) from z1).nx r1 ((sl1.set i1 d1).set i2 d2)
          · rw [if_neg g2] at es; cases es
        · rw [if_neg g1] at es; cases es
      · simp only [setTg, setTg.setTgs, seqOf] at es
        by_cases g1 : i1 < ds.length
        · rw [if_pos g1] at es
          simp only [List.length_set] at es
          by_cases g2 : i2 < ds.length
          · rw [if_pos g2] at es
            cases es
          · rw [if_neg g2] at es; cases es
        · rw [if_neg g1] at es; cases es
  · rw [if_neg hz] at z; exact z.elim
theorem sws_par3 (G : Gk g k c X) {y1 y2 y3 : Str} {i1 i2 i3 : Nat} {a b e : Expr} {as : Es} {py1 py2 py3 pt p2 pos : Pos} {k1 k2 : Nat} (ha : PA X [a, b, e] (rdEs g cl W as)) (h1 : c.loc? y1 = some i1) (h2 : c.loc? y2 = some i2) (h3 : c.loc? y3 = some i3)
    (l1 : c.sc.names.lookup y1 = some .local) (l2 : c.sc.names.lookup y2 = some .local) (l3 : c.sc.names.lookup y3 = some .local) (n12 : y1 ≠ y2) (n13 : y1 ≠ y3) (n23 : y2 ≠ y3)
    (hw : swappedStores [.Tuple [.Name y1 py1, .Name y2 py2, .Name y3 py3] k1 pt] (.Tuple [a, b, e] k2 p2) X.env = pure (some [y1, y2, y3])) :
    PS X (.Assign [.Tuple [.Name y1 py1, .Name y2 py2, .Name y3 py3] k1 pt] (.Tuple [a, b, e] k2 p2) pos) (rdS g W fun ds => evC g.pg cl N ds (.asg (.cons (.name i1) (.cons (.name i2) (.cons (.name i3) .nil))) (.tup as))) := by
  obtain ⟨n1, _⟩ := Cc.loc_ok h1
  obtain ⟨n2, _⟩ := Cc.loc_ok h2
  obtain ⟨n3, _⟩ := Cc.loc_ok h3
  have ne : ∀ {i j : Nat} {x y : Str}, c.N[i]? = some x → c.N[j]? = some y → x ≠ y → i ≠ j := by
    rintro i j x y e1 e2 h rfl
    rw [e1] at e2
    exact h (Option.some.inj e2)
  refine PSto (ps_par3 (i := i1) (j := i2) (l := i3) G.calm (by rw [G.N]; exact G.nd) (by rw [G.N]; exact n1) (by rw [G.N]; exact n2) (by rw [G.N]; exact n3) (ne n1 n2 n12) (ne n1 n3 n13) (ne n2 n3 n23) (by rw [G.sc]; exact l1) (by rw [G.sc]; exact l2) (by rw [G.sc]; exact l3) ha hw) fun Dn σ H ⟨ρ, ds, S, r, sl, q⟩ => ?_
  unfold evC at q
  have q0 := q.inE sl
  unfold evE at q0
  refine ⟨ρ, ds, S, r, sl, q0.bind.imp (fun xs S1 z ρ1 H1 vs p1 t1 r1 dv => ?_) fun _ _ _ z => z⟩
  have sl1 := sl.mono p1 t1
  by_cases hz : xs.length ≤ sizeL
  · rw [if_pos hz] at z
    have z1 := FinP.inE (sl.mono p1 t1) (FinP.mono (show FinP g ρ H W Dn (M.inS ds (tgM (.cons (.name i1) (.cons (.name i2) (.cons (.name i3) .nil))) (.tup xs) ds) (fun σ' => fun S => some (.nx σ', S)) S1) from z) p1 t1)
    unfold tgM at z1
    cases es : setTg S1 (.cons (.name i1) (.cons (.name i2) (.cons (.name i3) .nil))) (.tup xs) ds with
    | none => rw [es] at z1; exact z1.elim
    | some ds' =>
      rw [es] at z1
      rcases xs with _ | ⟨x1, _ | ⟨x2, _ | ⟨x3, _ | ⟨x4, r4⟩⟩⟩⟩
      · simp [setTg, setTg.setTgs, seqOf] at es
      · simp only [setTg, setTg.setTgs, seqOf] at es
        by_cases g1 : i1 < ds.length
        · rw [if_pos g1] at es; cases es
        · rw [if_neg g1] at es; cases es
      · simp only [setTg, setTg.setTgs, seqOf] at es
        by_cases g1 : i1 < ds.length
        · rw [if_pos g1] at es
          simp only [List.length_set] at es
          by_cases g2 : i2 < ds.length
          · rw [if_pos g2] at es; cases es
          · rw [if_neg g2] at es; cases es
        · rw [if_neg g1] at es; cases es
      · obtain ⟨v1, ws, rfl, d1, dr⟩ := dv.cons_inv
        obtain ⟨v2, ws2, rfl, d2, dr2⟩ := dr.cons_inv
        obtain ⟨v3, ws3, rfl, d3, dr3⟩ := dr2.cons_inv
        rw [dr3.nil_inv]
        refine ⟨v1, v2, v3, rfl, ?_⟩
        simp only [setTg, setTg.setTgs, seqOf] at es
        by_cases g1 : i1 < ds.length
        · rw [if_pos g1] at es
          simp only [List.length_set] at es
          by_cases g2 : i2 < ds.length
          · rw [if_pos g2] at es
            simp only [List.length_set] at es
            by_cases g3 : i3 < ds.length
            · rw [if_pos g3] at es
              cases es
              exact (show FinP g ρ1 H1 W Dn (some (.nx (((ds.set i1 (some x1)).set i2 (some x2)).set i3 (some x3)), S1)) from z1).nx r1 (((sl1.set i1 d1).set i2 d2).set i3 d3)
            · rw [if_neg g3] at es; cases es
          · rw [if_neg g2] at es; cases es
        · rw [if_neg g1] at es; cases es
      · simp only [setTg, setTg.setTgs, seqOf] at es
        by_cases g1 : i1 < ds.length
        · rw [if_pos g1] at es
          simp only [List.length_set] at es
          by_cases g2 : i2 < ds.length
          · rw [if_pos g2] at es
            simp only [List.length_set] at es
            by_cases g3 : i3 < ds.length
            · rw [if_pos g3] at es; cases es
            · rw [if_neg g3] at es; cases es
          · rw [if_neg g2] at es; cases es
        · rw [if_neg g1] at es; cases es
  · rw [if_neg hz] at z; exact z.elim
end
end LA

/-! Soundness: names for comprehensions; for, while. -/
namespace LA
open PySem PySem.Spec PyProof.Rows L2
section
variable {g : GdX} {cl : Nat → List D → M D} {W : WX} {k : Nat} {c : Cc} {X : Cx} {ρ ρ1 : List Addr} {H H1 : Hp} {S : Sto} {ds : En} {σ : L2.St} {Dn : Ends} {N : Nat}
/-- is the name stored by the comprehension itself? -/
def swC (c : Cc) (y : Str) (py : Pos) (scope : Scope) (pos : Pos) : Bool := c.sc.names.lookup y == some .local && py.line == pos.line && !(scope.names.any fun (n, k) => n == y && (k == .local || k == .cell))
theorem swC_lc (G : Gk g k c X) (hf : c.sc.kind = .function) {elt : Expr} {gs : List Comprehension} {scope : Scope} {pos py : Pos} {y : Str} {l : Nat} : swapsWith (.ListComp elt gs scope pos) (some (.Name y py)) l X.env = pure (swC c y py scope pos) := by
  have hb : X.env.blockKind = .function := by unfold Env.blockKind; rw [G.kind hf]; rfl
  have hk : X.env.kindOf y = c.sc.names.lookup y := by unfold Env.kindOf; rw [G.sc]
  unfold swapsWith swC
  simp only [hb, hk]
  rfl
theorem asg_name {x : LA.E} {i : Nat} (r : Rel g.toGd ρ S H) (sl : SlR g.toGd ρ H ds σ) (q : FinP g ρ H W Dn (evC g.pg cl N ds (.asg (.name i) x) S)) : rdE g cl W x σ H (fun v H1 => Dn.nx (σ.set i (some v)) H1) := by
  unfold evC at q
  refine rdE.inS r sl q fun ρ1 H1 S1 d v p1 t1 r1 dv sl1 q1 => ?_
  have q2 := q1.inE sl1
  unfold tgM setTg at q2
  by_cases hlt : i < ds.length
  · rw [if_pos hlt] at q2
    exact (show FinP g ρ1 H1 W Dn (some (.nx (ds.set i (some d)), S1)) from q2).nx r1 (sl1.set i dv)
  · rw [if_neg hlt] at q2; exact q2.elim
section
variable {elt tg iter tg2 iter2 : Expr} {ifs : List Expr} {scope : Scope} {own : List (Str × Nat)} {pos spos py : Pos} {x f : LA.E} {t t2 : Tg} {it it2 : LA.I} {n : Nat} {y : Str} {i : Nat}
theorem sws_setLc (G : Cxt g k cl W c X) (hfn : c.sc.kind = .function) (hy : c.loc? y = some i) (hsw : swC c y py scope pos = true) (hi : PI X tg iter (rdI X g cl W it)) (ok : blkC c.N c.sc scope own = true) (ht : compTg (c.blk scope) n tg = some t) (hto : tgOk (locOk scope) n tg = true) (hix : ∀ i ∈ tgIx t, i ∈ own.map (·.2))
    (hf : InB X scope fun Y => PTs Y ifs (rdT g cl Wn f)) (he : InB X scope fun Y => PE Y elt (rdE g cl Wn x)) (hs : isSet iter = false) :
    PS X (.Assign [.Name y py] (.ListComp elt [⟨tg, iter, ifs, 0⟩] scope pos) spos) (rdS g W fun ds => evC g.pg cl N ds (.asg (.name i) (.lc x t it f (own.map (·.2))))) := by
  obtain ⟨h1, _⟩ := Cc.loc_ok hy
  have hl : c.sc.names.lookup y = some .local := by
    unfold swC at hsw
    simp only [Bool.and_eq_true, beq_iff_eq] at hsw
    exact hsw.1.1
  refine PSto (ps_offD (ps_setLc (i := i) G.calm (by rw [G.N]; exact G.nd) (by rw [G.N]; exact h1) (by rw [G.sc]; exact hl) (by rw [swC_lc G.toGk hfn, hsw]) hi (by rw [G.N, G.sc]; exact blkOk_by ok)
    (fun s H C cs fp => snd_tg (G.blk s H scope C cs fp).toGk (blk_st s H scope C cs fp) n tg t ht hto) hf he (folded_no hs))) fun Dn σ H ⟨ρ, ds, S, r, sl, q⟩ => ?_
  exact lc_rd hix (asg_name r sl q)
theorem sws_setLc2 (G : Cxt g k cl W c X) (hfn : c.sc.kind = .function) (hy : c.loc? y = some i) (hsw : swC c y py scope pos = true) (hi : PI X tg iter (rdI X g cl W it)) (ok : blkC c.N c.sc scope own = true) (ht : compTg (c.blk scope) n tg = some t) (hto : tgOk (locOk scope) n tg = true) (hix : ∀ i ∈ tgIx t, i ∈ own.map (·.2))
    (hi2 : InB X scope fun Y => PI Y tg2 iter2 (rdI Y g cl Wn it2)) (ht2 : compTg (c.blk scope) n tg2 = some t2) (hto2 : tgOk (locOk scope) n tg2 = true) (hix2 : ∀ i ∈ tgIx t2, i ∈ own.map (·.2))
    (he : InB X scope fun Y => PE Y elt (rdE g cl Wn x)) (hs : isSet iter = false) (hs2 : isSet iter2 = false) :
    PS X (.Assign [.Name y py] (.ListComp elt [⟨tg, iter, [], 0⟩, ⟨tg2, iter2, [], 0⟩] scope pos) spos) (rdS g W fun ds => evC g.pg cl N ds (.asg (.name i) (.lc2 x t it t2 it2 (own.map (·.2)) (tgIx t2)))) := by
  obtain ⟨h1, _⟩ := Cc.loc_ok hy
  have hl : c.sc.names.lookup y = some .local := by
    unfold swC at hsw
    simp only [Bool.and_eq_true, beq_iff_eq] at hsw
    exact hsw.1.1
  refine PSto (ps_offD (ps_setLc2 (i := i) G.calm (by rw [G.N]; exact G.nd) (by rw [G.N]; exact h1) (by rw [G.sc]; exact hl) (by rw [swC_lc G.toGk hfn, hsw]) hi (by rw [G.N, G.sc]; exact blkOk_by ok) hix2
    (fun s H C cs fp => snd_tg (G.blk s H scope C cs fp).toGk (blk_st s H scope C cs fp) n tg t ht hto) (fun _ _ _ _ _ => pts_nil) (fun s H C cs fp => pi_0 (hi2 s H C cs fp))
    (fun s H C cs fp => snd_tg (G.blk s H scope C cs fp).toGk (blk_st s H scope C cs fp) n tg2 t2 ht2 hto2) (fun _ _ _ _ _ => pts_nil) he (folded_no hs) (fun _ => folded_no hs2))) fun Dn σ H ⟨ρ, ds, S, r, sl, q⟩ => ?_
  exact lc2_rd hix (fun _ z => z) (asg_name r sl q)
end
/-! ### while -/
theorem FinP.inE2 {α : Type} {m : M α} {f : α → SM} {σ1 : L2.St} {ds1 : En} {S1 : Sto} (p : ρ <+: ρ1) (t : TupK g.toGd H H1) (sl : SlR g.toGd ρ1 H1 ds1 σ1) (h : FinP g ρ H W Dn (M.inS ds1 m f S1)) :
    MPost (m S1) (fun a S1 => FinP g ρ H W Dn (f a S1)) (fun c fs S1 => PostX g ρ1 H1 c fs S1 fun cls dd H1 => W cls dd σ1 H1) :=
  (SPost.inS h).imp (fun _ _ z => z) fun _ _ _ z => (ExP.mono z p t).pe sl
theorem sws_whl (hp : PassesOwn (model X.prog X.w) X.A X.env X.xe) {t : Expr} {body : List Stmt} {x : LA.E} {b : Cs} {pos : Pos} (ht : PT X t (rdT g cl W x)) (hb : PSs X body (rdS g W fun ds => evCs g.pg cl N ds b)) :
    PS X (.While t body [] pos) (rdS g W fun ds => evC g.pg cl N ds (.whl x b)) := by
  refine PSto (ps_while hp ht hb) fun Dn σ H ⟨ρ, ds, S, r, sl, q⟩ => ?_
  unfold evC at q
  refine ⟨fun m σ1 H1 => ∃ ρ1 ds1 S1, ρ <+: ρ1 ∧ TupK g.toGd H H1 ∧ Rel g.toGd ρ1 S1 H1 ∧ SlR g.toGd ρ1 H1 ds1 σ1 ∧ FinP g ρ H W Dn (whileI (fun σ => M.bind (evE g.pg cl σ x) truthM) (fun σ => evCs g.pg cl N σ b) m ds1 S1), ⟨N, ρ, ds, S, List.prefix_refl _, .refl, r, sl, q⟩, ?_⟩
  rintro m σ1 H1 ⟨ρ1, ds1, S1, p1, t1, r1, sl1, q1⟩
  cases m with
  | zero => exact q1.elim
  | succ m =>
    unfold whileI at q1
    have q3 := q1.inE2 p1 t1 sl1
    refine ⟨ρ1, ds1, S1, r1, sl1, q3.imp (fun bb S2 z ρ2 H2 p2 t2 r2 => ?_) fun _ _ _ z => z⟩
    have sl2 := sl1.mono p2 t2
    cases bb with
    | false => exact (FinP.mono (show FinP g ρ H W Dn (some (.nx ds1, S2)) from z) (p1.trans p2) (t1.trans t2)).nx r2 sl2
    | true =>
      simp only [if_true] at z ⊢
      refine ⟨fun σ3 H3 => ∃ ρ3 ds3 S3, ρ <+: ρ3 ∧ TupK g.toGd H H3 ∧ Rel g.toGd ρ3 S3 H3 ∧ SlR g.toGd ρ3 H3 ds3 σ3 ∧ FinP g ρ H W Dn (whileI (fun σ => M.bind (evE g.pg cl σ x) truthM) (fun σ => evCs g.pg cl N σ b) m ds3 S3), fun σ3 H3 hh => ⟨m, Nat.lt_succ_self _, hh⟩, ?_⟩
      refine ⟨ρ2, ds1, S2, r2, sl2, (SPost.bind z).imp (fun ds3 S3 z3 ρ3 H3 σ3 p3 t3 r3 sl3 => ?_) (fun d S3 z3 => PostV.mono z3 (p1.trans p2) (t1.trans t2)) fun _ _ _ _ z3 => ExP.mono z3 (p1.trans p2) (t1.trans t2)⟩
      exact ⟨ρ3, ds3, S3, (p1.trans p2).trans p3, (t1.trans t2).trans t3, r3, sl3, z3⟩
/-! ### for -/
theorem sqt_unlock {K : PySem.W.Frag} {H2 : Hp} {a : Addr} {od : Obj} {vs : List (Key × V)} (hp : H2 a = some (.frz od (.dK vs))) : ∀ b xs, SqT K H2 b xs → SqT K (upd H2 a (.dK vs)) b xs := fun b xs q => by
  rcases q with q | q
  · have ne : b ≠ a := by
      rintro rfl
      rcases q with q | ⟨_, q⟩ <;> rw [hp] at q <;> injection q with q
      · cases q
      · injection q with _ q; cases q
    exact .inl (by
      rcases q with q | ⟨ob, q⟩
      · exact .inl ((upd_ne ne).trans q)
      · exact .inr ⟨ob, (upd_ne ne).trans q⟩)
  · exact .inr q
theorem DV.unlock {ρ2 : List Addr} {H2 : Hp} {a : Addr} {od : Obj} {vs : List (Key × V)} {d : D} {v : V} (h : DV g.toGd ρ2 H2 d v) (hp : H2 a = some (.frz od (.dK vs))) : DV g.toGd ρ2 (upd H2 a (.dK vs)) d v := h.monoT (List.prefix_refl _) (sqt_unlock hp)
theorem SlR.unlock {ρ2 : List Addr} {H2 : Hp} {a : Addr} {od : Obj} {vs : List (Key × V)} {ds : En} {σ : L2.St} (h : SlR g.toGd ρ2 H2 ds σ) (hp : H2 a = some (.frz od (.dK vs))) : SlR g.toGd ρ2 (upd H2 a (.dK vs)) ds σ :=
  ⟨h.len, fun i d e => let ⟨v, a1, b1⟩ := h.at_ i d e; ⟨v, a1, DV.unlock b1 hp⟩⟩
/-- what follows a loop: the lock is taken off -/
def forE (lk : Option Nat) (r : Option (Fl × Sto)) : Option (Fl × Sto) := match lk with
  | none => r
  | some i => match r with
    | some (.nx σ', S') => (match lockD i false S' with
      | some (.ok _, S'') => some (.nx σ', S'')
      | _ => none)
    | some (.rt d, S') => (match lockD i false S' with
      | some (.ok _, S'') => some (.rt d, S'')
      | _ => none)
    | r => r
theorem lock_off {ρ2 : List Addr} {H2 : Hp} {S2 : Sto} {i : Nat} {kvs : List (Ky × D)} {a : Addr} {od : Obj} {vs : List (Key × V)} (r2 : Rel g.toGd ρ2 S2 H2) (ha : ρ2[i]? = some a) (hf : H2 a = some (.frz od (.dK vs))) (e : S2[i]? = some (.dct kvs true)) : Rel g.toGd ρ2 (S2.set i (.dct kvs false)) (upd H2 a (.dK vs)) := r2.unlock ha e hf
theorem lockD_off {i : Nat} {S2 S3 : Sto} {u : Unit} (h : lockD i false S2 = some (.ok u, S3)) : ∃ kvs, S2[i]? = some (.dct kvs true) ∧ S3 = S2.set i (.dct kvs false) := by
  unfold lockD at h
  cases e : S2[i]? with
  | none => rw [e] at h; cases h
  | some o =>
    rw [e] at h
    cases o with
    | lst _ _ => cases h
    | ins _ _ => cases h
    | dct kvs b =>
      simp only at h
      cases b with
      | false => rw [if_pos rfl] at h; cases h
      | true =>
        rw [if_neg (by decide)] at h
        cases h
        exact ⟨kvs, rfl, rfl⟩
/-- the end of a loop on its way on, and by a return; what leaves it otherwise -/
theorem forE_inv {lk : Option Nat} {ρ1 : List Addr} {H1 : Hp} {r : Option (Fl × Sto)} (p1 : ρ <+: ρ1) (t1 : TupK g.toGd H H1) (l : LkR X g H ρ1 H1 lk) (q : FinP g ρ H W Dn (forE lk r)) :
    SPost r (fun ds2 S2 => NxP g ρ1 H1 ds2 S2 (offD X Dn).nx) (fun d S2 => PostV g ρ1 H1 d S2 (offD X Dn).rt) (fun c fs ds S => ExP g ρ1 H1 c fs ds S W) := by
  cases lk with
  | none =>
    refine SPost.imp (FinP.mono q p1 t1) (fun ds2 S2 z ρ2 H2 σ2 a b rr sl => .inl (z ρ2 H2 σ2 a b rr sl)) (fun d S2 z ρ2 H2 v a b rr dv => .inl (z ρ2 H2 v a b rr dv)) fun _ _ _ _ z => z
  | some i =>
    obtain ⟨a, od, vs, h1, h2, nf, un⟩ := l
    cases r with
    | none => exact q.elim
    | some rr =>
      obtain ⟨fl, S2⟩ := rr
      cases fl with
      | ex cc fs ds2 => exact ExP.mono (show ExP g ρ H cc fs ds2 S2 W from q) p1 t1
      | nx ds2 =>
        unfold forE at q
        simp only at q
        cases e : lockD i false S2 with
        | none => rw [e] at q; exact q.elim
        | some ss =>
          obtain ⟨s0, S3⟩ := ss
          rw [e] at q
          cases s0 with
          | ex _ _ => exact q.elim
          | ok u =>
            obtain ⟨kvs, e1, rfl⟩ := lockD_off e
            intro ρ2 H2 σ2 p2 t2 r2 sl2
            have ha := pre_get p2 h1
            have hf := t2.frz a od _ h2
            have tk : TupK g.toGd H (upd H2 a (.dK vs)) := un H2 t2
            refine .inr ⟨a, od, _, hf, nf, ?_⟩
            exact (show NxP g ρ H ds2 (S2.set i (.dct kvs false)) Dn.nx from q) ρ2 _ σ2 (p1.trans p2) tk (r2.unlock ha e1 hf) (SlR.unlock sl2 hf)
      | rt d =>
        unfold forE at q
        simp only at q
        cases e : lockD i false S2 with
        | none => rw [e] at q; exact q.elim
        | some ss =>
          obtain ⟨s0, S3⟩ := ss
          rw [e] at q
          cases s0 with
          | ex _ _ => exact q.elim
          | ok u =>
            obtain ⟨kvs, e1, rfl⟩ := lockD_off e
            intro ρ2 H2 v p2 t2 r2 dv2
            have ha := pre_get p2 h1
            have hf := t2.frz a od _ h2
            have tk : TupK g.toGd H (upd H2 a (.dK vs)) := un H2 t2
            refine .inr ⟨a, od, _, hf, nf, ?_⟩
            exact (show PostV g ρ H d (S2.set i (.dct kvs false)) Dn.rt from q) ρ2 _ v (p1.trans p2) tk (r2.unlock ha e1 hf) (DV.unlock dv2 hf)
theorem for_eq {t : Tg} {it : LA.I} {b : Cs} {w : Wk × Option Nat} {S1 : Sto} : (match w.2 with
    | none => loopI w.1 (fun d σ => M.inS σ (tgM t d σ) fun σ' => evCs g.pg cl N σ' b) w.1.len 0 ds
    | some i => fun S => match loopI w.1 (fun d σ => M.inS σ (tgM t d σ) fun σ' => evCs g.pg cl N σ' b) w.1.len 0 ds S with
      | some (.nx σ', S') => (match lockD i false S' with
        | some (.ok _, S'') => some (.nx σ', S'')
        | _ => none)
      | some (.rt d, S') => (match lockD i false S' with
        | some (.ok _, S'') => some (.rt d, S'')
        | _ => none)
      | r => r : SM) S1 = forE w.2 (loopI w.1 (fun d σ => M.inS σ (tgM t d σ) fun σ' => evCs g.pg cl N σ' b) w.1.len 0 ds S1) := by
  cases w.2 with
  | none => rfl
  | some i =>
    unfold forE
    simp only
theorem sws_for (G : Cxt g k cl W c X) (hp : PassesOwn (model X.prog X.w) X.A X.env X.xe) {tg e : Expr} {body : List Stmt} {t : Tg} {it : LA.I} {b : Cs} {pos : Pos} (hi : PI X tg e (rdI X g cl W it)) (hg : PG X tg (rdG g t)) (hb : PSs X body (rdS g W fun ds => evCs g.pg cl N ds b)) (hs : isSet e = false) :
    PS X (.For tg e body [] pos) (rdS g W fun ds => evC g.pg cl N ds (.for_ t it b)) := by
  refine PSto (ps_offD (ps_for hp G.calm hi hg hb (folded_no hs))) fun Dn σ H ⟨ρ, ds, S, r, sl, q⟩ => ?_
  unfold evC at q
  refine ⟨ρ, ds, S, r, sl, (q.inE sl).imp (fun w S1 z => ?_) fun _ _ _ z => z⟩
  intro ρ1 H1 J p1 t1 r1 itr lk
  have z1 : FinP g ρ H W Dn (forE w.2 (loopI w.1 (fun d σ => M.inS σ (tgM t d σ) fun σ' => evCs g.pg cl N σ' b) w.1.len 0 ds S1)) := for_eq (g := g) (cl := cl) (N := N) (t := t) (it := it) (b := b) (w := w) (ds := ds) (S1 := S1) ▸ z
  have z2 := forE_inv (X := X) p1 t1 lk z1
  have sl1 := sl.mono p1 t1
  refine ⟨fun i m σ2 H2 => ∃ ρ2 ds2 S2, ρ1 <+: ρ2 ∧ TupK g.toGd H1 H2 ∧ Rel g.toGd ρ2 S2 H2 ∧ SlR g.toGd ρ2 H2 ds2 σ2 ∧ FinP g ρ1 H1 W (offD X Dn) (loopI w.1 (fun d σ => M.inS σ (tgM t d σ) fun σ' => evCs g.pg cl N σ' b) m i ds2 S2),
    ⟨w.1.len, ρ1, ds, S1, List.prefix_refl _, .refl, r1, sl1, z2⟩, ?_⟩
  rintro i m σ2 H2 ⟨ρ2, ds2, S2, p2, t2, r2, sl2, q2⟩
  cases m with
  | zero =>
    left
    unfold loopI at q2
    cases eg : w.1.get S2 i with
    | none => simp only [eg] at q2; exact q2.elim
    | some o =>
      cases o with
      | some _ => simp only [eg] at q2; exact q2.elim
      | none =>
        simp only [eg] at q2
        exact ⟨itr.stop ρ2 S2 H2 i p2 t2 r2 eg, (FinP.mono q2 p2 t2).nx r2 sl2⟩
  | succ m =>
    right
    unfold loopI at q2
    cases eg : w.1.get S2 i with
    | none => simp only [eg] at q2; exact q2.elim
    | some o =>
      cases o with
      | none => simp only [eg] at q2; exact q2.elim
      | some d =>
        simp only [eg] at q2
        have q3 : SPost (M.inS ds2 (tgM t d ds2) (fun σ' => evCs g.pg cl N σ' b) S2) (fun ds3 S3 => FinP g ρ1 H1 W (offD X Dn) (loopI w.1 (fun d σ => M.inS σ (tgM t d σ) fun σ' => evCs g.pg cl N σ' b) m (i + 1) ds3 S3)) (fun d S => PostV g ρ1 H1 d S (offD X Dn).rt) (fun c fs ds S => ExP g ρ1 H1 c fs ds S W) := SPost.bind q2
        refine ⟨itr.go ρ2 S2 H2 i d p2 t2 r2 eg, fun σ3 H3 => ∃ ρ3 ds3 S3, ρ1 <+: ρ3 ∧ TupK g.toGd H1 H3 ∧ Rel g.toGd ρ3 S3 H3 ∧ SlR g.toGd ρ3 H3 ds3 σ3 ∧ FinP g ρ1 H1 W (offD X Dn) (loopI w.1 (fun d σ => M.inS σ (tgM t d σ) fun σ' => evCs g.pg cl N σ' b) m (i + 1) ds3 S3), fun σ3 H3 hh => ⟨m, Nat.lt_succ_self _, hh⟩, fun u H3 y => ?_⟩
        obtain ⟨r3, t3, dv3⟩ := itr.yld ρ2 S2 H2 i d u H3 p2 t2 r2 eg y
        have sl3 := sl2.mono (List.prefix_refl _) t3
        have q4 := SPost.inS q3
        unfold tgM at q4
        cases es : setTg S2 t d ds2 with
        | none => rw [es] at q4; exact q4.elim
        | some ds3 =>
          rw [es] at q4
          refine ⟨ρ2, S2, d, ds2, ds3, r3, dv3, sl3, es, fun σ4 sl4 _ => ?_⟩
          have q5 : SPost (evCs g.pg cl N ds3 b S2) _ _ _ := q4
          refine ⟨ρ2, ds3, S2, r3, sl4, SPost.imp q5 (fun ds5 S5 z5 ρ5 H5 σ5 p5 t5 r5 sl5 => ?_) (fun d5 S5 z5 => ?_) fun _ _ _ _ z5 => ExP.mono z5 p2 (t2.trans t3)⟩
          · exact ⟨ρ5, ds5, S5, p2.trans p5, t2.trans (t3.trans t5), r5, sl5, z5⟩
          · exact PostV.mono z5 p2 (t2.trans t3)
end
end LA

/-! Soundness: every expression that is compiled. -/
namespace LA
open PySem PySem.Spec PyProof.Rows L2
section
variable {g : GdX} {cl : Nat → List D → M D} {W : WX} {k : Nat} {c : Cc} {X : Cx}
theorem snd_iteT {t a b : Expr} {x y z : LA.E} {pos : Pos} (ht : PT X t (rdT g cl W x)) (ha : PT X a (rdT g cl W y)) (hb : PT X b (rdT g cl W z)) : PT X (.IfExp t a b pos) (rdT g cl W (.ite x y z)) := by
  refine ⟨fun pins s σ H Q I h => ?_⟩
  obtain ⟨ρ, ds, S, r, sl, q⟩ := h
  have q1 : MPost (M.bind (evE g.pg cl ds x) (fun c => M.bind (truthM c) fun t => M.bind (if t then evE g.pg cl ds y else evE g.pg cl ds z) truthM) S) (fun b S' => ∀ ρ' H', ρ <+: ρ' → TupK g.toGd H H' → Rel g.toGd ρ' S' H' → Q b H') (fun c fs S' => PostX g ρ H c fs S' fun cls dd H' => W cls dd σ H') := by
    have e : M.bind (evE g.pg cl ds (.ite x y z)) truthM S = M.bind (evE g.pg cl ds x) (fun c => M.bind (truthM c) fun t => M.bind (if t then evE g.pg cl ds y else evE g.pg cl ds z) truthM) S := by
      rw [evE, assoc_bind]
      congr 1
      funext d S1
      rw [assoc_bind]
    rw [← e]
    exact q
  refine PyProof.Rows.isTrue_IfExp (thn (ht.run pins s σ H (fun b H1 => if b then rdT g cl W y σ H1 Q else rdT g cl W z σ H1 Q) I ?_) fun b s1 ⟨H1, I1, q2⟩ => ?_)
  · refine rdT.bind r sl q1 fun ρ1 H1 S1 b p1 t1 r1 sl1 q2 => ?_
    cases b with
    | true => exact ⟨ρ1, ds, S1, r1, sl1, q2.imp (fun b S' w ρ' H' a1 a2 a3 => w ρ' H' (p1.trans a1) (t1.trans a2) a3) fun _ _ _ w => w⟩
    | false => exact ⟨ρ1, ds, S1, r1, sl1, q2.imp (fun b S' w ρ' H' a1 a2 a3 => w ρ' H' (p1.trans a1) (t1.trans a2) a3) fun _ _ _ w => w⟩
  · cases b with
    | true => exact ha.run pins s1 σ H1 Q I1 q2
    | false => exact hb.run pins s1 σ H1 Q I1 q2
def isBoolOp : Expr → Bool
  | .BoolOp _ _ _ => true
  | _ => false
variable (g cl k)
def SE (n : Nat) : Prop := ∀ (c : Cc) (W : WX) (X : Cx), Cxt g k cl W c X → Room (k + 1) X.A → ∀ e x, compE c n e = some x → PE X e (rdE g cl W x) ∧ PT X e (rdT g cl W x) ∧ (isBoolOp e = true → PW X e (rdT g cl W x))
def SEs (n : Nat) : Prop := ∀ (c : Cc) (W : WX) (X : Cx), Cxt g k cl W c X → Room (k + 1) X.A → ∀ es as, compEs c n es = some as → PA X es (rdEs g cl W as) ∧ (es = [] → as = .nil)
def SKs (n : Nat) : Prop := ∀ (c : Cc) (W : WX) (X : Cx), Cxt g k cl W c X → Room (k + 1) X.A → ∀ ks vs as (pos : Pos), compKs c n ks vs = some as →
  PPs X pos ks vs ((pairEs as).map fun p => (rdE g cl W p.1, rdE g cl W p.2)) ∧ evenEs as = true ∧ ks.all (·.isSome) = true ∧ ks.length = vs.length ∧ (ks = [] → vs = [] ∧ as = .nil)
def SO (n : Nat) : Prop := ∀ (c : Cc) (W : WX) (X : Cx), Cxt g k cl W c X → Room (k + 1) X.A → ∀ o x, compO c n o = some x → PO X o (rdO g cl W x)
def SFs (n : Nat) : Prop := ∀ (c : Cc) (W : WX) (X : Cx), Cxt g k cl W c X → Room (k + 1) X.A → ∀ es as, compFs c n es = some as → PJ X es (tsOf g cl W as) ∧ plainEs as = true
def SI (n : Nat) : Prop := ∀ (c : Cc) (W : WX) (X : Cx), Cxt g k cl W c X → Room (k + 1) X.A → ∀ tg e i, compI c n e = some i → tgFit tg i = true → PI X tg e (rdI X g cl W i)
variable {g cl k}
theorem star_comp {c : Cc} {n : Nat} {e : Expr} {x : LA.E} (h : compE c n e = some x) : isStar e = false := by
  cases e <;> first | rfl | (cases n <;> cases h)
theorem slice_comp {c : Cc} {n : Nat} {e : Expr} {x : LA.E} (h : compE c n e = some x) : isSlice e = false := by
  cases e <;> first | rfl | (cases n <;> cases h)
theorem set_comp {c : Cc} {n : Nat} {e : Expr} {x : LA.E} (h : compE c n e = some x) : isSet e = false := by
  cases e <;> first | rfl | (cases n <;> cases h)
theorem stepEs {n : Nat} (hE : SE g cl k n) (hEs : SEs g cl k n) : SEs g cl k (n + 1) := by
  intro c W X G hr es as h
  cases es with
  | nil => cases h; exact ⟨snd_nil, fun _ => rfl⟩
  | cons e r =>
    refine ⟨?_, fun z => nomatch z⟩
    unfold compEs at h
    split at h
    · rename_i e1 p1
      cases h1 : compE c n e1 with
      | none => rw [h1] at h; cases h
      | some x =>
        cases h2 : compEs c n r with
        | none => rw [h1, h2] at h; cases h
        | some as' =>
          rw [h1, h2] at h
          cases h
          exact snd_star G.toGk (hE c W X G hr e1 x h1).1 (hEs c W X G hr r as' h2).1
    · cases h1 : compE c n e with
      | none => rw [h1] at h; cases h
      | some x =>
        cases h2 : compEs c n r with
        | none => rw [h1, h2] at h; cases h
        | some as' =>
          rw [h1, h2] at h
          cases h
          exact snd_cons (hE c W X G hr e x h1).1 (hEs c W X G hr r as' h2).1 (star_comp h1)
theorem stepKs {n : Nat} (hE : SE g cl k n) (hKs : SKs g cl k n) : SKs g cl k (n + 1) := by
  intro c W X G hr ks vs as pos h
  unfold compKs at h
  split at h
  · rename_i e; cases e
  · cases h; exact ⟨pps_nil, rfl, rfl, rfl, fun _ => ⟨rfl, rfl⟩⟩
  · rename_i n' kx ks' vx vs' e
    cases e
    cases h1 : compE c n kx with
    | none => rw [h1] at h; cases h
    | some x =>
      cases h2 : compE c n vx with
      | none => rw [h1, h2] at h; cases h
      | some y =>
        cases h3 : compKs c n ks' vs' with
        | none => rw [h1, h2, h3] at h; cases h
        | some r =>
          rw [h1, h2, h3] at h
          cases h
          obtain ⟨q1, q2, q3, q4, q5⟩ := hKs c W X G hr ks' vs' r pos h3
          refine ⟨pps_cons (hE c W X G hr kx x h1).1 (hE c W X G hr vx y h2).1 q1, ?_, ?_, by simp [q4], fun z => nomatch z⟩
          · show (!false && !false && evenEs r) = true
            rw [q2]; rfl
          · simpa using q3
  · cases h
theorem stepO {n : Nat} (hE : SE g cl k n) : SO g cl k (n + 1) := by
  intro c W X G hr o x h
  cases o with
  | none => cases h; exact snd_onone
  | some e =>
    unfold compO at h
    cases h1 : compE c n e with
    | none => rw [h1] at h; cases h
    | some y =>
      rw [h1] at h
      cases h
      exact snd_osome (hE c W X G hr e y h1).1
theorem stepFs {n : Nat} (hE : SE g cl k n) (hFs : SFs g cl k n) : SFs g cl k (n + 1) := by
  intro c W X G hr es as h
  cases es with
  | nil => cases h; exact ⟨.nil, rfl⟩
  | cons e r =>
    unfold compFs at h
    split at h
    · cases h2 : compFs c n r with
      | none => rw [h2] at h; cases h
      | some as' =>
        rw [h2] at h
        cases h
        obtain ⟨q1, q2⟩ := hFs c W X G hr r as' h2
        exact ⟨.cons snd_text q1, q2⟩
    · split at h
      · rename_i v cv p hc
        subst hc
        cases h1 : compE c n v with
        | none => rw [h1] at h; cases h
        | some x =>
          cases h2 : compFs c n r with
          | none => rw [h1, h2] at h; cases h
          | some as' =>
            rw [h1, h2] at h
            cases h
            obtain ⟨q1, q2⟩ := hFs c W X G hr r as' h2
            exact ⟨.cons (pe_fmt (hE c W X G hr v x h1).1) q1, q2⟩
      · cases h
    · cases h
end
end LA

/-! Soundness: every expression that is compiled, one step. -/
namespace LA
open PySem PySem.Spec PyProof.Rows L2
section
variable {g : GdX} {cl : Nat → List D → M D} {k : Nat}
/-- both ways of an expression that is tested by its value -/
theorem both_plain {W : WX} {c : Cc} {X : Cx} (G : Cxt g k cl W c X) {e : Expr} {x : LA.E} (h : PE X e (rdE g cl W x)) (hb : isBoolOp e = false) (he : ∀ whole, isTrue e X.env whole = (do let v ← whole; standAt e.pos; holding [v] (truthy v))) :
    PE X e (rdE g cl W x) ∧ PT X e (rdT g cl W x) ∧ (isBoolOp e = true → PW X e (rdT g cl W x)) := ⟨h, snd_truth G h he, fun z => by rw [hb] at z; cases z⟩
theorem stepI {n : Nat} (hE : SE g cl k n) : SI g cl k (n + 1) := by
  intro c W X G hr tg e i h ht
  have gen : ∀ {i}, isSet e = false → (compE c n e).map .ex = some i → PI X tg e (rdI X g cl W i) := by
    intro i _ h
    cases h1 : compE c n e with
    | none => rw [h1] at h; cases h
    | some x =>
      rw [h1] at h
      cases h
      exact snd_iex G.toGk (hE c W X G hr e x h1).1
  have tup : ∀ {i}, tgFit tg i = true → (∀ t, tgFit t i = true → ∃ es kk p, t = Expr.Tuple es kk p) → ∃ es kk p, tg = .Tuple es kk p := fun {i} h1 h2 => h2 tg h1
  unfold compI at h
  split at h
  · rename_i x p a pos
    by_cases hb : c.blt? x = true
    · rw [if_pos hb] at h
      by_cases hr1 : x = "range"
      · rw [if_pos hr1] at h
        subst hr1
        cases h1 : compE c n a with
        | none => rw [h1] at h; cases h
        | some y =>
          rw [h1] at h
          cases h
          exact snd_irange G hb (hE c W X G hr a y h1).1 (star_comp h1)
      · rw [if_neg hr1] at h
        by_cases hr2 : x = "enumerate"
        · rw [if_pos hr2] at h
          subst hr2
          cases h1 : compE c n a with
          | none => rw [h1] at h; cases h
          | some y =>
            rw [h1] at h
            cases h
            cases tg <;> first | cases ht | skip
            exact snd_ienum G hb (hE c W X G hr a y h1).1 (star_comp h1)
        · rw [if_neg hr2] at h
          exact gen rfl h
    · rw [if_neg hb] at h
      exact gen rfl h
  · rename_i x p a b pos
    by_cases hb : c.blt? x = true
    · rw [if_pos hb] at h
      by_cases hr1 : x = "range"
      · rw [if_pos hr1] at h
        subst hr1
        cases h1 : compE c n a with
        | none => rw [h1] at h; cases h
        | some y =>
          cases h2 : compE c n b with
          | none => rw [h1, h2] at h; cases h
          | some z =>
            rw [h1, h2] at h
            cases h
            exact snd_irange2 G hb (hE c W X G hr a y h1).1 (hE c W X G hr b z h2).1 (star_comp h1) (star_comp h2)
      · rw [if_neg hr1] at h
        by_cases hr2 : x = "zip"
        · rw [if_pos hr2] at h
          subst hr2
          cases h1 : compE c n a with
          | none => rw [h1] at h; cases h
          | some y =>
            cases h2 : compE c n b with
            | none => rw [h1, h2] at h; cases h
            | some z =>
              rw [h1, h2] at h
              cases h
              cases tg <;> first | cases ht | skip
              exact snd_izip G hb (hE c W X G hr a y h1).1 (hE c W X G hr b z h2).1 (star_comp h1) (star_comp h2)
        · rw [if_neg hr2] at h; cases h
    · rw [if_neg hb] at h
      exact gen rfl h
  · rename_i o m ap cp
    by_cases hm : m = "items"
    · rw [if_pos hm] at h
      subst hm
      by_cases ho : attrOk o = true ∧ ap.endLine = cp.line
      · rw [if_pos ho] at h
        cases h1 : compE c n o with
        | none => rw [h1] at h; cases h
        | some y =>
          rw [h1] at h
          cases h
          cases tg <;> first | cases ht | skip
          exact snd_iitems G.toGk (hE c W X G hr o y h1).1 ho.1 (by rw [ho.2]; exact beq_self_eq_true _)
      · rw [if_neg ho] at h; cases h
    · rw [if_neg hm] at h
      exact gen rfl h
  · by_cases hs : isSet e = true
    · rw [if_pos hs] at h; cases h
    · rw [if_neg hs] at h
      exact gen (Bool.eq_false_iff.mpr hs) h
theorem own_snd (N : List Str) : ∀ l : List (Str × NameKind), (ownOf N l).map (fun p => p.2) = (ownOf N l).map (·.2) := fun _ => rfl
/-- the parts of a comprehension's check -/
theorem comp_parts {a b : Bool} (h : (a && b) = true) : a = true ∧ b = true := Bool.and_eq_true_iff.mp h
theorem tg_own {t : Tg} {vs : List Nat} (h : ((tgIx t).all fun x => vs.contains x) = true) : ∀ i ∈ tgIx t, i ∈ vs := fun i hi => by
  have := List.all_eq_true.mp h i hi
  simpa using this
section
variable {n : Nat} {c : Cc} {W : WX} {X : Cx}
theorem step_name (G : Cxt g k cl W c X) {x : Str} {pos : Pos} {y : LA.E} (h : compE c (n + 1) (.Name x pos) = some y) : PE X (.Name x pos) (rdE g cl W y) := by
  unfold compE at h
  by_cases hd : x ∈ dunders
  · rw [if_pos hd] at h; cases h
  · rw [if_neg hd] at h
    cases hi : c.loc? x with
    | some i =>
      rw [hi] at h
      cases h
      exact snd_loc G.toGk hi hd
    | none =>
      rw [hi] at h
      cases hg : c.glob? x with
      | none => rw [hg] at h; cases h
      | some q =>
        rw [hg] at h
        cases q with
        | con d =>
          cases h
          obtain ⟨b1, b2⟩ := Cc.glob_ok hg
          rw [G.gl] at b2
          obtain ⟨v, u, e1, e2, e3⟩ := G.fac.con x d b2
          exact snd_con G.toGk (pe_glob (G.gl_ b1) (by rw [G.mg]; exact e1) e2 (by simp [dunders] at hd; simpa using hd.1)) e3
        | fn _ => cases h
        | cls _ => cases h
        | exc _ => cases h
theorem step_const (G : Cxt g k cl W c X) {v : Const} {j : Nat} {pos : Pos} {y : LA.E} (h : compE c (n + 1) (.Constant v j pos) = some y) : PE X (.Constant v j pos) (rdE g cl W y) := by
  unfold compE at h
  cases v <;> first | (cases h; done) | skip
  all_goals cases h
  · exact snd_con G.toGk pe_non fun _ _ => dv_non
  · exact snd_con G.toGk pe_bl fun _ _ => dv_bl
  · exact snd_con G.toGk pe_int fun _ _ => dv_int
  · rename_i x
    refine snd_con G.toGk pe_str fun ρ H => ?_
    have e : toStr x.cps.toList = x := TL.mk_tl x
    have q := dv_str (g := g) (ρ := ρ) (H := H) (x := x.cps.toList)
    rw [e] at q
    exact q
theorem step_bin (G : Cxt g k cl W c X) {a b : Expr} {o : Operator} {pos : Pos} {o2 : BO} {x y : LA.E} (ho : boOf? o = some o2) (ha : PE X a (rdE g cl W x)) (hb : PE X b (rdE g cl W y)) : PE X (.BinOp a o b pos) (rdE g cl W (.bin o2 x y)) := by
  cases o <;> cases ho
  · exact snd_add G.toGk ha hb
  · exact snd_sub ha hb
  · exact snd_mul G.toGk ha hb
  · exact snd_mod ha hb
  · exact snd_pow ha hb
  · exact snd_fdiv ha hb
theorem boot_ty (x : Str) (t : Ty) (h : (if x = "int" then some Ty.int else if x = "bool" then some .bool else if x = "str" then some .str else if x = "tuple" then some .tuple
      else if x = "list" then some .list else if x = "dict" then some .dict else none) = some t) : ∃ T, tyV' t = some T ∧ bootBuiltins x = some (.type T) ∧ x ≠ "__name__" ∧ (x == ("__debug__" : Str)) = false ∧ x ∈ bltNames := by
  by_cases h0 : x = "int"
  · rw [if_pos h0] at h; cases h; subst h0; exact ⟨_, rfl, boot_one _ _ (by decide +kernel)⟩
  rw [if_neg h0] at h
  by_cases h1 : x = "bool"
  · rw [if_pos h1] at h; cases h; subst h1; exact ⟨_, rfl, boot_one _ _ (by decide +kernel)⟩
  rw [if_neg h1] at h
  by_cases h2 : x = "str"
  · rw [if_pos h2] at h; cases h; subst h2; exact ⟨_, rfl, boot_one _ _ (by decide +kernel)⟩
  rw [if_neg h2] at h
  by_cases h3 : x = "tuple"
  · rw [if_pos h3] at h; cases h; subst h3; exact ⟨_, rfl, boot_one _ _ (by decide +kernel)⟩
  rw [if_neg h3] at h
  by_cases h4 : x = "list"
  · rw [if_pos h4] at h; cases h; subst h4; exact ⟨_, rfl, boot_one _ _ (by decide +kernel)⟩
  rw [if_neg h4] at h
  by_cases h5 : x = "dict"
  · rw [if_pos h5] at h; cases h; subst h5; exact ⟨_, rfl, boot_one _ _ (by decide +kernel)⟩
  rw [if_neg h5] at h
  cases h
theorem blt_free : ∀ x ∈ bltNames, x ∈ (["isinstance", "len", "list", "tuple", "dict", "sorted", "all", "max", "min", "int", "str", "bool", "range", "enumerate", "zip"] : List Str) := fun _ h => h
theorem ty_ok (G : Cxt g k cl W c X) {e : Expr} {t : Ty} (h : tyOf? c e = some t) : ∃ cv cu, PE X e (tC cv) ∧ TyN g t cv cu ∧ (∀ i, t = .own i → ∃ ci, g.pg.cls[i]? = some ci) ∧ isStar e = false := by
  unfold tyOf? at h
  split at h
  · rename_i x pos
    by_cases hd : x ∈ dunders
    · rw [if_pos hd] at h; cases h
    rw [if_neg hd] at h
    have hdb : (x == ("__debug__" : Str)) = false := by simp [dunders] at hd; simpa using hd.1
    cases hg : c.glob? x with
    | some q =>
      rw [hg] at h
      cases q with
      | cls i =>
        cases h
        obtain ⟨b1, b2⟩ := Cc.glob_ok hg
        rw [G.gl] at b2
        obtain ⟨C, e1, e2⟩ := G.fac.cls x i b2
        exact ⟨.ref C, .ref C, pe_glob (G.gl_ b1) (by rw [G.mg]; exact e2) rfl hdb, .own e1, fun j e => by cases e; exact G.fac.cle x i b2, rfl⟩
      | fn _ => cases h
      | con _ => cases h
      | exc _ => cases h
    | none =>
      rw [hg] at h
      by_cases hb : c.blt? x = true
      · simp only [hb, if_true] at h
        obtain ⟨b1, b2⟩ := Cc.blt_ok hb
        obtain ⟨T, h1, h2, h3, h4, h5⟩ := boot_ty x t h
        refine ⟨.ty T, .type T, pe_bltn (G.gl_ b1) (by rw [G.mg]; exact G.fac.free x (blt_free x h5)) h2 rfl h3 h4, .prim h1, fun i e => ?_, rfl⟩
        subst e
        cases h1
      · rw [if_neg hb] at h; cases h
  · cases h
/-- calls -/
theorem step_call (hE : SE g cl k n) (hEs : SEs g cl k n) (G : Cxt g k cl W c X) (hr : Room (k + 1) X.A) {f : Expr} {as : List Expr} {ks : List Keyword} {cpos : Pos} {y : LA.E} (h : compE c (n + 1) (.Call f as ks cpos) = some y) : PE X (.Call f as ks cpos) (rdE g cl W y) := by
  unfold compE at h
  by_cases hk : ks.isEmpty = false
  · rw [if_pos hk] at h; cases h
  rw [if_neg hk] at h
  have hks : ks = [] := by
    cases ks with
    | nil => rfl
    | cons _ _ => exact absurd rfl hk
  subst hks
  have star_no : ∀ {es : List Expr}, ¬ (es.any isStar = true) → es.any isStar = false := fun h => Bool.eq_false_iff.mpr h
  split at h
  · rename_i x p
    by_cases hd : x ∈ dunders ∨ (c.loc? x).isSome = true
    · rw [if_pos hd] at h; cases h
    rw [if_neg hd] at h
    have hd' : x ∉ dunders := fun z => hd (.inl z)
    cases hg : c.glob? x with
    | some q =>
      rw [hg] at h
      cases q with
      | fn i =>
        simp only at h
        by_cases hs : as.any isStar = true
        · rw [if_pos hs] at h; cases h
        rw [if_neg hs] at h
        cases h1 : compEs c n as with
        | none => rw [h1] at h; cases h
        | some a =>
          rw [h1] at h
          cases h
          obtain ⟨q1, q2⟩ := hEs c W X G hr as a h1
          exact snd_call G hd' hg q1 (star_no hs) q2
      | cls i =>
        simp only at h
        by_cases hs : as.any isStar = true
        · rw [if_pos hs] at h; cases h
        rw [if_neg hs] at h
        cases h1 : compEs c n as with
        | none => rw [h1] at h; cases h
        | some a =>
          rw [h1] at h
          cases h
          obtain ⟨q1, q2⟩ := hEs c W X G hr as a h1
          exact snd_make G hr hd' hg q1 (star_no hs) q2
      | con _ => cases h
      | exc _ => cases h
    | none =>
      rw [hg] at h
      simp only at h
      by_cases hb : c.blt? x = true
      · rw [if_pos hb] at h
        by_cases hi : x = "isinstance"
        · rw [if_pos hi] at h
          subst hi
          split at h
          · rename_i a t
            cases h1 : compE c n a with
            | none => rw [h1] at h; cases h
            | some a1 =>
              cases h2 : tyOf? c t with
              | none => rw [h1, h2] at h; cases h
              | some t1 =>
                rw [h1, h2] at h
                cases h
                obtain ⟨cv, cu, q1, q2, q3, q4⟩ := ty_ok G h2
                exact snd_isin G hb (hE c W X G hr a a1 h1).1 q1 q2 q3 (star_comp h1) q4
          · cases h
        · rw [if_neg hi] at h
          cases hbi : biOf? x with
          | none => rw [hbi] at h; cases h
          | some b =>
            rw [hbi] at h
            simp only at h
            by_cases hs : (as.any isStar || as.isEmpty) = true
            · rw [if_pos hs] at h; cases h
            rw [if_neg hs] at h
            have hs' := Bool.eq_false_iff.mpr hs
            obtain ⟨s1, s2⟩ := Bool.or_eq_false_iff.mp hs'
            cases as with
            | nil => cases s2
            | cons e es =>
              cases h1 : compEs c n (e :: es) with
              | none => rw [h1] at h; cases h
              | some a =>
                rw [h1] at h
                cases h
                exact snd_bi G hb hbi (hEs c W X G hr _ a h1).1 s1
      · rw [if_neg hb] at h; cases h
  · rename_i o m ap
    by_cases hc : (attrOk o && (ap.endLine == cpos.line) && decide (as.length < 29) && !as.any isStar) = true
    · rw [if_pos hc] at h
      simp only [Bool.and_eq_true, decide_eq_true_eq, Bool.not_eq_true'] at hc
      obtain ⟨⟨⟨c1, c2⟩, c3⟩, c4⟩ := hc
      cases hm : bmOf? m with
      | some b =>
        rw [hm] at h
        simp only at h
        by_cases ha : bmAr b = some as.length
        · rw [if_pos ha] at h
          cases h1 : compE c n o with
          | none => rw [h1] at h; cases h
          | some o1 =>
            cases h2 : compEs c n as with
            | none => rw [h1, h2] at h; cases h
            | some a1 =>
              rw [h1, h2] at h
              cases h
              obtain ⟨q1, q2⟩ := hEs c W X G hr as a1 h2
              rcases as with _ | ⟨e, _ | ⟨e2, r⟩⟩
              · cases q2 rfl
                exact snd_bm0 G (hE c W X G hr o o1 h1).1 hm ha c1 c2
              · exact snd_bm G (hE c W X G hr o o1 h1).1 q1 hm ha c1 (by simpa using c4) c2
              · exfalso
                cases b <;> simp [bmAr] at ha
        · rw [if_neg ha] at h; cases h
      | none =>
        rw [hm] at h
        simp only at h
        cases h1 : compE c n o with
        | none => rw [h1] at h; cases h
        | some o1 =>
          cases h2 : ixOf m c.an with
          | none => rw [h1, h2] at h; cases h
          | some mi =>
            cases h3 : compEs c n as with
            | none => rw [h1, h2, h3] at h; cases h
            | some a1 =>
              rw [h1, h2, h3] at h
              cases h
              obtain ⟨q1, q2⟩ := hEs c W X G hr as a1 h3
              exact snd_meth G (hE c W X G hr o o1 h1).1 q1 (by rw [← G.an]; exact ixOf_get h2) c1 c4 c3 c2 q2
    · rw [if_neg hc] at h; cases h
  · cases h
end
end
end LA

/-! Soundness: every expression that is compiled. -/
namespace LA
open PySem PySem.Spec PyProof.Rows L2
section
variable {g : GdX} {cl : Nat → List D → M D} {k : Nat} {n : Nat} {c : Cc} {W : WX} {X : Cx}
theorem step_lc (hE : SE g cl k n) (hI : SI g cl k n) (G : Cxt g k cl W c X) (hr : Room (k + 1) X.A) {elt : Expr} {gs : List Comprehension} {scope : Scope} {pos : Pos} {y : LA.E} (h : compE c (n + 1) (.ListComp elt gs scope pos) = some y) : PE X (.ListComp elt gs scope pos) (rdE g cl W y) := by
  unfold compE at h
  split at h
  · rename_i t0 it ifs
    cases h1 : compI c n it with
    | none => rw [h1] at h; cases h
    | some i =>
      cases h2 : compTg (c.blk scope) n t0 with
      | none => rw [h1, h2] at h; cases h
      | some t =>
        cases h4 : compE (c.blk scope) n elt with
        | none => rw [h1, h2, h4] at h; split at h <;> simp_all
        | some x =>
          have fin : ∀ {f : LA.E}, (InB X scope fun Y => PTs Y ifs (rdT g cl Wn f)) → (if (blkC c.N c.sc scope (ownOf c.N scope.names) && (tgIx t).all (((ownOf c.N scope.names).map fun p => p.2).contains ·) && tgOk (locOk scope) n t0 && tgFit t0 i && !isSet it) = true then some (E.lc x t i f ((ownOf c.N scope.names).map fun p => p.2)) else none) = some y →
              PE X (.ListComp elt [⟨t0, it, ifs, 0⟩] scope pos) (rdE g cl W y) := by
            intro f hf h
            by_cases hc : (blkC c.N c.sc scope (ownOf c.N scope.names) && (tgIx t).all (((ownOf c.N scope.names).map fun p => p.2).contains ·) && tgOk (locOk scope) n t0 && tgFit t0 i && !isSet it) = true
            · rw [if_pos hc] at h
              cases h
              obtain ⟨hc, c5⟩ := comp_parts hc
              obtain ⟨hc, c4⟩ := comp_parts hc
              obtain ⟨hc, c3⟩ := comp_parts hc
              obtain ⟨c1, c2⟩ := comp_parts hc
              exact snd_lc G (hI c W X G hr t0 it i h1 c4) c1 h2 c3 (tg_own c2) hf (fun s H C cs fp => (hE (c.blk scope) Wn _ (G.blk s H scope C cs fp) hr elt x h4).1) (by simpa using c5)
            · rw [if_neg hc] at h; cases h
          rw [h1, h2, h4] at h
          rcases ifs with _ | ⟨e, _ | ⟨e2, r⟩⟩
          · exact fin (fun _ _ _ _ _ => pts_true) h
          · cases h3 : compE (c.blk scope) n e with
            | none => simp only [h3] at h; cases h
            | some f =>
              simp only [h3] at h
              exact fin (fun s H C cs fp => pts_one (hE (c.blk scope) Wn _ (G.blk s H scope C cs fp) hr e f h3).2.1) h
          · cases h
  · rename_i t0 it t02 it2
    cases h1 : compI c n it with
    | none => rw [h1] at h; cases h
    | some i =>
      cases h2 : compTg (c.blk scope) n t0 with
      | none => rw [h1, h2] at h; cases h
      | some t =>
        cases h3 : compI (c.blk scope) n it2 with
        | none => rw [h1, h2, h3] at h; cases h
        | some i2 =>
          cases h4 : compTg (c.blk scope) n t02 with
          | none => rw [h1, h2, h3, h4] at h; cases h
          | some t2 =>
            cases h5 : compE (c.blk scope) n elt with
            | none => rw [h1, h2, h3, h4, h5] at h; cases h
            | some x =>
              rw [h1, h2, h3, h4, h5] at h
              simp only at h
              split at h
              · rename_i hc
                cases h
                obtain ⟨hc, c9⟩ := comp_parts hc
                obtain ⟨hc, c8⟩ := comp_parts hc
                obtain ⟨hc, c7⟩ := comp_parts hc
                obtain ⟨hc, c6⟩ := comp_parts hc
                obtain ⟨hc, c4⟩ := comp_parts hc
                obtain ⟨hc, c3⟩ := comp_parts hc
                obtain ⟨c1, c2⟩ := comp_parts hc
                rw [List.all_append] at c2
                obtain ⟨c2a, c2b⟩ := comp_parts c2
                exact snd_lc2 G (hI c W X G hr t0 it i h1 c6) c1 h2 c3 (tg_own c2a) (fun s H C cs fp => hI (c.blk scope) Wn _ (G.blk s H scope C cs fp) hr t02 it2 i2 h3 c7) h4 c4 (tg_own c2b)
                  (fun s H C cs fp => (hE (c.blk scope) Wn _ (G.blk s H scope C cs fp) hr elt x h5).1) (by simpa using c8) (by simpa using c9)
              · cases h
  · cases h
theorem step_dc (hE : SE g cl k n) (hI : SI g cl k n) (G : Cxt g k cl W c X) (hr : Room (k + 1) X.A) {kx vx : Expr} {gs : List Comprehension} {scope : Scope} {pos : Pos} {y : LA.E} (h : compE c (n + 1) (.DictComp kx vx gs scope pos) = some y) : PE X (.DictComp kx vx gs scope pos) (rdE g cl W y) := by
  unfold compE at h
  split at h
  · rename_i t0 it
    cases h1 : compI c n it with
    | none => rw [h1] at h; cases h
    | some i =>
      cases h2 : compTg (c.blk scope) n t0 with
      | none => rw [h1, h2] at h; cases h
      | some t =>
        cases h3 : compE (c.blk scope) n kx with
        | none => rw [h1, h2, h3] at h; cases h
        | some x =>
          cases h4 : compE (c.blk scope) n vx with
          | none => rw [h1, h2, h3, h4] at h; cases h
          | some x2 =>
            rw [h1, h2, h3, h4] at h
            simp only at h
            split at h
            · rename_i hc
              cases h
              obtain ⟨hc, c5⟩ := comp_parts hc
              obtain ⟨hc, c4⟩ := comp_parts hc
              obtain ⟨hc, c3⟩ := comp_parts hc
              obtain ⟨c1, c2⟩ := comp_parts hc
              exact snd_dc G (hI c W X G hr t0 it i h1 c4) c1 h2 c3 (tg_own c2) (fun s H C cs fp => (hE (c.blk scope) Wn _ (G.blk s H scope C cs fp) hr kx x h3).1)
                (fun s H C cs fp => (hE (c.blk scope) Wn _ (G.blk s H scope C cs fp) hr vx x2 h4).1) (by simpa using c5)
            · cases h
  · cases h
theorem stepE (hE : SE g cl k n) (hEs : SEs g cl k n) (hKs : SKs g cl k n) (hO : SO g cl k n) (hFs : SFs g cl k n) (hI : SI g cl k n) : SE g cl k (n + 1) := by
  intro c W X G hr e y h
  cases e with
  | Name x pos => exact both_plain G (step_name G h) rfl fun _ => rfl
  | Constant v j pos => exact both_plain G (step_const G h) rfl fun _ => rfl
  | Tuple es j pos =>
    refine both_plain G ?_ rfl fun _ => rfl
    unfold compE at h
    cases h1 : compEs c n es with
    | none => rw [h1] at h; cases h
    | some as => rw [h1] at h; cases h; exact snd_tup (hEs c W X G hr es as h1).1
  | List es pos =>
    refine both_plain G ?_ rfl fun _ => rfl
    unfold compE at h
    cases h1 : compEs c n es with
    | none => rw [h1] at h; cases h
    | some as => rw [h1] at h; cases h; exact snd_lst (hEs c W X G hr es as h1).1
  | Dict ks vs pos =>
    refine both_plain G ?_ rfl fun _ => rfl
    unfold compE at h
    by_cases hl : ks.length ≤ 15
    · rw [if_pos hl] at h
      cases h1 : compKs c n ks vs with
      | none => rw [h1] at h; cases h
      | some as =>
        rw [h1] at h
        cases h
        obtain ⟨q1, q2, q3, q4, q5⟩ := hKs c W X G hr ks vs as pos h1
        cases ks with
        | nil => obtain ⟨e1, e2⟩ := q5 rfl; subst e1; subst e2; exact snd_dic0
        | cons k0 ks => exact snd_dic q1 q2 q3 q4 (fun z => nomatch z) hl
    · rw [if_neg hl] at h; cases h
  | Attribute o a pos =>
    refine both_plain G ?_ rfl fun _ => rfl
    unfold compE at h
    by_cases ho : attrOk o = true
    · rw [if_pos ho] at h
      cases h1 : compE c n o with
      | none => rw [h1] at h; cases h
      | some x =>
        cases h2 : ixOf a c.an with
        | none => rw [h1, h2] at h; cases h
        | some m =>
          rw [h1, h2] at h
          cases h
          exact snd_fld G hr (hE c W X G hr o x h1).1 ho (by rw [← G.an]; exact ixOf_get h2)
    · rw [if_neg ho] at h; cases h
  | Subscript o s pos =>
    refine both_plain G ?_ rfl fun _ => rfl
    unfold compE at h
    split at h
    · rename_i lo hi st p2
      split at h
      · cases h1 : compE c n o with
        | none => rw [h1] at h; cases h
        | some x =>
          cases h2 : compO c n lo with
          | none => rw [h1, h2] at h; cases h
          | some l =>
            cases h3 : compO c n hi with
            | none => rw [h1, h2, h3] at h; cases h
            | some u =>
              rw [h1, h2, h3] at h
              cases h
              exact snd_slc G (hE c W X G hr o x h1).1 (hO c W X G hr lo l h2) (hO c W X G hr hi u h3)
      · split at h
        · cases h1 : compE c n o with
          | none => rw [h1] at h; cases h
          | some x => rw [h1] at h; cases h; exact snd_rev G (hE c W X G hr o x h1).1
        · cases h
      · cases h
    · cases h1 : compE c n o with
      | none => rw [h1] at h; cases h
      | some x =>
        cases h2 : compE c n s with
        | none => rw [h1, h2] at h; cases h
        | some z =>
          rw [h1, h2] at h
          cases h
          exact snd_idx G (hE c W X G hr o x h1).1 (hE c W X G hr s z h2).1 (slice_comp h2)
  | BinOp a o b pos =>
    refine both_plain G ?_ rfl fun _ => rfl
    unfold compE at h
    cases h0 : boOf? o with
    | none => rw [h0] at h; cases h
    | some o2 =>
      cases h1 : compE c n a with
      | none => rw [h0, h1] at h; cases h
      | some x =>
        cases h2 : compE c n b with
        | none => rw [h0, h1, h2] at h; cases h
        | some z =>
          rw [h0, h1, h2] at h
          cases h
          exact step_bin G h0 (hE c W X G hr a x h1).1 (hE c W X G hr b z h2).1
  | UnaryOp o a pos =>
    unfold compE at h
    cases o with
    | Not =>
      simp only at h
      cases h1 : compE c n a with
      | none => rw [h1] at h; cases h
      | some x =>
        rw [h1] at h
        cases h
        exact ⟨snd_not G (hE c W X G hr a x h1).1, snd_notT (hE c W X G hr a x h1).2.1, fun z => nomatch z⟩
    | USub =>
      simp only at h
      cases h1 : compE c n a with
      | none => rw [h1] at h; cases h
      | some x =>
        rw [h1] at h
        cases h
        exact both_plain G (snd_neg (hE c W X G hr a x h1).1) rfl fun _ => rfl
    | UAdd => cases h
    | Invert => cases h
  | BoolOp o es pos =>
    unfold compE at h
    rcases es with _ | ⟨a, _ | ⟨b, r⟩⟩
    · cases h
    · simp only at h
      obtain ⟨q1, q2, _⟩ := hE c W X G hr a y h
      have pw : PW X (.BoolOp o [a] pos) (rdT g cl W y) := by
        cases o with
        | And => exact pw_and1 q2
        | Or => exact pw_or1 q2
      exact ⟨pe_one q1, pw.pt, fun _ => pw⟩
    · simp only at h
      cases h1 : compE c n a with
      | none => rw [h1] at h; cases h
      | some x =>
        cases h2 : compE c n (.BoolOp o (b :: r) pos) with
        | none => rw [h1, h2] at h; cases h
        | some z =>
          rw [h1, h2] at h
          obtain ⟨a1, a2, _⟩ := hE c W X G hr a x h1
          obtain ⟨b1, _, b3⟩ := hE c W X G hr _ z h2
          cases o with
          | And =>
            cases h
            exact ⟨snd_and a1 b1, (snd_andT a2 (b3 rfl)).pt, fun _ => snd_andT a2 (b3 rfl)⟩
          | Or =>
            cases h
            exact ⟨snd_or a1 b1, (snd_orT a2 (b3 rfl)).pt, fun _ => snd_orT a2 (b3 rfl)⟩
  | IfExp t a b pos =>
    unfold compE at h
    cases h0 : compE c n t with
    | none => rw [h0] at h; cases h
    | some x =>
      cases h1 : compE c n a with
      | none => rw [h0, h1] at h; cases h
      | some z =>
        cases h2 : compE c n b with
        | none => rw [h0, h1, h2] at h; cases h
        | some u =>
          rw [h0, h1, h2] at h
          cases h
          obtain ⟨_, t2, _⟩ := hE c W X G hr t x h0
          obtain ⟨a1, a2, _⟩ := hE c W X G hr a z h1
          obtain ⟨b1, b2, _⟩ := hE c W X G hr b u h2
          exact ⟨snd_ite t2 a1 b1, snd_iteT t2 a2 b2, fun z => nomatch z⟩
  | Compare a os bs pos =>
    unfold compE at h
    split at h
    · rename_i o b
      by_cases hs : isSet b = true
      · rw [if_pos hs] at h; cases h
      · rw [if_neg hs] at h
        cases h1 : compE c n a with
        | none => rw [h1] at h; cases h
        | some x =>
          cases h2 : compE c n b with
          | none => rw [h1, h2] at h; cases h
          | some z =>
            rw [h1, h2] at h
            cases h
            have s' := Bool.eq_false_iff.mpr hs
            exact ⟨snd_cmp G (hE c W X G hr a x h1).1 (hE c W X G hr b z h2).1 s', snd_cmpT G (hE c W X G hr a x h1).1 (hE c W X G hr b z h2).1 s', fun z => nomatch z⟩
    · rename_i o p b d
      by_cases hs : (isSet b || isSet d) = true
      · rw [if_pos hs] at h; cases h
      · rw [if_neg hs] at h
        cases h1 : compE c n a with
        | none => rw [h1] at h; cases h
        | some x =>
          cases h2 : compE c n b with
          | none => rw [h1, h2] at h; cases h
          | some z =>
            cases h3 : compE c n d with
            | none => rw [h1, h2, h3] at h; cases h
            | some u =>
              rw [h1, h2, h3] at h
              cases h
              have s' := (Bool.or_eq_false_iff.mp (Bool.eq_false_iff.mpr hs)).2
              exact ⟨snd_cmp2 G (hE c W X G hr a x h1).1 (hE c W X G hr b z h2).1 (hE c W X G hr d u h3).1 s', snd_cmp2T G (hE c W X G hr a x h1).1 (hE c W X G hr b z h2).1 (hE c W X G hr d u h3).1 s', fun z => nomatch z⟩
    · cases h
  | JoinedStr vs pos =>
    refine both_plain G ?_ rfl fun _ => rfl
    unfold compE at h
    by_cases hl : 2 ≤ vs.length
    · rw [if_pos hl] at h
      cases h1 : compFs c n vs with
      | none => rw [h1] at h; cases h
      | some as =>
        rw [h1] at h
        cases h
        obtain ⟨q1, q2⟩ := hFs c W X G hr vs as h1
        rcases vs with _ | ⟨v1, _ | ⟨v2, r⟩⟩
        · simp at hl
        · simp at hl
        · exact snd_fstr q1 q2
    · rw [if_neg hl] at h; cases h
  | Call f as ks cpos => exact both_plain G (step_call hE hEs G hr h) rfl fun _ => rfl
  | ListComp elt gs scope pos => exact both_plain G (step_lc hE hI G hr h) rfl fun _ => rfl
  | DictComp kx vx gs scope pos => exact both_plain G (step_dc hE hI G hr h) rfl fun _ => rfl
  | NamedExpr _ _ _ => cases h
  | Lambda _ _ _ _ => cases h
  | Set _ _ _ => cases h
  | SetComp _ _ _ _ => cases h
  | GeneratorExp _ _ _ _ => cases h
  | Await _ _ => cases h
  | Yield _ _ => cases h
  | YieldFrom _ _ => cases h
  | FormattedValue _ _ _ _ => cases h
  | Starred _ _ => cases h
  | Slice _ _ _ _ => cases h
end
section
variable (g : GdX) (cl : Nat → List D → M D) (k : Nat)
theorem snd_all : ∀ n : Nat, SE g cl k n ∧ SEs g cl k n ∧ SKs g cl k n ∧ SO g cl k n ∧ SFs g cl k n ∧ SI g cl k n
  | 0 => by
    refine ⟨?_, ?_, ?_, ?_, ?_, ?_⟩
    · intro _ _ _ _ _ _ _ h; cases h
    · intro _ _ _ _ _ _ _ h; cases h
    · intro _ _ _ _ _ _ _ _ _ h; cases h
    · intro _ _ _ _ _ _ _ h; cases h
    · intro _ _ _ _ _ _ _ h; cases h
    · intro _ _ _ _ _ _ _ _ h; cases h
  | n + 1 =>
    let ⟨a, b, d, e, f, i⟩ := snd_all n
    ⟨stepE a b d e f i, stepEs a b, stepKs a d, stepO a, stepFs a f, stepI a⟩
end
end LA

/-! try: body, any except clauses, with a name or without. -/
namespace LA
open PySem PySem.Spec PyProof.Rows L2
abbrev TH : Type := Value × Option Nat × (Addr → Value → Option Addr → TS)
/-- the name's slot is emptied behind the suite -/
def offN (i : Option Nat) (D : Ends) : Ends := match i with
  | none => D
  | some j => { nx := fun σ H => D.nx (σ.set j none) H, rt := D.rt, bk := fun σ H => D.bk (σ.set j none) H, ct := fun σ H => D.ct (σ.set j none) H }
def inE (i : Option Nat) (a : Addr) (σ : L2.St) : L2.St := match i with
  | none => σ
  | some j => σ.set j (some (.ref a))
def wAny (K : PySem.W.Frag) (Wout : WX) (D : Ends) : List TH → WX
  | [] => Wout
  | (c, i, ts) :: r => fun cls d σ H => ∃ b, PySem.W.exmOne K cls c = some b ∧ (b = true → ∀ a, H a = none → ts a cls d (offN i D) (inE i a σ) H) ∧ (b = false → wAny K Wout D r cls d σ H)
/-- a clause's suite, read in the clause's context -/
abbrev SuOk (X : Cx) (su : List Stmt) (ts : Addr → Value → Option Addr → TS) : Prop := ∀ (a : Addr) (oe : Obj) (cls : Value) (d : Option Addr) (pn : List (Addr × Obj)), Zc cls d oe → (∃ vs, oe.data = .fields vs) → PSs (X.suite a ((a, oe) :: pn)) su (ts a cls d)
inductive HdA (X : Cx) : List ExceptHandler → List TH → Prop
  | nil : HdA X [] []
  | bare {x : Str} {c : Value} {ts : Addr → Value → Option Addr → TS} {b : Stmt} {su : List Stmt} {np hp : Pos} {hds : List ExceptHandler} {l : List TH} (hc : Names X x c) (hsu : SuOk X (b :: su) ts) (r : HdA X hds l) :
      HdA X (.ExceptHandler (some (.Name x np)) none (b :: su) hp :: hds) ((c, none, ts) :: l)
  | named {x n : Str} {i : Nat} {c : Value} {ts : Addr → Value → Option Addr → TS} {b : Stmt} {su : List Stmt} {np hp : Pos} {hds : List ExceptHandler} {l : List TH} (hc : Names X x c) (hi : X.N[i]? = some n) (hln : X.env.kindOf n = some .local) (hsu : SuOk X (b :: su) ts) (r : HdA X hds l) :
      HdA X (.ExceptHandler (some (.Name x np)) (some n) (b :: su) hp :: hds) ((c, some i, ts) :: l)
section
variable {X : Cx} {body : List Stmt} {h₀ : ExceptHandler} {hds : List ExceptHandler} {l : List TH} {pos : Pos} {tb : WX → TS} {Wout : WX}
/-- what an end wishes for, brought back from the clause's context -/
theorem ends_back {a : Addr} {oe : Obj} {pins pn : List (Addr × Obj)} {D : Ends} {fl : Flow} {s : Shared} (ok : X.Ok) (h : SP (X.suite a ((a, oe) :: (X.pn ++ pins))) pn D fl s) : SP X pins D fl s := by
  cases fl with
  | ret u => obtain ⟨v, σ, H, J, r, q⟩ := h; exact ⟨v, σ, H, J.unsuite ok, r, q⟩
  | next => obtain ⟨σ, H, J, q⟩ := h; exact ⟨σ, H, J.unsuite ok, q⟩
  | brk => obtain ⟨σ, H, J, q⟩ := h; exact ⟨σ, H, J.unsuite ok, q⟩
  | cont => obtain ⟨σ, H, J, q⟩ := h; exact ⟨σ, H, J.unsuite ok, q⟩
/-- one clause's test -/
theorem clause_test {pins : List (Addr × Obj)} {σ : L2.St} {H : Hp} {s : Shared} {a : Addr} {oe : Obj} {x : Str} {c : Value} {np : Pos} {R E : Value → Shared → Prop} (S : Inv (X.suite a ((a, oe) :: (X.pn ++ pins))) [] σ H s) (hc : Names X x c) (h : R c s) :
    wpAny (model X.prog X.w) (X.A.mark (some (.ref a))) (eval (.Name x np) X.env) R E s := by
  obtain ⟨g1, g2, g3⟩ := hc
  rcases g3 with g3 | ⟨g3, g4, g5⟩
  · exact ld_glob (X := X.suite a ((a, oe) :: (X.pn ++ pins))) S g1 g3 h g2
  · exact ld_blt (X := X.suite a ((a, oe) :: (X.pn ++ pins))) S g1 g3 g4 h g5 g2
theorem clauses {pins : List (Addr × Obj)} {σ : L2.St} {H : Hp} {a : Addr} {B h3 : Heap} {sI s' : Shared} {cls : Value} {d : Option Addr} {D : Ends} (hs : X.stack = X.env :: X.outer) (hf : X.env.frame = some X.env.locals) (hN : X.N.Nodup) (tk : Takes X Wout) (J : Inv X pins σ H sI)
    (nb : ∀ b o, sI.heap.get? b = some o → b ∉ frs X.stack → B.get? b = some o) (up : sI.heap.UpToSlots s'.heap) (up3 : s'.heap.UpToSlots h3) (fl3 : HandSPX.FlyingZ B (X.env :: X.outer) a (Zc cls d) h3) (na : H a = none) (os : s'.os = sI.os) (ag : AllBare s'.gens) :
    ∀ {hds : List ExceptHandler} {l : List TH}, HdA X hds l → wAny X.K Wout D l cls d σ H → wpAny (model X.prog X.w) X.A (handleBy (.ref a) X.env hds) (SP X pins D) X.xe { s' with heap := h3 } := by
  obtain ⟨oe3, vs3, he3, hz3, hd3⟩ := fl3.there
  have J3 : Inv X pins σ H { s' with heap := h3 } := J.landed nb fl3.1 (up.trans up3) os ag
  have awayF : a ∉ frs (X.env :: X.outer) := fun hm => by
    obtain ⟨_, o', e', hnf⟩ := fl3.2.2.1.mem hm
    rw [he3] at e'
    cases e'
    exact hnf _ hd3
  have awayL : a ≠ X.env.locals := fun z => awayF (List.mem_filterMap.mpr ⟨X.env, List.mem_cons_self, by rw [hf, z]⟩)
  have awayX : a ∉ X.fs := fun hm => by
    obtain ⟨en, hen, q⟩ := List.mem_filterMap.mp hm
    exact awayF (List.mem_filterMap.mpr ⟨en, List.mem_cons_of_mem _ hen, q⟩)
  have S3 := J3.suite he3 hd3 na awayL awayX
  have LT : PySem.W.Looks (model X.prog X.w) h3 (typeOf (.ref a)) cls := fun A Q E s k q => wpAny_typeOf_ref (k _ _ he3) (by rw [hz3.1]; exact q)
  intro hds l hk
  induction hk with
  | nil =>
    intro w
    refine wpAny_handleBy_nil ?_
    obtain ⟨_, _, _, oe, vs, T, oT, _, he, _, hd, h1, _⟩ := id fl3
    unfold PySem.passOn
    refine wpAny_bind (wpAny_field he hd h1 ?_)
    rw [if_neg (show ¬ ((Value.ref T == Value.none) = true) by simp)]
    have out : wpAny (model X.prog X.w) X.A (setFlight (.ref a) X.env.frame) (fun _ s4 => wpAny (model X.prog X.w) X.A (throw (.ref a) : Sem Flow) (SP X pins D) X.xe s4) X.xe { s' with heap := h3 } := by
      rw [hf]
      exact HandSPX.setFlight_upZ fl3 fun h4 g4 up4 => wpAny_throw (tk _ _ ⟨a, B, sI, pins, σ, H, cls, d, rfl, J, nb, (up.trans up3).trans up4, .inr (.inr (by rw [hs]; exact g4)), na, os, ag, w⟩)
    first
      | exact wpAny_bind (wpAny_pure (wpAny_bind out))
      | exact wpAny_bind out
  | @bare x c ts b su np hp hds l hc hsu r ih =>
    intro w
    obtain ⟨t, ht, yes, no⟩ := w
    refine wpAny_handleBy_cons (codeAny_handlers_test ?_) (by intro q; cases q)
    refine clause_test S3 hc ((PySem.W.exm_one (M := model X.prog X.w) J3.kIn LT ht).here ?_)
    cases t with
    | false => exact ih (no rfl)
    | true =>
      refine codeAny_handlers_suite (HandSPX.lands_againZ fl3 fun h4 fl4 up4 => ?_)
      have J4 : Inv X pins σ H { s' with heap := h4 } := J.landed nb fl4.1 ((up.trans up3).trans up4) os ag
      obtain ⟨oe4, vs4, he4, hz4, hd4⟩ := fl4.there
      exact wpAny_mono ((hsu a oe4 cls d (X.pn ++ pins) hz4 ⟨_, hd4⟩).run [] _ _ H _ (J4.suite he4 hd4 na awayL awayX) (yes rfl a na)) (fun f s6 z => ends_back J.ok z) fun _ _ z => z.elim
  | @named x n i c ts b su np hp hds l hc hi hln hsu r ih =>
    intro w
    obtain ⟨t, ht, yes, no⟩ := w
    refine wpAny_handleBy_cons (codeAny_handlers_test ?_) (by intro q; cases q)
    refine clause_test S3 hc ((PySem.W.exm_one (M := model X.prog X.w) J3.kIn LT ht).here ?_)
    cases t with
    | false => exact ih (no rfl)
    | true =>
      refine codeAny_handlers_suite_as (HandSPX.lands_againZ fl3 fun h4 fl4 up4 => ?_)
      have J4 : Inv X pins σ H { s' with heap := h4 } := J.landed nb fl4.1 ((up.trans up3).trans up4) os ag
      obtain ⟨oe4, vs4, he4, hz4, hd4⟩ := fl4.there
      refine store_ok (X := X.suite a ((a, oe4) :: (X.pn ++ pins))) (v := .ref a) (J4.suite he4 hd4 na awayL awayX) hN hi (.inl hln) rfl (fun s5 S5 => ?_) (.inr hln)
      refine wpAny_mono ((hsu a oe4 cls d (X.pn ++ pins) hz4 ⟨_, hd4⟩).run [] s5 _ H _ S5 (yes rfl a na)) (fun f s6 z => ?_) fun _ _ z => z.elim
      have z' := ends_back J.ok z
      have gone : ∀ {σ6 : L2.St} {H6 : Hp} {Q : Shared → Prop}, Inv X pins σ6 H6 s6 → (∀ s7, Inv X pins (σ6.set i none) H6 s7 → Q s7) → wpAny (model X.prog X.w) X.A (do bindName X.env n .none; unbindBehindTheSuite X.env n hp) (fun _ s7 => Q s7) X.xe s6 := fun I6 hq => gone_ok I6 hN hi hln hq
      cases f with
      | ret u => obtain ⟨v6, σ6, H6, I6, r6, q6⟩ := z'; exact gone I6 fun s7 J7 => ⟨_, _, _, J7, r6, q6⟩
      | next => obtain ⟨σ6, H6, I6, q6⟩ := z'; exact gone I6 fun s7 J7 => ⟨_, _, J7, q6⟩
      | brk => obtain ⟨σ6, H6, I6, q6⟩ := z'; exact gone I6 fun s7 J7 => ⟨_, _, J7, q6⟩
      | cont => obtain ⟨σ6, H6, I6, q6⟩ := z'; exact gone I6 fun s7 J7 => ⟨_, _, J7, q6⟩
/-- THE RULE -/
theorem ps_tryA (hs : X.stack = X.env :: X.outer) (hf : X.env.frame = some X.env.locals) (hN : X.N.Nodup) (tk : Takes X Wout)
    (hb : ∀ (W : WX) (pn : List (Addr × Obj)) (xe : Value → Shared → Prop), Takes (X.tr pn xe) W → PassesOwn (model X.prog X.w) X.A X.env xe → PSs (X.tr pn xe) body (tb W)) (hh : HdA X (h₀ :: hds) l) :
    PS X (.Try body (h₀ :: hds) [] [] pos) (fun D σ H => tb (wAny X.K Wout D l) D σ H) := by
  refine ⟨fun pins s σ H D I h => wpAny_Try_except ?_⟩
  have ok := I.ok
  have hfr : X.A.frames = some (X.env :: X.outer) := by rw [ok.frames, hs]
  let xe' : Value → Shared → Prop := fun e s1 => wpAny (model X.prog X.w) X.A (noteFrame e X.env) (fun _ s2 => wpAny (model X.prog X.w) X.A (setFlight e none) (fun _ s3 => wpAny (model X.prog X.w) X.A (handleBy e X.env (h₀ :: hds)) (SP X pins D) X.xe s3) X.xe s2) X.xe s1
  have caught : Takes (X.tr (X.pn ++ pins) xe') (wAny X.K Wout D l) := fun u s' xx => by
    obtain ⟨a, B, sI, pn', σ', H', cls, d, rfl, J', nb, up, sky, na, os, ag, w⟩ := xx
    have sky' : Sky B (X.env :: X.outer) a (Zc cls d) X.env.locals s'.heap := by rw [← hs]; exact sky
    show wpAny (model X.prog X.w) X.A (noteFrame (.ref a) X.env) _ _ _
    exact Sky.land Zc.steady hfr hf sky' fun h3 fl3 up3 => clauses hs hf hN tk (J'.ofTry ok) nb up up3 fl3 na os ag hh w
  refine wpAny_mono ((hb (wAny X.K Wout D l) (X.pn ++ pins) xe' caught PassesOwn.looking).run [] s σ H D (I.toTry _) h) (fun f s1 z => ?_) fun e s1 he => he
  cases f with
  | next => obtain ⟨σ', H', J, q⟩ := z; exact wpAny_execs_nil ⟨σ', H', J.ofTry ok, q⟩
  | brk => obtain ⟨σ', H', J, q⟩ := z; exact ⟨σ', H', J.ofTry ok, q⟩
  | cont => obtain ⟨σ', H', J, q⟩ := z; exact ⟨σ', H', J.ofTry ok, q⟩
  | ret u => obtain ⟨v, σ', H', J, r, q⟩ := z; exact ⟨v, σ', H', J.ofTry ok, r, q⟩
end
end LA

/-! Soundness: what an except suite reckons. -/
namespace LA
open PySem PySem.Spec PyProof.Rows L2
open PySem.W (Frag InstAt findIn specialIn takesIn mroIn subIn looks_findIn looks_find looks_subIn KitX)
section
variable {K : Frag} {C x : Addr} {ox : Obj} {od : Option Obj} {prog : Program} {w : World} {A : Around} {E : Value → Shared → Prop} {s : Shared}
theorem ex_found (F : ExcC K C) : PySem.W.findObj K C od "__class__" = some (.bind (.builtin "getset_descriptor.__get__") (.builtin "object.__class__")) := by
  obtain ⟨cd, hc, _⟩ := PySem.W.any_some F.hd
  unfold PySem.W.findObj
  rw [hc, Option.bind_some, F.ha, Option.bind_some]
  simp [F.hn, F.ht]
theorem ex_class {Q : Option Value → Shared → Prop} (F : ExcC K C) (X : K.In s.heap) (I : InstAt s.heap x ox C od) (q : Q (some (.ref C)) { s with toks := s.toks + 1 }) : wpAny (model prog w) A (getAttr? (.ref x) "__class__") Q E s := by
  obtain ⟨hp, gs, dr, tk, os⟩ := s
  have ty := I.type (M := model prog w)
  have l1 := looks_findIn (M := model prog w) X F.hg
  have l2 := looks_findIn (M := model prog w) X F.hk
  have l3 := looks_find (M := model prog w) X I (ex_found (od := od) F)
  have isB : PySem.W.Looks (model prog w) hp (isInstance (.ref x) (.type "BaseException")) true := ty.andThen (looks_subIn X F.hs)
  have z1 : (Value.builtin "BaseException.__getattribute__" == Value.builtin "object.__getattribute__") = false := by decide +kernel
  have z2 : (onTheHeap (Value.ref C) && Value.builtin "BaseException.__getattribute__" == Value.builtin "object.__getattribute__") = false := by rw [z1] <;> rfl
  have z3 : (false && onTheHeap (Value.builtin "BaseException.__getattribute__")) = false := by rfl
  unfold getAttr? getAttrBy? getAttrBy
  refine wpAny_bind (wpAny_mkText (wpAny_bind (wpAny_attempt (wpAny_holding (wpAny_bind (ty.at (wpAny_bind (l1.at ?_))))))))
  show wpAny _ _ (if (onTheHeap (Value.ref C) && Value.builtin "BaseException.__getattribute__" == Value.builtin "object.__getattribute__") = true then _ else _) _ _ _
  rw [z2, if_neg Bool.false_ne_true]
  unfold getAttrByItsOwn hookBefore
  refine wpAny_bind ?_
  rw [if_pos (show onTheHeap (Value.ref C) = true by rfl)]
  refine l2.at (wpAny_bind (wpAny_attempt (wpAny_holding ?_)))
  unfold callGetattribute
  rw [z3, if_neg Bool.false_ne_true]
  unfold boundAndCalled
  rw [PySem.F.excAttr_ValueError.ga.bind (.ref x)]
  refine wpAny_bind (wpAny_pure ?_)
  show wpAny _ _ (PySem.call (.builtin "BaseException.__getattribute__") [.ref x, .str "__class__" tk]) _ _ _
  refine wpAny_call (codeAny_call_builtin PySem.F.excAttr_ValueError.ga.plain PySem.F.entry_bexc_ga (@PySem.W.check_slot (model prog w) _ _ ⟨hp, gs, dr, tk + 1, os⟩ "BaseException.__getattribute__" "BaseException" "__getattribute__" (.ref x) [.str "__class__" tk] [] _ (by decide +kernel) (by decide +kernel) isB (PySem.F.args_bexc_ga (.ref x) (.str "__class__" tk)) ?_))
  unfold Builtin.«object.__getattribute__»
  refine wpAny_bind (wpAny_of_eq (a := ((Value.ref x : Value), [Value.str "__class__" tk])) (by first | rfl | (simp only [slotArgs]; rfl)) (wpAny_bind (wpAny_pure (wpAny_bind (ty.at (wpAny_bind (l3.at ?_)))))))
  show wpAny _ _ (holding [Value.builtin "object.__class__"] (PySem.call (.builtin "getset_descriptor.__get__") [.builtin "object.__class__", .ref x, .ref C]) >>= ret) _ _ _
  refine wpAny_bind (wpAny_holding (wpAny_call (PySem.W.class_get (s := ⟨hp, gs, dr, tk + 1, os⟩) (ox := ox) (od := od) X I F.hm (wpAny_pure ?_))))
  show wpAny _ _ (handedOut (.ref C)) _ _ _
  rw [PySem.W.handedOut_of (v := .ref C) rfl]
  first
    | exact wpAny_pure (wpAny_pure q)
    | exact wpAny_pure q
    | exact wpAny_pure (wpAny_bind (wpAny_pure (wpAny_pure q)))
theorem ex_kit (F : ExcC K C) : KitX K (.ref x) (.ref C) (fun h => InstAt h x ox C od) := by
  obtain ⟨cd, hc, _⟩ := PySem.W.any_some F.hd
  have hl : ∃ t dd cd' sl, K.lookup C = some ⟨t, dd, .cls cd', sl⟩ := by
    unfold PySem.W.clsIn at hc
    split at hc
    · exact ⟨_, _, _, _, by assumption⟩
    · cases hc
  obtain ⟨t, dd, cd', sl, lk⟩ := hl
  refine { ty := fun _ _ _ I => I.type, it := fun _ h X _ A' Q' E' s' k q => ?_, ne := fun h tp dt its n sl' X htp => ?_, ca := fun X I k => ex_class F X I k }
  · unfold isType loadHead
    exact wpAny_bind (wpAny_loadPart (k _ _ (X _ _ lk)) (wpAny_pure q))
  · refine Bool.eq_false_iff.mpr fun q => ?_
    have e : C = tp := Value.ref.inj (beq_iff_eq.mp q)
    subst e
    cases (X _ _ lk).symm.trans htp
end
/-! ### the exception that a suite holds -/
section
variable {g : GdX} {k : Nat} {cl : Nat → List D → M D} {c : Cc} {W : WX} {X : Cx}
/-- isinstance(e, K) -/
theorem isi_callX {a C : Addr} {oe : Obj} {dd : Option Addr} {cc : Nat} {pn : List (Addr × Obj)} (kg : KinG g) (hK : X.K = g.K) (zc : Zc (.ref C) dd oe) (fl : ∃ vs, oe.data = .fields vs) (exA : g.exA[cc]? = some C) :
    CallR (X.suite a ((a, oe) :: pn)) (.builtin "isinstance") (fun xs H Q => ∃ (c : V) (cv : Value) (b : Bool), xs = [.ref a, c] ∧ (∀ u, RelV c u → u = cv) ∧ PySem.W.kitOne g.K (.ref C) cv = some b ∧ (∀ dx, dd = some dx → ∃ vs, H dx = some (.xd vs)) ∧ Q (.bl b) H) := by
  intro pins s σ H xs us Q I r h
  obtain ⟨c, cv, b, rfl, hcv, hk, hd, q⟩ := h
  cases r with
  | cons r1 rr =>
    cases rr with
    | cons r2 rr =>
      cases rr
      cases r1
      obtain rfl := hcv _ r2
      have hget := (I.pin (a, oe) (List.mem_append_left _ List.mem_cons_self)).1
      obtain ⟨vs, hv⟩ := fl
      have hI : ∃ od, PySem.W.InstAt s.heap a oe C od := by
        obtain ⟨h1, h2⟩ := zc
        obtain ⟨oc, odd, oda, osl⟩ := oe
        dsimp only at h1 h2 hv
        subst h1 h2 hv
        cases odd with
        | none => exact ⟨none, hget, rfl, rfl, trivial⟩
        | some dx =>
          obtain ⟨ws, hx⟩ := hd dx rfl
          obtain ⟨mA, hn, _⟩ := I.hok _ _ hx
          obtain ⟨o, _, _, ho, _⟩ := hn
          exact ⟨some o, hget, rfl, rfl, ho⟩
      obtain ⟨od, hI⟩ := hI
      have hk' := hk
      rw [← hK] at hk'
      have ec : ExcC X.K C := by rw [hK]; exact kg.ec cc C exA
      exact PySem.W.kia_one (ex_kit ec) I.kIn hI hk' (fun z => nomatch z) fun tk => ⟨.bl b, H, I.kept (t' := tk) fun _ _ z => z, rfl, q⟩
theorem slot_ok {y : Str} {t : Nat} (h : slotOf c y = some t) : c.N[t]? = some y ∧ c.sc.names.lookup y = some .local := by
  unfold slotOf at h
  split at h
  · rename_i hl
    exact ⟨(Cc.loc_ok h).1, hl⟩
  · cases h
/-- what stands at a suite's start -/
structure SxAt (g : GdX) (i : Option Nat) (a : Addr) (cls : Value) (d : Option Addr) (ρ : List Addr) (ds : En) (S : Sto) (cc : Nat) (fs : List (Nat × D)) (σ : L2.St) (H : Hp) : Prop where
  rel : Rel g.toGd ρ S H
  sl : SlR g.toGd ρ H ds σ
  xv : XV g ρ H cc fs cls d
  ij : ∀ j, i = some j → σ[j]? = some (some (.ref a))
/-- an atom: its value, nothing else changes -/
theorem sx0_ok (G : Cxt g k cl W c X) {nm : Option Str} {i : Option Nat} (hi : nameOf c nm = some i) {a : Addr} {oe : Obj} {cls : Value} {d : Option Addr} {pn : List (Addr × Obj)} (hz : Zc cls d oe) (hf : ∃ vs, oe.data = .fields vs) (e : Expr) :
    ∃ te : TE, PE (X.suite a ((a, oe) :: pn)) e te ∧ ∀ (σ : L2.St) (H : Hp) (Q : VK) ρ ds S cc fs r, SxAt g i a cls d ρ ds S cc fs σ H → evX g.pg ds cc fs (sx0 c nm e) S = some r → (∀ dv v, r = (.ok dv, S) → DV g.toGd ρ H dv v → Q v H) → te σ H Q := by
  have bad : ∃ te : TE, PE (X.suite a ((a, oe) :: pn)) e te ∧ ∀ (σ : L2.St) (H : Hp) (Q : VK) ρ ds S cc fs r, SxAt g i a cls d ρ ds S cc fs σ H → evX g.pg ds cc fs .bad S = some r → (∀ dv v, r = (.ok dv, S) → DV g.toGd ρ H dv v → Q v H) → te σ H Q :=
    ⟨fun _ _ _ => False, ⟨fun _ _ _ _ _ _ h => h.elim⟩, fun σ H Q ρ ds S cc fs r _ h _ => by unfold evX at h; cases h⟩
  unfold sx0
  split
  · rename_i kk p1 p2
    split
    · rename_i x
      refine ⟨_, pe_str, fun σ H Q ρ ds S cc fs r A h q => ?_⟩
      unfold evX at h
      cases h
      refine q _ _ rfl ?_
      have e : toStr x.cps.toList = x := TL.mk_tl x
      have := dv_str (g := g) (ρ := ρ) (H := H) (x := x.cps.toList)
      rw [e] at this
      exact this
    · refine ⟨_, pe_non, fun σ H Q ρ ds S cc fs r A h q => ?_⟩
      unfold evX at h
      cases h
      exact q _ _ rfl dv_non
    · exact bad
  · rename_i x p1 n p2
    split
    · rename_i hc
      simp only [Bool.and_eq_true, decide_eq_true_eq, Bool.not_eq_true'] at hc
      obtain ⟨⟨h1, h4⟩, h5⟩ := hc
      subst h1
      split
      · rename_i k0 hk
        have hn := ixOf_get hk
        rw [G.an] at hn
        unfold nameOf at hi
        simp only at hi
        cases hs : slotOf c x with
        | none => rw [hs] at hi; cases hi
        | some j =>
          rw [hs] at hi
          cases hi
          obtain ⟨m1, m2⟩ := slot_ok hs
          have hN : (X.suite a ((a, oe) :: pn)).N = c.N := G.N
          have hv : PE (X.suite a ((a, oe) :: pn)) (.Name x p1) (tVar j) := pe_var (by rw [hN]; exact m1) (.inl (by show X.env.scope.names.lookup x = _; rw [G.sc]; exact m2)) h4 h5
          refine ⟨fun σ H Q => ∃ ρ ds S cc fs r, SxAt g (some j) a cls d ρ ds S cc fs σ H ∧ evX g.pg ds cc fs (.fld k0) S = some r ∧ (∀ dv v, r = (.ok dv, S) → DV g.toGd ρ H dv v → Q v H), ⟨fun pins s σ H Q I h => ?_⟩, fun σ H Q ρ ds S cc fs r A h q => ⟨ρ, ds, S, cc, fs, r, A, h, q⟩⟩
          obtain ⟨ρ, ds, S, cc, fs, r, A, h, q⟩ := h
          unfold evX at h
          by_cases hsx : (g.pg.sx && fldOk g.pg cc k0) = true
          · rw [if_pos hsx] at h
            obtain ⟨sx1, sx2⟩ := Bool.and_eq_true_iff.mp hsx
            have kg := G.fac.kg sx1
            obtain ⟨C, hx, ecls, xv⟩ := A.xv
            subst ecls
            have ec := kg.ec cc C hx
            have T : XfC X.K C := by rw [G.K]; exact ⟨ec.hg, ec.hk, ec.hs, ec.hd⟩
            have hno : PySem.W.findIn X.K (.ref C) n = some none := by rw [G.K]; exact G.fac.xf sx1 cc k0 C n hx sx2 hn
            cases hl : lookA k0 fs with
            | none => rw [hl] at h; cases h
            | some dv =>
              rw [hl] at h
              cases h
              rcases xv with ⟨e0, _⟩ | ⟨dx, vs, e0, fv, e1⟩
              · subst e0; cases hl
              · have fl := fvs_look (an := g.an) G.fac.anNd hn fv
                rw [hl] at fl
                obtain ⟨v, hv1, hv2⟩ := fl
                exact (pe_xf T hno hz hf hv).run pins s σ H Q I ⟨_, A.ij j rfl, rfl, rfl, dx, vs, v, e0, e1, hv1, q dv v rfl hv2⟩
          · rw [if_neg hsx] at h
            cases h
      · exact bad
    · exact bad
  · exact bad
theorem sx0_noex {pg : Pg} {ds : En} {cc : Nat} {fs} {S S1 : Sto} {nm : Option Str} {e : Expr} {c1 : Nat} {f1} (h : evX pg ds cc fs (sx0 c nm e) S = some (.ex c1 f1, S1)) : False := by
  unfold sx0 at h
  split at h
  · split at h <;> (unfold evX at h; cases h)
  · split at h
    · split at h
      · unfold evX at h
        split at h
        · cases hl : lookA _ fs with
          | none => rw [hl] at h; cases h
          | some dv => rw [hl] at h; cases h
        · cases h
      · unfold evX at h; cases h
    · unfold evX at h; cases h
  · unfold evX at h; cases h
theorem sx0_star {nm : Option Str} {e : Expr} (h : isStar e = true) : sx0 c nm e = .bad := by
  cases e <;> first | rfl | cases h
/-- a suite's expression that is no test: an atom, a list of atoms -/
def SxOk (g : GdX) (X' : Cx) (i : Option Nat) (a : Addr) (cls : Value) (d : Option Addr) (e : Expr) (x : SX) : Prop :=
  ∃ te : TE, PE X' e te ∧ ∀ (σ : L2.St) (H : Hp) (Q : VK) ρ ds S cc fs v S', SxAt g i a cls d ρ ds S cc fs σ H → evX g.pg ds cc fs x S = some (.ok v, S') → PostV g ρ H v S' Q → te σ H Q
theorem sx_bad {X' : Cx} {i : Option Nat} {a : Addr} {cls : Value} {d : Option Addr} {e : Expr} {x : SX} (h : ∀ ds cc fs S r, evX g.pg ds cc fs x S = some r → False) : SxOk g X' i a cls d e x :=
  ⟨fun _ _ _ => False, ⟨fun _ _ _ _ _ _ h => h.elim⟩, fun σ H Q ρ ds S cc fs v S' _ q _ => h ds cc fs S _ q⟩
theorem bind_some {α β : Type} {m : M α} {f : α → M β} {S : Sto} {r : R β × Sto} (h : M.bind m f S = some r) : ∃ q, m S = some q := by
  unfold M.bind at h
  cases e : m S with
  | none => rw [e] at h; cases h
  | some q => exact ⟨q, rfl⟩
theorem bind_ok {α β : Type} {m : M α} {f : α → M β} {S S1 : Sto} {x : α} (h : m S = some (.ok x, S1)) : M.bind m f S = f x S1 := by
  unfold M.bind
  rw [h]
theorem sx1_ok (G : Cxt g k cl W c X) {nm : Option Str} {i : Option Nat} (hi : nameOf c nm = some i) {a : Addr} {oe : Obj} {cls : Value} {d : Option Addr} {pn : List (Addr × Obj)} (hz : Zc cls d oe) (hf : ∃ vs, oe.data = .fields vs) (e : Expr) :
    SxOk g (X.suite a ((a, oe) :: pn)) i a cls d e (sx1 c nm e) := by
  have atom : SxOk g (X.suite a ((a, oe) :: pn)) i a cls d e (sx0 c nm e) := by
    obtain ⟨te, h1, h2⟩ := sx0_ok G hi hz hf (pn := pn) e
    exact ⟨te, h1, fun σ H Q ρ ds S cc fs v S' A h q => h2 σ H Q ρ ds S cc fs _ A h fun dv v' e1 hv => by
      cases e1
      exact q ρ H v' (List.prefix_refl _) .refl A.rel hv⟩
  unfold sx1
  split
  · rename_i es p
    split
    · rename_i x
      by_cases sx : isStar x = true
      · refine sx_bad fun ds cc fs S r h => ?_
        rw [sx0_star sx] at h
        unfold evX at h
        obtain ⟨q, h⟩ := bind_some h
        unfold evX at h
        cases h
      · obtain ⟨te, h1, h2⟩ := sx0_ok G hi hz hf (pn := pn) x
        refine ⟨_, pe_lst (pa_cons h1 pa_nil (starEach_no (by simpa using sx))), fun σ H Q ρ ds S cc fs v S' A h q => ?_⟩
        unfold evX at h
        obtain ⟨r1, e1⟩ := bind_some h
        refine h2 σ H _ ρ ds S cc fs r1 A e1 fun dv v1 er hv => ?_
        subst er
        rw [bind_ok e1] at h
        cases h
        refine ⟨by show (1 : Nat) ≤ sizeLine; decide, fun p hp => ?_⟩
        exact post_lst q (List.prefix_refl _) .refl A.rel (.cons hv .nil) hp
    · rename_i x y
      by_cases sx : (isStar x || isStar y) = true
      · refine sx_bad fun ds cc fs S r h => ?_
        unfold evX at h
        cases hx : isStar x with
        | true =>
          rw [sx0_star hx] at h
          obtain ⟨q, h⟩ := bind_some h
          unfold evX at h
          cases h
        | false =>
          rw [hx, Bool.false_or] at sx
          rw [sx0_star sx] at h
          obtain ⟨⟨r1, S1⟩, e1⟩ := bind_some h
          cases r1 with
          | ok a1 =>
            rw [bind_ok e1] at h
            obtain ⟨q, h⟩ := bind_some h
            unfold evX at h
            cases h
          | ex c1 f1 =>
            unfold M.bind at h
            rw [e1] at h
            exact sx0_noex e1
      · simp only [Bool.or_eq_true, not_or] at sx
        obtain ⟨te, h1, h2⟩ := sx0_ok G hi hz hf (pn := pn) x
        obtain ⟨tf, h3, h4⟩ := sx0_ok G hi hz hf (pn := pn) y
        refine ⟨_, pe_lst (pa_cons h1 (pa_cons h3 pa_nil (starEach_no (by simpa using sx.2))) (starEach_no (by simpa using sx.1))), fun σ H Q ρ ds S cc fs v S' A h q => ?_⟩
        unfold evX at h
        obtain ⟨r1, e1⟩ := bind_some h
        refine h2 σ H _ ρ ds S cc fs r1 A e1 fun dv v1 er hv => ?_
        subst er
        rw [bind_ok e1] at h
        obtain ⟨r2, e2⟩ := bind_some h
        refine h4 σ H _ ρ ds S cc fs r2 A e2 fun dv2 v2 er2 hv2 => ?_
        subst er2
        rw [bind_ok e2] at h
        cases h
        refine ⟨by show (2 : Nat) ≤ sizeLine; decide, fun p hp => ?_⟩
        exact post_lst q (List.prefix_refl _) .refl A.rel (.cons hv (.cons hv2 .nil)) hp
    · rename_i x y z
      by_cases sx : (isStar x || (isStar y || isStar z)) = true
      · refine sx_bad fun ds cc fs S r h => ?_
        unfold evX at h
        obtain ⟨⟨r1, S1⟩, e1⟩ := bind_some h
        cases hx : isStar x with
        | true =>
          rw [sx0_star hx] at e1
          unfold evX at e1
          cases e1
        | false =>
          rw [hx, Bool.false_or] at sx
          cases r1 with
          | ok a1 =>
            rw [bind_ok e1] at h
            obtain ⟨⟨r2, S2⟩, e2⟩ := bind_some h
            cases hy : isStar y with
            | true =>
              rw [sx0_star hy] at e2
              unfold evX at e2
              cases e2
            | false =>
              rw [hy, Bool.false_or] at sx
              cases r2 with
              | ok a2 =>
                rw [bind_ok e2] at h
                obtain ⟨q, h⟩ := bind_some h
                rw [sx0_star sx] at h
                unfold evX at h
                cases h
              | ex c1 f1 => exact sx0_noex e2
          | ex c1 f1 => exact sx0_noex e1
      · simp only [Bool.or_eq_true, not_or] at sx
        obtain ⟨te, h1, h2⟩ := sx0_ok G hi hz hf (pn := pn) x
        obtain ⟨tf, h3, h4⟩ := sx0_ok G hi hz hf (pn := pn) y
        obtain ⟨tg, h5, h6⟩ := sx0_ok G hi hz hf (pn := pn) z
        refine ⟨_, pe_lst (pa_cons h1 (pa_cons h3 (pa_cons h5 pa_nil (starEach_no (by simpa using sx.2.2))) (starEach_no (by simpa using sx.2.1))) (starEach_no (by simpa using sx.1))), fun σ H Q ρ ds S cc fs v S' A h q => ?_⟩
        unfold evX at h
        obtain ⟨r1, e1⟩ := bind_some h
        refine h2 σ H _ ρ ds S cc fs r1 A e1 fun dv v1 er hv => ?_
        subst er
        rw [bind_ok e1] at h
        obtain ⟨r2, e2⟩ := bind_some h
        refine h4 σ H _ ρ ds S cc fs r2 A e2 fun dv2 v2 er2 hv2 => ?_
        subst er2
        rw [bind_ok e2] at h
        obtain ⟨r3, e3⟩ := bind_some h
        refine h6 σ H _ ρ ds S cc fs r3 A e3 fun dv3 v3 er3 hv3 => ?_
        subst er3
        rw [bind_ok e3] at h
        cases h
        refine ⟨by show (3 : Nat) ≤ sizeLine; decide, fun p hp => ?_⟩
        exact post_lst q (List.prefix_refl _) .refl A.rel (.cons hv (.cons hv2 (.cons hv3 .nil))) hp
    · exact sx_bad fun ds cc fs S r h => by unfold evX at h; cases h
  · exact atom
/-- a suite's expression -/
theorem sx2_ok (G : Cxt g k cl W c X) {nm : Option Str} {i : Option Nat} (hi : nameOf c nm = some i) {a : Addr} {oe : Obj} {cls : Value} {d : Option Addr} {pn : List (Addr × Obj)} (hz : Zc cls d oe) (hf : ∃ vs, oe.data = .fields vs) (e : Expr) :
    SxOk g (X.suite a ((a, oe) :: pn)) i a cls d e (sx2 c nm e) := by
  unfold sx2
  split
  · rename_i f p1 x p2 k0 p3 p4 ea eb p5
    split
    · rename_i hc
      simp only [Bool.and_eq_true, decide_eq_true_eq, Bool.not_eq_true'] at hc
      obtain ⟨⟨⟨⟨⟨⟨rfl, h1⟩, h2⟩, h3⟩, h4⟩, h5⟩, h6⟩ := hc
      subst h1
      split
      · rename_i ix hg
        obtain ⟨te, q1, q2⟩ := sx1_ok G hi hz hf (pn := pn) ea
        obtain ⟨tf, q3, q4⟩ := sx1_ok G hi hz hf (pn := pn) eb
        unfold nameOf at hi
        simp only at hi
        cases hs : slotOf c x with
        | none => rw [hs] at hi; cases hi
        | some j =>
          rw [hs] at hi
          cases hi
          obtain ⟨m1, m2⟩ := slot_ok hs
          have hN : (X.suite a ((a, oe) :: pn)).N = c.N := G.N
          have hv : PE (X.suite a ((a, oe) :: pn)) (.Name x p2) (tVar j) := pe_var (by rw [hN]; exact m1) (.inl (by show X.env.scope.names.lookup x = _; rw [G.sc]; exact m2)) h2 h3
          rw [G.gl] at hg
          obtain ⟨C', f1, f2, f3⟩ := G.fac.exc k0 ix hg
          have hk0 : PE (X.suite a ((a, oe) :: pn)) (.Name k0 p3) (tC (.ref C')) := pe_glob (by show X.env.kindOf k0 = _; exact G.gl_ h5) (by show X.mg k0 = _; rw [G.mg]; exact f2) rfl h6
          refine ⟨fun σ H Q => ∃ ρ ds S cc fs v S', SxAt g (some j) a cls d ρ ds S cc fs σ H ∧ evX g.pg ds cc fs (.ite (.isin ix) (sx1 c (some x) ea) (sx1 c (some x) eb)) S = some (.ok v, S') ∧ PostV g ρ H v S' Q, ⟨fun pins s σ H Q I h => ?_⟩, fun σ H Q ρ ds S cc fs v S' A h q => ⟨ρ, ds, S, cc, fs, v, S', A, h, q⟩⟩
          obtain ⟨ρ, ds, S, cc, fs, v, S', A, h, q⟩ := h
          unfold evX at h
          obtain ⟨r1, e1⟩ := bind_some h
          have e1' := e1
          unfold evX at e1'
          by_cases hsx : g.pg.sx = true
          · rw [if_pos hsx] at e1'
            have kg := G.fac.kg hsx
            obtain ⟨C, hx, ecls, xv⟩ := id A.xv
            subst ecls
            cases hci : g.pg.exs[cc]? with
            | none => rw [hci] at e1'; cases e1'
            | some ci =>
              rw [hci] at e1'
              cases e1'
              rw [bind_ok e1] at h
              have hdx : ∀ dx, d = some dx → ∃ vs, H dx = some (.xd vs) := fun dx ed => by
                rcases xv with ⟨_, e0⟩ | ⟨d0, vs, e0, _, e1⟩
                · rw [e0] at ed; cases ed
                · rw [e0] at ed; cases ed; exact ⟨vs, e1⟩
              have hcall : PE (X.suite a ((a, oe) :: pn)) (.Call (.Name "isinstance" p1) [.Name x p2, .Name k0 p3] [] p4) _ := pe_callB (isi_callX (X := X) (pn := pn) kg G.K hz hf hx) (show (X.suite a ((a, oe) :: pn)).env.kindOf ("isinstance" : Str) = _ from G.gl_ h4) (by show X.mg _ = none; rw [G.mg]; exact kg.is) PyProof.Rows.boot_isinstance (pa_cons hv (pa_cons hk0 pa_nil))
              refine (pe_ifExp (pt_val hcall) q1 q3).run pins s σ H Q I ?_
              refine ⟨_, A.ij j rfl, .ref C', .ref C', ci.up.contains ix, rfl, fun u z => z, kg.kk cc ix C C' ci hx hci f1, hdx, ?_⟩
              cases hb : ci.up.contains ix with
              | true =>
                rw [hb] at h
                refine ⟨true, rfl, ?_⟩
                exact q2 σ H Q ρ ds S cc fs v S' A h q
              | false =>
                rw [hb] at h
                refine ⟨false, rfl, ?_⟩
                exact q4 σ H Q ρ ds S cc fs v S' A h q
          · rw [if_neg hsx] at e1'
            cases e1'
      · exact sx_bad fun ds cc fs S r h => by unfold evX at h; cases h
    · exact sx_bad fun ds cc fs S r h => by unfold evX at h; cases h
  · exact sx1_ok G hi hz hf e
end
end LA

/-! Soundness: every statement that is compiled. -/
namespace LA
open PySem PySem.Spec PyProof.Rows L2
section
variable {g : GdX} {cl : Nat → List D → M D} {k : Nat} {n : Nat} {c : Cc} {W : WX} {X : Cx} {N : Nat}
/-- what a raise asks -/
def rdMk (g : GdX) (cl : Nat → List D → M D) (W : WX) (cc : Nat) (as : Es) : L2.St → Hp → XK → Prop := fun σ H Q => ∃ ρ ds S, Rel g.toGd ρ S H ∧ SlR g.toGd ρ H ds σ ∧
  MPost (evEs g.pg cl ds as S) (fun xs S1 => ∃ ci m fs, g.pg.exs[cc]? = some ci ∧ ci.exf = some m ∧ exFs xs m = some fs ∧ ∀ ρ1 H1 cls dd, ρ <+: ρ1 → TupK g.toGd H H1 → Rel g.toGd ρ1 S1 H1 → XV g ρ1 H1 cc fs cls dd → Q cls dd H1) (fun c fs S1 => PostX g ρ H c fs S1 fun cls dd H1 => W cls dd σ H1)
theorem mk_call (G : Cxt g k cl W c X) (hr : Room 3 X.A) {x : Str} {i : Nat} {es : List Expr} {as : Es} {p pos : Pos} (hd : x ∉ dunders) (hx : c.glob? x = some (.exc i)) (ha : PA X es (rdEs g cl W as)) (hs : es.any isStar = false) (hn : es = [] → as = .nil) :
    PMk X (.Call (.Name x p) es [] pos) (rdMk g cl W i as) := by
  obtain ⟨h1, h2⟩ := Cc.glob_ok hx
  rw [G.gl] at h2
  obtain ⟨C, f1, f2, f3⟩ := G.fac.exc x i h2
  have hdb : (x == ("__debug__" : Str)) = false := by simp [dunders] at hd; simpa using hd.1
  intro pins s σ H Q I h
  obtain ⟨ρ, ds, S, r, sl, q⟩ := h
  refine wpAny_Call_Name_kw (ld_glob I (G.gl_ h1) (by rw [G.mg]; exact f2) ?_ hdb)
  have hq : rdEs g cl W as σ H (fun vs H1 => ∃ ρ1 S1 xs ci m fs, ρ <+: ρ1 ∧ TupK g.toGd H H1 ∧ Rel g.toGd ρ1 S1 H1 ∧ DVs g.toGd ρ1 H1 xs vs ∧ g.pg.exs[i]? = some ci ∧ ci.exf = some m ∧ exFs xs m = some fs ∧ ∀ ρ2 H2 cls dd, ρ <+: ρ2 → TupK g.toGd H H2 → Rel g.toGd ρ2 S1 H2 → XV g ρ2 H2 i fs cls dd → Q cls dd H2) :=
    ⟨ρ, ds, S, r, sl, q.imp (fun xs S1 ⟨ci, m, fs, e1, e2, e3, kk⟩ ρ1 H1 vs p1 t1 r1 dv => ⟨ρ1, S1, xs, ci, m, fs, p1, t1, r1, dv, e1, e2, e3, kk⟩) fun _ _ _ z => z⟩
  have fin : ∀ {us : List Value} {vs : List V} {H1 : Hp} {s1 : Shared}, Inv X pins σ H1 s1 → Vals vs us → (∃ ρ1 S1 xs ci m fs, ρ <+: ρ1 ∧ TupK g.toGd H H1 ∧ Rel g.toGd ρ1 S1 H1 ∧ DVs g.toGd ρ1 H1 xs vs ∧ g.pg.exs[i]? = some ci ∧ ci.exf = some m ∧ exFs xs m = some fs ∧ ∀ ρ2 H2 cls dd, ρ <+: ρ2 → TupK g.toGd H H2 → Rel g.toGd ρ2 S1 H2 → XV g ρ2 H2 i fs cls dd → Q cls dd H2) →
      wpAny (model X.prog X.w) X.A (PySem.call (.ref C) us) (MkP X pins σ Q) X.xe s1 := by
    rintro us vs H1 s1 I1 rv ⟨ρ1, S1, xs, ci, m, fs, p1, t1, r1, dv, e1, e2, e3, kk⟩
    exact G.fac.exm i C ci m f1 e1 e2 X pins s1 σ H1 us vs xs ρ1 S1 fs Q G.prog G.w G.K G.mg G.base hr G.calm I1 rv r1 dv e3 fun ρ2 H2 dd p2 t2 r2 xv => kk ρ2 H2 _ dd (p1.trans p2) (t1.trans t2) r2 xv
  cases es with
  | nil =>
    cases hn rfl
    obtain ⟨ρ0, ds0, S0, r0, sl0, q0⟩ := hq
    exact PySem.W.callWith_K0 I.kIn (by rw [G.K]; exact f3) (fin (us := []) (vs := []) I .nil ((show PostVs g ρ0 H [] S0 _ from q0) ρ0 H [] (List.prefix_refl _) .refl r0 .nil))
  | cons e es =>
    obtain ⟨hs1, hs2⟩ := Bool.or_eq_false_iff.mp (show (isStar e || es.any isStar) = false from hs)
    refine PySem.W.callWith_K (h₀ := X.base) I.ok.mod.kin (by rw [G.K]; exact f3) (wpAny_mono (ha.run pos pins s σ H _ I hq) (fun us s1 hh => ?_) fun _ _ z => z) (starEach_no hs1) (star_any hs2 _ _)
    obtain ⟨vs, H1, I1, rv, hh⟩ := hh
    exact ⟨I1.kIn, fin I1 rv hh⟩
theorem sws_raise (G : Cxt g k cl W c X) {e : Expr} {cc : Nat} {as : Es} {pos : Pos} (h : PMk X e (rdMk g cl W cc as)) : PS X (.Raise (some e) none pos) (rdS g W fun ds => evC g.pg cl N ds (.raise cc as)) := by
  refine PSto (ps_raise G.calm G.tk h) fun Dn σ H ⟨ρ, ds, S, r, sl, q⟩ => ?_
  unfold evC at q
  refine ⟨ρ, ds, S, r, sl, (q.inE sl).imp (fun xs S1 z => ?_) fun _ _ _ z => z⟩
  cases ec : g.pg.exs[cc]? with
  | none => rw [ec] at z; exact z.elim
  | some ci =>
    rw [ec] at z
    simp only at z
    cases em : ci.exf with
    | none => rw [em] at z; exact z.elim
    | some m =>
      rw [em] at z
      simp only at z
      cases ef : exFs xs m with
      | none => rw [ef] at z; exact z.elim
      | some fs =>
        rw [ef] at z
        exact ⟨ci, m, fs, rfl, em, ef, fun ρ1 H1 cls dd p1 t1 r1 xv => (show ExP g ρ H cc fs ds S1 W from z) ρ1 H1 σ cls dd p1 t1 r1 (sl.mono p1 t1) xv⟩
variable (g cl k N)
/-- what a body's context must have -/
structure BOk (k : Nat) (cl : Nat → List D → M D) (c : Cc) (W : WX) (X : Cx) : Prop where
  G : Cxt g k cl W c X
  hr : Room (k + 1) X.A
  h3 : Room 3 X.A
  fn : c.sc.kind = .function
  st : StOk X c (locOk c.sc)
  hp : PassesOwn (model X.prog X.w) X.A X.env X.xe
  so : X.stack = X.env :: X.outer
  fr : X.env.frame = some X.env.locals
def SS (n : Nat) : Prop := ∀ (c : Cc) (W : WX) (X : Cx), BOk g k cl c W X → ∀ s a, compS c n s = some a → PS X s (rdS g W fun ds => evC g.pg cl N ds a)
def SSs (n : Nat) : Prop := ∀ (c : Cc) (W : WX) (X : Cx), BOk g k cl c W X → ∀ s a, compSs c n s = some a → PSs X s (rdS g W fun ds => evCs g.pg cl N ds a)
variable {g cl k N}
/-- a statement that is not served: the interpreter stops there -/
theorem sws_off {s : Stmt} {as : Es} {i : Nat} : PS X s (rdS g W fun ds => evC g.pg cl N ds (.super i as)) :=
  ⟨fun _ _ _ _ _ _ ⟨_, ds, S, _, _, h⟩ => by
    have e : evC g.pg cl N ds (.super i as) S = none := by unfold evC; rfl
    have h' : FinP g _ _ W _ (evC g.pg cl N ds (.super i as) S) := h
    rw [e] at h'
    exact h'.elim⟩
theorem stepSs (hS : SS g cl k N n) (hSs : SSs g cl k N n) : SSs g cl k N (n + 1) := by
  intro c W X B s a h
  cases s with
  | nil => cases h; exact sws_nil
  | cons e r =>
    unfold compSs at h
    cases h1 : compS c n e with
    | none =>
      cases h2 : compSs c n r with
      | none => rw [h1, h2] at h; cases h
      | some b =>
        rw [h1, h2] at h
        cases h
        exact sws_cons sws_off (hSs c W X B r b h2)
    | some x =>
      cases h2 : compSs c n r with
      | none => rw [h1, h2] at h; cases h
      | some b =>
        rw [h1, h2] at h
        cases h
        exact sws_cons (hS c W X B e x h1) (hSs c W X B r b h2)
/-- name = e -/
theorem step_asgN (B : BOk g k cl c W X) {y : Str} {py : Pos} {e : Expr} {pos : Pos} {t : Tg} {x : LA.E} (ho : tgOk (locOk c.sc) n (.Name y py) = true) (hpo : parOk c (.Name y py) e = true) (ht : compTg c n (.Name y py) = some t) (hx : compE c n e = some x) :
    PS X (.Assign [.Name y py] e pos) (rdS g W fun ds => evC g.pg cl N ds (.asg t x)) := by
  cases n with
  | zero => cases ht
  | succ n =>
    unfold compTg at ht
    cases hi : c.loc? y with
    | none => rw [hi] at ht; cases ht
    | some i =>
      rw [hi] at ht
      cases ht
      have hk := B.st y ho
      have he := ((snd_all g cl k (n + 1)).1 c W X B.G B.hr e x hx).1
      by_cases hc : isComp e = false
      · exact sws_set B.G.toGk he hi hk (swaps_no hc)
      · have hIall := snd_all g cl k n
        cases e <;> first | exact absurd rfl hc | skip
        · -- a list comprehension
          rename_i elt gs scope cpos
          have hsw := swC_lc (elt := elt) (gs := gs) (scope := scope) (pos := cpos) (py := py) (y := y) (l := pos.line) B.G.toGk B.fn
          cases hb : swC c y py scope cpos with
          | false => rw [hb] at hsw; exact sws_set B.G.toGk he hi hk hsw
          | true =>
            have G := B.G
            have hr := B.hr
            have hE := hIall.1
            have hI := hIall.2.2.2.2.2
            have h := hx
            unfold compE at h
            split at h
            · rename_i t0 it ifs
              cases h1 : compI c n it with
              | none => rw [h1] at h; cases h
              | some i0 =>
                cases h2 : compTg (c.blk scope) n t0 with
                | none => rw [h1, h2] at h; cases h
                | some t =>
                  cases h4 : compE (c.blk scope) n elt with
                  | none => rw [h1, h2, h4] at h; split at h <;> simp_all
                  | some x0 =>
                    have fin : ∀ {f : LA.E}, (InB X scope fun Y => PTs Y ifs (rdT g cl Wn f)) → (if (blkC c.N c.sc scope (ownOf c.N scope.names) && (tgIx t).all (((ownOf c.N scope.names).map fun p => p.2).contains ·) && tgOk (locOk scope) n t0 && tgFit t0 i0 && !isSet it) = true then some (E.lc x0 t i0 f ((ownOf c.N scope.names).map fun p => p.2)) else none) = some x →
                        PS X (.Assign [.Name y py] (.ListComp elt [⟨t0, it, ifs, 0⟩] scope cpos) pos) (rdS g W fun ds => evC g.pg cl N ds (.asg (.name i) x)) := by
                      intro f hf h
                      by_cases hc : (blkC c.N c.sc scope (ownOf c.N scope.names) && (tgIx t).all (((ownOf c.N scope.names).map fun p => p.2).contains ·) && tgOk (locOk scope) n t0 && tgFit t0 i0 && !isSet it) = true
                      · rw [if_pos hc] at h
                        cases h
                        obtain ⟨hc, c5⟩ := comp_parts hc
                        obtain ⟨hc, c4⟩ := comp_parts hc
                        obtain ⟨hc, c3⟩ := comp_parts hc
                        obtain ⟨c1, c2⟩ := comp_parts hc
                        exact sws_setLc G B.fn hi hb (hI c W X G hr t0 it i0 h1 c4) c1 h2 c3 (tg_own c2) hf (fun s H C cs fp => (hE (c.blk scope) Wn _ (G.blk s H scope C cs fp) hr elt x0 h4).1) (by simpa using c5)
                      · rw [if_neg hc] at h; cases h
                    rw [h1, h2, h4] at h
                    rcases ifs with _ | ⟨e, _ | ⟨e2, r⟩⟩
                    · exact fin (fun _ _ _ _ _ => pts_true) h
                    · cases h3 : compE (c.blk scope) n e with
                      | none => simp only [h3] at h; cases h
                      | some f =>
                        simp only [h3] at h
                        exact fin (fun s H C cs fp => pts_one (hE (c.blk scope) Wn _ (G.blk s H scope C cs fp) hr e f h3).2.1) h
                    · cases h
            · rename_i t0 it t02 it2
              cases h1 : compI c n it with
              | none => rw [h1] at h; cases h
              | some i0 =>
                cases h2 : compTg (c.blk scope) n t0 with
                | none => rw [h1, h2] at h; cases h
                | some t =>
                  cases h3 : compI (c.blk scope) n it2 with
                  | none => rw [h1, h2, h3] at h; cases h
                  | some i2 =>
                    cases h4 : compTg (c.blk scope) n t02 with
                    | none => rw [h1, h2, h3, h4] at h; cases h
                    | some t2 =>
                      cases h5 : compE (c.blk scope) n elt with
                      | none => rw [h1, h2, h3, h4, h5] at h; cases h
                      | some x0 =>
                        rw [h1, h2, h3, h4, h5] at h
                        simp only at h
                        split at h
                        · rename_i hc
                          cases h
                          obtain ⟨hc, c9⟩ := comp_parts hc
                          obtain ⟨hc, c8⟩ := comp_parts hc
                          obtain ⟨hc, c7⟩ := comp_parts hc
                          obtain ⟨hc, c6⟩ := comp_parts hc
                          obtain ⟨hc, c4⟩ := comp_parts hc
                          obtain ⟨hc, c3⟩ := comp_parts hc
                          obtain ⟨c1, c2⟩ := comp_parts hc
                          rw [List.all_append] at c2
                          obtain ⟨c2a, c2b⟩ := comp_parts c2
                          exact sws_setLc2 G B.fn hi hb (hI c W X G hr t0 it i0 h1 c6) c1 h2 c3 (tg_own c2a) (fun s H C cs fp => hI (c.blk scope) Wn _ (G.blk s H scope C cs fp) hr t02 it2 i2 h3 c7) h4 c4 (tg_own c2b)
                            (fun s H C cs fp => (hE (c.blk scope) Wn _ (G.blk s H scope C cs fp) hr elt x0 h5).1) (by simpa using c8) (by simpa using c9)
                        · cases h
            · cases h
        · cases hpo
        · cases hpo
theorem each_one {tg : Expr} {env : Env} (h : isStar tg = false) : (assignEach [tg] env).map (·.2) = [assign tg env] := by
  cases tg <;> first | rfl | exact absurd h (by simp [isStar])
theorem dups_le : ∀ (n : Nat) (q : List Str), q.length ≤ n → q.eraseDups.length ≤ q.length
  | _, [], _ => Nat.le_refl _
  | 0, _ :: _, h => by simp at h
  | n + 1, a :: q, h => by
    rw [List.eraseDups_cons, List.length_cons, List.length_cons]
    have f1 := List.length_filter_le (fun b => !b == a) q
    have f2 := dups_le n (q.filter fun b => !b == a) (by simp at h; omega)
    omega
theorem nodup3 {x y z : Str} (h : [x, y, z].eraseDups.length = [x, y, z].length) : x ≠ y ∧ x ≠ z ∧ y ≠ z := by
  have h12 := names_nodup h x y [z] rfl
  rw [List.eraseDups_cons] at h
  have e1 : ([y, z].filter fun b => !b == x) = y :: ([z].filter fun b => !b == x) := by
    rw [List.filter_cons, if_pos (by simpa using fun e => h12 e.symm)]
  rw [e1] at h
  have l1 := dups_le _ (y :: ([z].filter fun b => !b == x)) (Nat.le_refl _)
  have h13 : x ≠ z := by
    rintro rfl
    simp at h l1
    omega
  have e2 : ([z].filter fun b => !b == x) = [z] := by
    rw [List.filter_cons, if_pos (by simpa using fun e => h13 e.symm)]; rfl
  rw [e2] at h
  have h23 := names_nodup (l := [y, z]) (by simpa using h) y z [] rfl
  exact ⟨h12, h13, h23⟩
theorem tgs_cons {n : Nat} {e : Expr} {r : List Expr} {t : Tg} (h : compTg.compTgs c n (e :: r) = some t) : ∃ m a b, compTg c m e = some a ∧ compTg.compTgs c m r = some b ∧ t = .cons a b := by
  cases n with
  | zero => cases h
  | succ n =>
    unfold compTg.compTgs at h
    cases h1 : compTg c n e with
    | none => rw [h1] at h; cases h
    | some a =>
      cases h2 : compTg.compTgs c n r with
      | none => rw [h1, h2] at h; cases h
      | some b => rw [h1, h2] at h; cases h; exact ⟨n, a, b, h1, h2, rfl⟩
theorem tgs_nil {n : Nat} {t : Tg} (h : compTg.compTgs c n [] = some t) : t = .nil := by
  cases n <;> cases h
  rfl
/-- (x, y, ..) = e -/
theorem step_asgT (B : BOk g k cl c W X) {ts : List Expr} {kk : Nat} {tp : Pos} {e : Expr} {pos : Pos} {t : Tg} {x : LA.E} (ho : tgOk (locOk c.sc) n (.Tuple ts kk tp) = true) (hpo : parOk c (.Tuple ts kk tp) e = true) (ht : compTg c n (.Tuple ts kk tp) = some t) (hx : compE c n e = some x) :
    PS X (.Assign [.Tuple ts kk tp] e pos) (rdS g W fun ds => evC g.pg cl N ds (.asg t x)) := by
  have G := B.G
  have he := ((snd_all g cl k n).1 c W X G B.hr e x hx).1
  have hg := snd_tg G.toGk B.st n _ t ht ho
  have hs : swapsWithSole [.Tuple ts kk tp] e pos.line X.env = pure false := swaps_other (t := .Tuple ts kk tp) (l := pos.line) (env := X.env) fun _ _ h => nomatch h
  have plain : swappedStores [.Tuple ts kk tp] e X.env = pure none → PS X (.Assign [.Tuple ts kk tp] e pos) (rdS g W fun ds => evC g.pg cl N ds (.asg t x)) := fun hw => sws_asg he hg hs hw rfl
  cases e <;> first | exact plain rfl | skip
  rename_i vs k2 p2
  have hpo' : (parK c ts vs).isSome = true := hpo
  obtain ⟨r, hr⟩ := Option.isSome_iff_exists.mp hpo'
  have hw := parK_ok c X.env G.sc (G.toGk.kind B.fn) (k1 := kk) (k2 := k2) (p1 := tp) (p2 := p2) hr
  cases r with
  | none => exact plain hw
  | some names =>
    -- which names
    unfold parK at hr
    split at hr
    · cases hr
    rename_i c1
    split at hr
    · cases hr
    rename_i c2
    split at hr
    · cases hr
    rename_i c3
    split at hr
    · cases hr
    split at hr
    · cases hr
    have hr' : parN c ((ts.head?.map (·.pos.line)).getD 0) ts = names := Option.some.inj (Option.some.inj hr)
    rw [hr'] at c3
    generalize ((ts.head?.map (·.pos.line)).getD 0) = line at hr'
    have c1' := Bool.eq_false_iff.mpr c1
    have c3' := Bool.eq_false_iff.mpr c3
    simp only [Bool.or_eq_false_iff, Bool.not_eq_false', Bool.or_eq_true, bne_eq_false_iff_eq, beq_iff_eq] at c1' c3'
    obtain ⟨l23, lv⟩ := c1'
    obtain ⟨ln, lu⟩ := c3'
    cases n with
    | zero => cases ht
    | succ n =>
    unfold compE at hx
    cases hxs : compEs c n vs with
    | none => rw [hxs] at hx; cases hx
    | some as =>
    rw [hxs] at hx
    cases hx
    have ha := ((snd_all g cl k n).2.1 c W X G B.hr vs as hxs).1
    have names_of : ∀ (m : Nat) (e : Expr) (r : List Expr) (line : Nat) (nm : List Str) (tt : Tg), parN c line (e :: r) = nm → nm.length = r.length + 1 → compTg c m e = some tt → ∃ y p i, e = .Name y p ∧ c.sc.names.lookup y = some .local ∧ nm = y :: parN c line r ∧ c.loc? y = some i ∧ tt = .name i := by
      intro m e r line nm tt h1 h2 h3
      have lens : ∀ l : List Expr, (parN c line l).length ≤ l.length := by
        intro l
        induction l with
        | nil => exact Nat.le_refl _
        | cons e l ih =>
          cases e <;> first | (exact Nat.le_succ_of_le ih) | skip
          unfold parN
          split
          · exact Nat.succ_le_succ ih
          · exact Nat.le_succ_of_le ih
      cases e <;> first | (exfalso; have hh : parN c line r = nm := h1; have := lens r; rw [hh] at this; omega) | skip
      rename_i y p
      obtain ⟨q1, q2⟩ := loc_par h1 h2
      cases m with
      | zero => cases h3
      | succ m =>
        unfold compTg at h3
        cases hi : c.loc? y with
        | none => rw [hi] at h3; cases h3
        | some i => rw [hi] at h3; cases h3; exact ⟨y, p, i, rfl, q1, q2, hi, rfl⟩
    unfold compTg at ht
    rcases l23 with l2 | l3
    · rcases ts with _ | ⟨e1, _ | ⟨e2, _ | ⟨e3, r⟩⟩⟩
      · simp at l2
      · simp at l2
      · rcases vs with _ | ⟨v1, _ | ⟨v2, _ | ⟨v3, rv⟩⟩⟩
        · simp at lv
        · simp at lv
        · obtain ⟨m1, a1, b1, q1, q2, rfl⟩ := tgs_cons ht
          obtain ⟨m2, a2, b2, q3, q4, rfl⟩ := tgs_cons q2
          cases tgs_nil q4
          obtain ⟨y1, p1, i1, rfl, l1, n1, hi1, rfl⟩ := names_of _ e1 [e2] _ names a1 hr' (by simpa using ln) q1
          obtain ⟨y2, p2', i2, rfl, l2', n2, hi2, rfl⟩ := names_of _ e2 [] _ _ a2 rfl (by rw [n1] at ln; simpa using ln) q3
          rw [n2] at n1
          have en : names = [y1, y2] := n1
          subst en
          exact sws_par2 G.toGk ha hi1 hi2 l1 l2' (names_nodup lu y1 y2 [] rfl) hw
        · simp at lv
      · simp at l2
    · rcases ts with _ | ⟨e1, _ | ⟨e2, _ | ⟨e3, _ | ⟨e4, r⟩⟩⟩⟩
      · simp at l3
      · simp at l3
      · simp at l3
      · rcases vs with _ | ⟨v1, _ | ⟨v2, _ | ⟨v3, _ | ⟨v4, rv⟩⟩⟩⟩
        · simp at lv
        · simp at lv
        · simp at lv
        · obtain ⟨m1, a1, b1, q1, q2, rfl⟩ := tgs_cons ht
          obtain ⟨m2, a2, b2, q3, q4, rfl⟩ := tgs_cons q2
          obtain ⟨m3, a3, b3, q5, q6, rfl⟩ := tgs_cons q4
          cases tgs_nil q6
          obtain ⟨y1, p1, i1, rfl, l1, n1, hi1, rfl⟩ := names_of _ e1 [e2, e3] _ names a1 hr' (by simpa using ln) q1
          obtain ⟨y2, p2', i2, rfl, l2', n2, hi2, rfl⟩ := names_of _ e2 [e3] _ _ a2 rfl (by rw [n1] at ln; simpa using ln) q3
          obtain ⟨y3, p3', i3, rfl, l3', n3, hi3, rfl⟩ := names_of _ e3 [] _ _ a3 rfl (by rw [n1, n2] at ln; simpa using ln) q5
          rw [n2, n3] at n1
          have en : names = [y1, y2, y3] := n1
          subst en
          obtain ⟨d12, d13, d23⟩ := nodup3 lu
          exact sws_par3 G.toGk ha hi1 hi2 hi3 l1 l2' l3' d12 d13 d23 hw
        · simp at lv
      · simp at l3
end
end LA

/-! Soundness: try. -/
namespace LA
open PySem PySem.Spec PyProof.Rows L2
/-- what a clause's suite reads -/
def tsX (g : GdX) (i : Option Nat) (t : Nat) (x : SX) : Addr → Value → Option Addr → TS := fun a cls d Dn σ H => ∃ ρ ds S cc fs, Rel g.toGd ρ S H ∧ SlR g.toGd ρ H ds σ ∧ XV g ρ H cc fs cls d ∧ (∀ j, i = some j → j < σ.length → σ[j]? = some (some (.ref a))) ∧
  match noEx (evX g.pg ds cc fs x) S with
  | some (.ok v, S') => t < ds.length ∧ NxP g ρ H (ds.set t (some v)) S' Dn.nx
  | _ => False
section
variable {g : GdX} {cl : Nat → List D → M D} {k : Nat} {n : Nat} {c : Cc} {W : WX} {X : Cx} {N : Nat}
/-- a clause's suite -/
theorem su_ok (G : Cxt g k cl W c X) (h3 : Room 3 X.A) {nm : Option Str} {y : Str} {py pos : Pos} {e : Expr} {i : Option Nat} {t : Nat} (hi : nameOf c nm = some i) (ht : slotOf c y = some t) :
    SuOk X [.Assign [.Name y py] e pos] (tsX g i t (sxOf c nm e)) := by
  intro a oe cls d pn hz hf
  have off : ∀ {st : Stmt}, PSs (X.suite a ((a, oe) :: pn)) [st] (tsX g i t .bad a cls d) := fun {st} => ⟨fun _ _ _ _ _ _ ⟨_, ds, S, cc, fs, _, _, _, _, z⟩ => by
    have e0 : noEx (evX g.pg ds cc fs .bad) S = none := by unfold evX noEx; rfl
    rw [e0] at z
    exact z.elim⟩
  have gen : ∀ (x : SX), ¬ isComp e = true → SxOk g (X.suite a ((a, oe) :: pn)) i a cls d e x → PSs (X.suite a ((a, oe) :: pn)) [.Assign [.Name y py] e pos] (tsX g i t x a cls d) := by
    intro x hcmp hx
    obtain ⟨te, h1, h2⟩ := hx
    obtain ⟨n1, n2⟩ := slot_ok ht
    have hN : (X.suite a ((a, oe) :: pn)).N = c.N := G.N
    refine ⟨fun pins s σ H Dn I h => ?_⟩
    have hsw : swapsWith e (some (.Name y py)) pos.line (X.suite a ((a, oe) :: pn)).env = pure false := by
      cases e <;> first | rfl | exact absurd rfl hcmp
    · have st := ps_set (X := X.suite a ((a, oe) :: pn)) (i := t) (x := y) (pos' := py) (pos := pos) (by rw [hN]; exact G.nd) (by rw [hN]; exact n1) (.inl (by show X.env.scope.names.lookup y = _; rw [G.sc]; exact n2)) h1 hsw (.inr (by show X.env.scope.names.lookup y = _; rw [G.sc]; exact n2))
      refine (pss_one st).run pins s σ H Dn I ?_
      obtain ⟨ρ, ds, S, cc, fs, r, sl, xv, hj, z⟩ := h
      unfold noEx at z
      cases hv : evX g.pg ds cc fs x S with
      | none => rw [hv] at z; exact z.elim
      | some res =>
        obtain ⟨rr, S'⟩ := res
        cases rr with
        | ex _ _ => rw [hv] at z; exact z.elim
        | ok v =>
          rw [hv] at z
          obtain ⟨z1, z2⟩ := z
          refine h2 σ H _ ρ ds S cc fs v S' ⟨r, sl, xv, fun j ej => hj j ej ?_⟩ hv fun ρ1 H1 v1 p1 t1 r1 dv => ?_
          · subst ej
            have : nameOf c nm = some (some j) := hi
            unfold nameOf at this
            cases nm with
            | none => cases this
            | some n0 =>
              simp only at this
              cases hs : slotOf c n0 with
              | none => rw [hs] at this; cases this
              | some j' =>
                rw [hs] at this
                cases this
                have m1 := (slot_ok hs).1
                rw [I.len, hN]
                exact (List.getElem?_eq_some_iff.mp m1).1
          · exact z2 ρ1 H1 _ p1 t1 r1 ((sl.mono p1 t1).set t dv)
  unfold sxOf
  split
  · rename_i f p1 x p2 p3
    split
    · rename_i hc
      simp only [Bool.and_eq_true, decide_eq_true_eq, Bool.not_eq_true'] at hc
      obtain ⟨⟨⟨h1, h2⟩, h4⟩, h5⟩ := hc
      subst h1
      split
      · rename_i fi hg
        obtain ⟨g1, g2⟩ := Cc.glob_ok hg
        rw [G.gl] at g2
        obtain ⟨fa, f1, f2, f3⟩ := G.fac.fn f fi g2
        obtain ⟨n1, n2⟩ := slot_ok ht
        unfold nameOf at hi
        simp only at hi
        cases hs : slotOf c x with
        | none => rw [hs] at hi; cases hi
        | some j =>
          rw [hs] at hi
          cases hi
          obtain ⟨m1, m2⟩ := slot_ok hs
          have hN : (X.suite a ((a, oe) :: pn)).N = c.N := G.N
          have hv : PE (X.suite a ((a, oe) :: pn)) (.Name x p2) (tVar j) := pe_var (by rw [hN]; exact m1) (.inl (by show X.env.scope.names.lookup x = _; rw [G.sc]; exact m2)) h4 h5
          -- the call
          have hcall : PE (X.suite a ((a, oe) :: pn)) (.Call (.Name f p1) [.Name x p2] [] p3) (fun σ H Q => σ[j]? = some (some (.ref a)) ∧ ∃ (C : Addr) (ks : List (Option Nat)) (cc : Nat) (ci : ExI), cls = .ref C ∧ (∀ dx, d = some dx → ∃ vs, H dx = some (.xd vs)) ∧ lookA fi g.pg.kin = some ks ∧ g.exA[cc]? = some C ∧ g.pg.exs[cc]? = some ci ∧
              ∀ (H2 : Hp) (p : Addr), (∀ b u, H b = some u → H2 b = some u) → H2 p = none → Q (.ref p) (upd H2 p (.lst (ks.map fun k => V.bl (match k with | some j => ci.up.contains j | none => true))))) := by
            refine ⟨fun pins s σ H Q I ⟨s1, C, ks, cc, ci, ec, hxd, hk, hx, hci, hq⟩ => ?_⟩
            subst ec
            refine wpAny_Call_Name_kw (ld_glob I (by show X.env.kindOf f = _; exact G.gl_ g1) (by show X.mg f = _; rw [G.mg]; exact f2) ?_ h2)
            refine PySem.W.callWith_K (h₀ := X.base) I.ok.mod.kin (by show PySem.W.keepIn X.K _ = true; rw [G.K]; exact f3) (wpAny_mono ((pa_cons hv pa_nil).run p3 pins s σ H (fun ws H1 => ws = [.ref a] ∧ H1 = H) I ⟨_, s1, rfl, rfl⟩) (fun us s1' hh => ?_) fun _ _ z => z) rfl rfl
            obtain ⟨ws, H1, I1, r1, rfl, rfl⟩ := hh
            refine ⟨I1.kIn, ?_⟩
            cases r1 with
            | cons ra rr =>
              cases rr
              cases ra
              exact G.fac.kin fi ks fa hk f1 X a oe d pn pins s1' σ H1 cc C ci Q G.prog G.w G.K G.mg G.base h3 I1 hz hf hxd hx hci hq
          refine ⟨fun pins s σ H Dn I h => ?_⟩
          have st := ps_set (X := X.suite a ((a, oe) :: pn)) (i := t) (x := y) (pos' := py) (pos := pos) (by rw [hN]; exact G.nd) (by rw [hN]; exact n1) (.inl (by show X.env.scope.names.lookup y = _; rw [G.sc]; exact n2)) hcall rfl (.inr (by show X.env.scope.names.lookup y = _; rw [G.sc]; exact n2))
          refine (pss_one st).run pins s σ H Dn I ?_
          obtain ⟨ρ, ds, S, cc, fs, r, sl, ⟨C, hx, ec, xv⟩, hj, z⟩ := h
          refine ⟨hj j rfl (by rw [I.len, hN]; exact (List.getElem?_eq_some_iff.mp m1).1), C, ?_⟩
          unfold evX noEx at z
          cases hk : lookA fi g.pg.kin with
          | none => rw [hk] at z; exact z.elim
          | some ks =>
            cases hci : g.pg.exs[cc]? with
            | none => rw [hk, hci] at z; exact z.elim
            | some ci =>
              rw [hk, hci] at z
              obtain ⟨z1, z2⟩ := z
              refine ⟨ks, cc, ci, ec, fun dx ed => (by
                rcases xv with ⟨_, e0⟩ | ⟨d0, vs, e0, _, e1⟩
                · rw [e0] at ed; cases ed
                · rw [e0] at ed; cases ed; exact ⟨vs, e1⟩), rfl, hx, hci, fun H2 p up hp => ?_⟩
              have tk : TupK g.toGd H H2 := ⟨fun b xs q => by
                rcases q with q | q
                · exact .inl (by
                    rcases q with q | ⟨o, q⟩
                    · exact .inl (up _ _ q)
                    · exact .inr ⟨o, up _ _ q⟩)
                · exact .inr q, fun b o u q => up _ _ q⟩
              have r2 : Rel g.toGd ρ S H2 := r.mono tk fun b hb => by
                cases q : H b with
                | none => exact absurd hb (r.notin q)
                | some u => exact up _ _ q
              have bls : ∀ l : List (Option Nat), DVs g.toGd (ρ ++ [p]) (upd H2 p (.lst (ks.map fun k => V.bl (match k with | some j => ci.up.contains j | none => true)))) (l.map fun k => D.bl (match k with | some j => ci.up.contains j | none => true)) (l.map fun k => V.bl (match k with | some j => ci.up.contains j | none => true)) := by
                intro l
                induction l with
                | nil => exact DVs.nil
                | cons q l ih => exact DVs.cons (by unfold DV; rfl) ih
              have r3 := r2.new (o := .lst (ks.map fun k => D.bl (match k with | some j => ci.up.contains j | none => true)) false) hp ⟨_, bls ks, upd_same⟩
              have pre : ρ <+: ρ ++ [p] := List.prefix_append _ _
              have tk2 := tk.trans (TupK.new (o := .lst (ks.map fun k => V.bl (match k with | some j => ci.up.contains j | none => true))) hp)
              refine z2 _ _ _ pre tk2 r3 ((sl.mono pre tk2).set t ?_)
              unfold DV
              exact ⟨p, rfl, by rw [r.len.symm]; simp⟩
      · exact off
    · exact off
  · by_cases hcmp : isComp e = true
    · have eb : sx2 c nm e = .bad := by cases e <;> first | rfl | cases hcmp
      rw [eb]; exact off
    · exact gen _ hcmp (sx2_ok G hi hz hf e)
/-- the clauses, compiled and read -/
def HRel (g : GdX) : List (Nat × Option Nat × Nat × SX) → List TH → Prop
  | [], [] => True
  | (k, i, t, x) :: l, (c, i', ts) :: L => (∃ C, g.exA[k]? = some C ∧ c = .ref C) ∧ i' = i ∧ ts = tsX g i t x ∧ HRel g l L
  | _, _ => False
theorem hds_ok (G : Cxt g k cl W c X) (h3 : Room 3 X.A) : ∀ {hs : List ExceptHandler} {l : List (Nat × Option Nat × Nat × SX)}, compHs c hs = some l → ∃ L, HdA X hs L ∧ HRel g l L
  | [], l, h => by cases h; exact ⟨[], .nil, trivial⟩
  | h0 :: r, l, h => by
    obtain ⟨ty, nm, body, hp⟩ := h0
    cases ty <;> first | (cases h; done) | skip
    rename_i e0
    cases e0 <;> first | (cases h; done) | skip
    rename_i x np
    rcases body with _ | ⟨st, _ | ⟨_, _⟩⟩
    · cases h
    · cases st <;> first | (cases h; done) | skip
      rename_i tgs e pos
      rcases tgs with _ | ⟨tg, _ | ⟨_, _⟩⟩
      · cases h
      · cases tg <;> first | (cases h; done) | skip
        rename_i y py
        unfold compHs at h
        by_cases hd : x ∈ dunders
        · rw [if_pos hd] at h; cases h
        · rw [if_neg hd] at h
          cases h1 : excOf? c x with
          | none => rw [h1] at h; cases h
          | some k0 =>
            cases h2 : nameOf c nm with
            | none => rw [h1, h2] at h; cases h
            | some i =>
              cases h3' : slotOf c y with
              | none => rw [h1, h2, h3'] at h; cases h
              | some t =>
                cases h4 : compHs c r with
                | none => rw [h1, h2, h3', h4] at h; cases h
                | some lr =>
                  rw [h1, h2, h3', h4] at h
                  cases h
                  obtain ⟨L, q1, q2⟩ := hds_ok G h3 h4
                  have hx : c.glob? x = some (.exc k0) := by
                    unfold excOf? at h1
                    cases hg : c.glob? x with
                    | none => rw [hg] at h1; cases h1
                    | some q => rw [hg] at h1; cases q <;> cases h1; rfl
                  obtain ⟨g1, g2⟩ := Cc.glob_ok hx
                  rw [G.gl] at g2
                  obtain ⟨C, f1, f2, f3⟩ := G.fac.exc x k0 g2
                  have hn : Names X x (.ref C) := ⟨G.gl_ g1, by simp [dunders] at hd; simpa using hd.1, .inl (by rw [G.mg]; exact f2)⟩
                  have su := su_ok (X := X) (nm := nm) (py := py) (pos := pos) (e := e) G h3 h2 h3'
                  cases nm with
                  | none =>
                    cases h2
                    exact ⟨(.ref C, none, _) :: L, .bare hn su q1, ⟨C, f1, rfl⟩, rfl, rfl, q2⟩
                  | some n0 =>
                    have h2' : nameOf c (some n0) = some i := h2
                    unfold nameOf at h2'
                    simp only at h2'
                    cases hs : slotOf c n0 with
                    | none => rw [hs] at h2'; cases h2'
                    | some j =>
                      rw [hs] at h2'
                      cases h2'
                      obtain ⟨m1, m2⟩ := slot_ok hs
                      exact ⟨(.ref C, some j, _) :: L, .named hn (by rw [G.N]; exact m1) (by show X.env.scope.names.lookup n0 = _; rw [G.sc]; exact m2) su q1, ⟨C, f1, rfl⟩, rfl, rfl, q2⟩
      · simp [compHs] at h
    · simp [compHs] at h
def noNm (i : Option Nat) (ds : En) : En := match i with
  | some j => ds.set j none
  | none => ds
def hEnd (i : Option Nat) (t : Nat) (ds : En) : Option (R D × Sto) → Option (Fl × Sto)
  | some (.ok d, S') => if t < ds.length then some (.nx (noNm i (ds.set t (some d))), S') else none
  | _ => none
theorem w_ok (fac : Facts g) (eK : X.K = g.K) {Dn : Ends} {cc : Nat} {fs : List (Nat × D)} {cls : Value} {d : Option Addr} {ρ : List Addr} {H : Hp} {S : Sto} {ds : En} {σ : L2.St} (r : Rel g.toGd ρ S H) (sl : SlR g.toGd ρ H ds σ) (xv : XV g ρ H cc fs cls d) :
    ∀ {l : List (Nat × Option Nat × Nat × SX)} {L : List TH}, HRel g l L → FinP g ρ H W Dn (evH g.pg ds cc fs l S) → wAny X.K W Dn L cls d σ H
  | [], [], _, q => (show ExP g ρ H cc fs ds S W from q) ρ H σ cls d (List.prefix_refl _) .refl r sl xv
  | [], _ :: _, h, _ => h.elim
  | _ :: _, [], h, _ => h.elim
  | (k0, i, t, x) :: l, (c0, i', ts) :: L, ⟨⟨C, f1, ec⟩, ei, ets, hr⟩, q => by
    subst ec ei ets
    obtain ⟨C0, hx, ecls, xv'⟩ := id xv
    unfold evH at q
    cases hci : g.pg.exs[cc]? with
    | none => rw [hci] at q; exact q.elim
    | some ci =>
      rw [hci] at q
      simp only at q
      have em := fac.exm2 cc k0 C0 C ci hx hci f1
      refine ⟨ci.up.contains k0, by rw [eK, ecls]; exact em, fun hb a na => ?_, fun hb => ?_⟩
      · rw [if_pos hb] at q
        have q : FinP g ρ H W Dn (hEnd i' t ds (noEx (evX g.pg (noNm i' ds) cc fs x) S)) := by cases i' <;> exact q
        have sl' : SlR g.toGd ρ H (noNm i' ds) (inE i' a σ) := by
          cases i' with
          | none => exact sl
          | some j =>
            refine ⟨by simp [inE, noNm, sl.len], fun m d' e => ?_⟩
            have e : (ds.set j none)[m]? = some (some d') := e
            by_cases hm : m = j
            · subst hm
              rw [List.getElem?_set] at e
              rw [if_pos rfl] at e
              split at e <;> cases e
            · rw [List.getElem?_set_ne (Ne.symm hm)] at e
              obtain ⟨v, h1, h2⟩ := sl.at_ m d' e
              exact ⟨v, by show (σ.set j _)[m]? = _; rw [List.getElem?_set_ne (Ne.symm hm)]; exact h1, h2⟩
        refine ⟨ρ, _, S, cc, fs, r, sl', xv, fun j ej hj => ?_, ?_⟩
        · subst ej
          show (σ.set j (some (.ref a)))[j]? = _
          have : j < σ.length := by simpa [inE] using hj
          rw [List.getElem?_set_self this]
        · cases hv : noEx (evX g.pg (noNm i' ds) cc fs x) S with
          | none => rw [hv] at q; exact q.elim
          | some res =>
            obtain ⟨rr, S'⟩ := res
            cases rr with
            | ex _ _ => rw [hv] at q; exact q.elim
            | ok v =>
              rw [hv] at q
              have q : FinP g ρ H W Dn (if t < ds.length then some (.nx (noNm i' (ds.set t (some v))), S') else none) := q
              by_cases ht : t < ds.length
              · rw [if_pos ht] at q
                cases i' with
                | none => exact ⟨ht, q⟩
                | some j =>
                  refine ⟨by simpa [noNm] using ht, fun ρ1 H1 σ1 p1 t1 r1 s1 => ?_⟩
                  refine (show NxP g ρ H ((ds.set t (some v)).set j none) S' Dn.nx from q) ρ1 H1 (σ1.set j none) p1 t1 r1 ⟨by have := s1.len; simp [noNm] at this ⊢; exact this, fun m d' e => ?_⟩
                  by_cases hm : m = j
                  · subst hm
                    rw [List.getElem?_set, if_pos rfl] at e
                    split at e <;> cases e
                  · rw [List.getElem?_set_ne (Ne.symm hm)] at e
                    have e2 : ((ds.set j none).set t (some v))[m]? = some (some d') := by
                      by_cases hmt : m = t
                      · subst hmt
                        rw [List.getElem?_set_self ht] at e
                        rw [List.getElem?_set_self (by simpa using ht)]
                        exact e
                      · rw [List.getElem?_set_ne (Ne.symm hmt)] at e ⊢
                        rw [List.getElem?_set_ne (Ne.symm hm)]
                        exact e
                    obtain ⟨u, z1, z2⟩ := s1.at_ m d' e2
                    exact ⟨u, by rw [List.getElem?_set_ne (Ne.symm hm)]; exact z1, z2⟩
              · rw [if_neg ht] at q; exact q.elim
      · rw [if_neg (by rw [hb]; simp)] at q
        exact w_ok fac eK r sl xv hr q
/-- try: b, its clauses -/
theorem sws_try (B : BOk g k cl c W X) {body : List Stmt} {h0 : ExceptHandler} {hs : List ExceptHandler} {b : Cs} {l : List (Nat × Option Nat × Nat × SX)} {pos : Pos} (hb : ∀ (W' : WX) (X' : Cx), BOk g k cl c W' X' → PSs X' body (rdS g W' fun ds => evCs g.pg cl N ds b)) (hl : compHs c (h0 :: hs) = some l) :
    PS X (.Try body (h0 :: hs) [] [] pos) (rdS g W fun ds => evC g.pg cl N ds (.try_ b l)) := by
  have G := B.G
  obtain ⟨L, q1, q2⟩ := hds_ok G B.h3 hl
  refine PSto (ps_tryA (tb := fun W' => rdS g W' fun ds => evCs g.pg cl N ds b) B.so B.fr (by rw [G.N]; exact G.nd) G.tk (fun W' pn xe tk hp => hb W' (X.tr pn xe) { G := { prog := G.prog, w := G.w, K := G.K, mg := G.mg, base := G.base, N := G.N, nd := G.nd, sc := G.sc, gl := G.gl, an := G.an, room := G.room, calm := G.calm, fac := G.fac, lvl := G.lvl, tk := tk }, hr := B.hr, h3 := B.h3, fn := B.fn, st := B.st, hp := hp, so := B.so, fr := B.fr }) q1) fun Dn σ H ⟨ρ, ds, S, r, sl, q⟩ => ?_
  refine ⟨ρ, ds, S, r, sl, ?_⟩
  have q' : FinP g ρ H W Dn (evC g.pg cl N ds (.try_ b l) S) := q
  unfold evC at q'
  show FinP g ρ H _ Dn (evCs g.pg cl N ds b S)
  cases e : evCs g.pg cl N ds b S with
  | none => rw [e] at q'; exact q'.elim
  | some res =>
    obtain ⟨fl, S'⟩ := res
    rw [e] at q'
    cases fl with
    | nx ds' => exact q'
    | rt d => exact q'
    | ex cc fs ds' => exact fun ρ1 H1 σ1 cls d p1 t1 r1 s1 xv => w_ok G.fac G.K r1 s1 xv q2 (FinP.mono q' p1 t1)
end
end LA

/-! Soundness: all statements. -/
namespace LA
open PySem PySem.Spec PyProof.Rows L2
section
variable {g : GdX} {cl : Nat → List D → M D} {k : Nat} {n : Nat} {c : Cc} {W : WX} {X : Cx} {N : Nat}
theorem step_assign (B : BOk g k cl c W X) {tg e : Expr} {pos : Pos} {a : C} (h : compS c (n + 1) (.Assign [tg] e pos) = some a) : PS X (.Assign [tg] e pos) (rdS g W fun ds => evC g.pg cl N ds a) := by
  have G := B.G
  have hE := (snd_all g cl k n).1
  unfold compS at h
  simp only at h
  split at h
  · rename_i o f p1
    cases h1 : compE c n e with
    | none => rw [h1] at h; cases h
    | some x =>
      cases h2 : compE c n o with
      | none => rw [h1, h2] at h; cases h
      | some y =>
        cases h3 : ixOf f c.an with
        | none => rw [h1, h2, h3] at h; cases h
        | some m =>
          rw [h1, h2, h3] at h
          cases h
          exact sws_fld G (hE c W X G B.hr o y h2).1 (hE c W X G B.hr e x h1).1 (by rw [← G.an]; exact ixOf_get h3)
  · rename_i o i p1
    by_cases hc : (isComp e || isSlice i) = true
    · rw [if_pos hc] at h; cases h
    · rw [if_neg hc] at h
      obtain ⟨c1, c2⟩ := Bool.or_eq_false_iff.mp (Bool.eq_false_iff.mpr hc)
      cases h1 : compE c n e with
      | none => rw [h1] at h; cases h
      | some x =>
        cases h2 : compE c n o with
        | none => rw [h1, h2] at h; cases h
        | some y =>
          cases h3 : compE c n i with
          | none => rw [h1, h2, h3] at h; cases h
          | some z =>
            rw [h1, h2, h3] at h
            cases h
            exact sws_sub G (hE c W X G B.hr o y h2).1 (hE c W X G B.hr i z h3).1 (hE c W X G B.hr e x h1).1 c2 c1
  · by_cases hc : (parOk c tg e && tgOk (locOk c.sc) n tg) = true
    · rw [if_pos hc] at h
      obtain ⟨c1, c2⟩ := Bool.and_eq_true_iff.mp hc
      cases h1 : compTg c n tg with
      | none => rw [h1] at h; cases h
      | some t =>
        cases h2 : compE c n e with
        | none => rw [h1, h2] at h; cases h
        | some x =>
          rw [h1, h2] at h
          cases h
          cases tg <;> first | (exfalso; cases n <;> cases h1; done) | skip
          · exact step_asgN B c2 c1 h1 h2
          · exact step_asgT B c2 c1 h1 h2
    · rw [if_neg hc] at h; cases h
theorem stepS (hSs : SSs g cl k N n) : SS g cl k N (n + 1) := by
  intro c W X B s a h
  have G := B.G
  have hE := (snd_all g cl k n).1
  have hEs := (snd_all g cl k n).2.1
  have hI := (snd_all g cl k n).2.2.2.2.2
  cases s with
  | Pass pos => unfold compS at h; cases h; exact sws_pass
  | Expr e pos =>
    unfold compS at h
    simp only at h
    split at h
    · cases h; exact sws_doc
    · by_cases hc : isComp e = true
      · rw [if_pos hc] at h; cases h
      · rw [if_neg hc] at h
        cases h1 : compE c n e with
        | none => rw [h1] at h; cases h
        | some x =>
          rw [h1] at h
          cases h
          exact sws_ex (hE c W X G B.hr e x h1).1 (Bool.eq_false_iff.mpr hc)
  | Return v pos =>
    unfold compS at h
    simp only at h
    cases v with
    | none => cases h; exact sws_retN
    | some e =>
      simp only at h
      cases h1 : compE c n e with
      | none => rw [h1] at h; cases h
      | some x => rw [h1] at h; cases h; exact sws_ret (hE c W X G B.hr e x h1).1
  | If t x y pos =>
    unfold compS at h
    simp only at h
    cases h1 : compE c n t with
    | none => rw [h1] at h; cases h
    | some t1 =>
      cases h2 : compSs c n x with
      | none => rw [h1, h2] at h; cases h
      | some x1 =>
        cases h3 : compSs c n y with
        | none => rw [h1, h2, h3] at h; cases h
        | some y1 =>
          rw [h1, h2, h3] at h
          cases h
          exact sws_ite (hE c W X G B.hr t t1 h1).2.1 (hSs c W X B x x1 h2) (hSs c W X B y y1 h3)
  | Assign tgs e pos =>
    rcases tgs with _ | ⟨tg, _ | ⟨t2, r⟩⟩
    · unfold compS at h; cases h
    · exact step_assign B h
    · unfold compS at h; cases h
  | AugAssign tg op e pos =>
    unfold compS at h
    cases tg <;> first | (cases h; done) | skip
    rename_i o f p1
    cases op <;> first | (cases h; done) | skip
    simp only at h
    cases h1 : compE c n o with
    | none => rw [h1] at h; cases h
    | some y =>
      cases h2 : ixOf f c.an with
      | none => rw [h1, h2] at h; cases h
      | some m =>
        cases h3 : compE c n e with
        | none => rw [h1, h2, h3] at h; cases h
        | some x =>
          rw [h1, h2, h3] at h
          cases h
          exact sws_aug G (hE c W X G B.hr o y h1).1 (hE c W X G B.hr e x h3).1 (by rw [← G.an]; exact ixOf_get h2)
  | For tg it body orelse pos =>
    unfold compS at h
    cases orelse with
    | cons _ _ => cases h
    | nil =>
      simp only at h
      by_cases hc : (tgOk (locOk c.sc) n tg && !isSet it) = true
      · rw [if_pos hc] at h
        obtain ⟨c1, c2⟩ := Bool.and_eq_true_iff.mp hc
        cases h1 : compTg c n tg with
        | none => rw [h1] at h; cases h
        | some t =>
          cases h2 : compI c n it with
          | none => rw [h1, h2] at h; cases h
          | some i =>
            cases h3 : compSs c n body with
            | none => rw [h1, h2, h3] at h; cases h
            | some b =>
              rw [h1, h2, h3] at h
              simp only at h
              by_cases hf : tgFit tg i = true
              · rw [if_pos hf] at h
                cases h
                exact sws_for G B.hp (hI c W X G B.hr tg it i h2 hf) (snd_tg G.toGk B.st n tg t h1 c1) (hSs c W X B body b h3) (by simpa using c2)
              · rw [if_neg hf] at h; cases h
      · rw [if_neg hc] at h; cases h
  | While t body orelse pos =>
    unfold compS at h
    cases orelse with
    | cons _ _ => cases h
    | nil =>
      simp only at h
      cases h1 : compE c n t with
      | none => rw [h1] at h; cases h
      | some t1 =>
        cases h2 : compSs c n body with
        | none => rw [h1, h2] at h; cases h
        | some b =>
          rw [h1, h2] at h
          cases h
          exact sws_whl B.hp (hE c W X G B.hr t t1 h1).2.1 (hSs c W X B body b h2)
  | Raise e cause pos =>
    rcases cause with _ | cz
    rotate_left
    · unfold compS at h; split at h <;> simp_all
    rcases e with _ | e
    · unfold compS at h; cases h
    cases e <;> first | (unfold compS at h; cases h; done) | skip
    rename_i f as ks cp
    cases f <;> first | (unfold compS at h; cases h; done) | skip
    rename_i x p
    rcases ks with _ | ⟨k0, kr⟩
    rotate_left
    · unfold compS at h; cases h
    unfold compS at h
    simp only at h
    by_cases hc : x ∈ dunders ∨ as.any isStar = true
    · rw [if_pos hc] at h; cases h
    · rw [if_neg hc] at h
      cases h1 : excOf? c x with
      | none => rw [h1] at h; cases h
      | some i =>
        cases h2 : compEs c n as with
        | none => rw [h1, h2] at h; cases h
        | some a1 =>
          rw [h1, h2] at h
          cases h
          have hx : c.glob? x = some (.exc i) := by
            unfold excOf? at h1
            cases hg : c.glob? x with
            | none => rw [hg] at h1; cases h1
            | some q => rw [hg] at h1; cases q <;> cases h1; rfl
          obtain ⟨q1, q2⟩ := hEs c W X G B.hr as a1 h2
          exact sws_raise G (mk_call G B.h3 (fun z => hc (.inl z)) hx q1 (Bool.eq_false_iff.mpr fun z => hc (.inr z)) q2)
  | Try body hs orelse fin pos =>
    unfold compS at h
    cases hs with
    | nil => cases h
    | cons h0 hs =>
      cases orelse with
      | cons _ _ => cases h
      | nil =>
        cases fin with
        | cons _ _ => cases h
        | nil =>
          simp only at h
          cases h1 : compSs c n body with
          | none => rw [h1] at h; cases h
          | some b =>
            cases h2 : compHs c (h0 :: hs) with
            | none => rw [h1, h2] at h; cases h
            | some l =>
              rw [h1, h2] at h
              cases h
              exact sws_try B (fun W' X' B' => hSs c W' X' B' body b h1) h2
  | _ => unfold compS at h; cases h
variable (g cl k N)
theorem snd_stmts : ∀ n : Nat, SS g cl k N n ∧ SSs g cl k N n
  | 0 => by
    refine ⟨?_, ?_⟩
    · intro _ _ _ _ _ _ h; cases h
    · intro _ _ _ _ _ _ h; cases h
  | n + 1 =>
    let ⟨a, b⟩ := snd_stmts n
    ⟨stepS b, stepSs a b⟩
end
end LA

/-! Soundness: the defs of a program, level by level. -/
namespace LA
open PySem PySem.Spec PyProof.Rows L2
/-- a def of the text. at_: a global's name, or a class and its method (get: a property's getter) -/
structure FR where
  at_ : Str × Option Str
  get : Bool := false
  name : Str
  qual : Str
  params : Arguments
  body : List Stmt
  scope : Scope
  N : List Str
  ps : List Str
def fuelC : Nat := 60
def FR.cc (r : FR) (gl : List (Str × Gn)) (an : List Str) : Cc := ⟨r.N, r.scope, gl, an⟩
def FR.fi (r : FR) (gl : List (Str × Gn)) (an : List Str) : FnI := ⟨r.ps.length, r.N.length, (compSs (r.cc gl an) fuelC r.body).getD .nil⟩
/-- plain parameters -/
def plainPs (p : Arguments) (ps : List Str) : Bool := p.posonlyargs.isEmpty && decide (p.args.map (·.arg) = ps) && p.vararg.isNone && p.kwonlyargs.isEmpty && p.kw_defaults.isEmpty && p.kwarg.isNone && p.defaults.isEmpty
/-- what the text itself shows of a def -/
def FR.ok (r : FR) (gl : List (Str × Gn)) (an : List Str) : Bool :=
  (compSs (r.cc gl an) fuelC r.body).isSome && (match r.scope.kind with | .function => true | _ => false) && !r.scope.isCoroutine && !r.scope.isGenerator && decide r.N.Nodup && decide (r.N.take r.ps.length = r.ps) &&
    (r.ps.all fun x => locOk r.scope x) && (r.scope.names.all fun y => match y.2 with | .free => false | _ => true) && decide (r.ps.length ≤ r.N.length)
theorem FR.ok_comp {r : FR} {gl : List (Str × Gn)} {an : List Str} (h : r.ok gl an = true) : compSs (r.cc gl an) fuelC r.body = some (r.fi gl an).body ∧ FnScope r.N r.ps r.scope ∧ r.ps.length ≤ r.N.length := by
  unfold FR.ok at h
  simp only [Bool.and_eq_true, decide_eq_true_eq, Bool.not_eq_true'] at h
  obtain ⟨⟨⟨⟨⟨⟨⟨⟨h1, h2⟩, h3⟩, h4⟩, h5⟩, h6⟩, h7⟩, h8⟩, h9⟩ := h
  refine ⟨?_, ⟨?_, h3, h4, h5, h6, fun x hx => ?_, fun y hy e => ?_⟩, h9⟩
  · obtain ⟨b, e⟩ := Option.isSome_iff_exists.mp h1
    show _ = some ((compSs (r.cc gl an) fuelC r.body).getD .nil)
    rw [e]; rfl
  · cases e : r.scope.kind <;> first | rfl | (rw [e] at h2; cases h2)
  · have q := List.all_eq_true.mp h7 x hx
    unfold locOk at q
    cases e : r.scope.names.lookup x with
    | none => rw [e] at q; cases q
    | some k =>
      rw [e] at q
      cases k with
      | «local» => exact .inl rfl
      | cell => exact .inr rfl
      | _ => cases q
  · have q := List.all_eq_true.mp h8 y hy
    rw [e] at q
    cases q
/-- what must hold of the f-th def -/
structure FunOk (g : GdX) (r : FR) (a : Addr) (fi : FnI) : Prop where
  fd : ∃ fd, FunD g.K r.name r.qual r.params r.body r.scope [] [] a fd
  bind : ∀ (kV doc pm : Value) (an : Option Addr) (cdv ct : Value) (us : List Value), us.length = r.ps.length → bindArgs (PySem.W.fnOf r.name r.qual r.params r.body r.scope .none kV doc pm an cdv ct) ⟨us, []⟩ = pure (r.ps.zip us)
  ok : r.ok g.gl g.an = true
  eq : fi = r.fi g.gl g.an
structure FunsOk (g : GdX) (fr : List FR) : Prop where
  len : ∀ (f : Nat) (a : Addr), g.fnA[f]? = some a → ∃ r, fr[f]? = some r
  ok : ∀ (f : Nat) (r : FR) (a : Addr), fr[f]? = some r → g.fnA[f]? = some a → ∃ fi, g.pg.fns[f]? = some fi ∧ FunOk g r a fi
theorem call_np {pg : Pg} {N : Nat} : ∀ (j f : Nat) (ds : List D) (S : Sto) (r : R D × Sto), LA.call pg N j f ds S = some r → ∃ fi, pg.fns[f]? = some fi ∧ ds.length = fi.np
  | 0, _, _, _, _, h => by cases h
  | j + 1, f, ds, S, r, h => by
    unfold LA.call at h
    cases e : pg.fns[f]? with
    | none => rw [e] at h; cases h
    | some fi =>
      rw [e] at h
      simp only at h
      split at h
      · rename_i hc; exact ⟨fi, rfl, hc.1⟩
      · cases h
theorem start_slr {g : GdX} {ρ : List Addr} {H : Hp} {ds : List D} {vs : List V} (N : List Str) (h : DVs g.toGd ρ H ds vs) : SlR g.toGd ρ H (ds.map some ++ List.replicate (N.length - ds.length) none) (L2.start N vs) := by
  have hl := h.length
  refine ⟨by unfold L2.start; simp [hl], fun i d e => ?_⟩
  by_cases hi : i < ds.length
  · rw [List.getElem?_append_left (by simpa using hi), List.getElem?_map] at e
    cases ed : ds[i]? with
    | none => rw [ed] at e; cases e
    | some d' =>
      rw [ed] at e
      cases e
      obtain ⟨v, h1, h2⟩ := h.get ed
      refine ⟨v, ?_, h2⟩
      unfold L2.start
      rw [List.getElem?_append_left (by simpa [hl] using hi), List.getElem?_map, h1]
      rfl
  · rw [List.getElem?_append_right (by simpa using hi), List.getElem?_replicate] at e
    split at e <;> cases e
theorem fn_step {g : GdX} (fac : Facts g) {j f : Nat} {r : FR} {a : Addr} {fi : FnI} {fd : FuncData} (ih : Lvl g (2 * j + 2) (LA.call g.pg g.N j)) (hfi : g.pg.fns[f]? = some fi) (ok : FunOk g r a fi)
    (FD : FunD g.K r.name r.qual r.params r.body r.scope [] [] a fd) : FnOk g.P g.w g.K g.mg g.base (L2.CX g.P g.w) (2 * (j + 1) + 2) a fd r.ps (spI g (LA.call g.pg g.N (j + 1)) f r.ps.length) := by
    obtain ⟨c1, c2, c3⟩ := FR.ok_comp ok.ok
    have hlen : ∀ vs H Q E, spI g (LA.call g.pg g.N (j + 1)) f r.ps.length vs H Q E → vs.length = r.ps.length := fun vs H Q E ⟨ρ, S, ds, _, dv, hl, _⟩ => by rw [← dv.length]; exact hl
    refine FD.ok (k := 2 * j + 3) c2 hlen fun cdv A outer s H vs Q E hroom ⟨ρ, S, ds, rr, dv, hl, q⟩ => ?_
    let X := cxOf (L2.CX g.P g.w) g.P g.w g.K g.mg g.base r.N r.qual r.scope a cdv A outer s H E
    have tk : Takes X (fun cls d _ H => E cls d H) := takes_of (X := X) rfl rfl rfl (E₁ := fun e' s'' => L2.CX g.P g.w outer H s E e' s'') rfl
    have G : Cxt g (2 * j + 2) (LA.call g.pg g.N j) (fun cls d _ H => E cls d H) (r.cc g.gl g.an) X :=
      { prog := rfl, w := rfl, K := rfl, mg := rfl, base := rfl, N := rfl, nd := c2.nd, sc := rfl, gl := rfl, an := rfl, room := hroom.mono (by omega), calm := rfl, fac := fac, lvl := ih, tk := tk }
    have B : BOk g (2 * j + 2) (LA.call g.pg g.N j) (r.cc g.gl g.an) (fun cls d _ H => E cls d H) X :=
      { G := G, so := rfl, fr := rfl, hr := hroom, h3 := hroom.mono (by omega), fn := c2.kind, hp := passes_of (X := X) (E₁ := fun e' s'' => L2.CX g.P g.w outer H s E e' s'') rfl,
        st := fun x hx => by
          unfold locOk at hx
          refine ⟨?_, .inl rfl⟩
          cases e : r.scope.names.lookup x with
          | none => rw [show (r.cc g.gl g.an).sc.names.lookup x = none from e] at hx; cases hx
          | some k =>
            rw [show (r.cc g.gl g.an).sc.names.lookup x = some k from e] at hx
            cases k with
            | «local» => exact .inl e
            | cell => exact .inr e
            | _ => cases hx }
    refine ⟨_, (snd_stmts g (LA.call g.pg g.N j) (2 * j + 2) g.N fuelC).2 _ _ X B r.body _ c1, ?_⟩
    refine ⟨ρ, _, S, rr, start_slr r.N dv, ?_⟩
    unfold LA.call at q
    rw [hfi] at q
    simp only at q
    have e1 : fi.np = r.ps.length := by rw [ok.eq]; rfl
    have e2 : fi.nl = r.N.length := by rw [ok.eq]; rfl
    have e3 : fi.body = (r.fi g.gl g.an).body := by rw [ok.eq]
    have hc : ds.length = fi.np ∧ fi.np ≤ fi.nl := by rw [e1, e2]; exact ⟨hl, c3⟩
    rw [if_pos hc, e1, e2, e3, ← hl] at q
    show SPost (evCs g.pg (LA.call g.pg g.N j) g.N (ds.map some ++ List.replicate (r.N.length - ds.length) none) (r.fi g.gl g.an).body S) _ _ _
    cases eb : evCs g.pg (LA.call g.pg g.N j) g.N (ds.map some ++ List.replicate (r.N.length - ds.length) none) (r.fi g.gl g.an).body S with
    | none => rw [eb] at q; exact q.elim
    | some res =>
      obtain ⟨fl, S1⟩ := res
      rw [eb] at q
      cases fl with
      | nx σ1 => exact fun ρ1 H1 σ2 p1 t1 r1 _ => (show PostV g ρ H .non S1 Q from q) ρ1 H1 .non p1 t1 r1 dv_non
      | rt d => exact q
      | ex cc fs σ1 => exact fun ρ1 H1 σ2 cls dd p1 t1 r1 _ xv => (show PostX g ρ H cc fs S1 E from q) ρ1 H1 cls dd p1 t1 r1 xv
theorem lvl_all {g : GdX} {fr : List FR} (fac : Facts g) (F : FunsOk g fr) : ∀ j : Nat, Lvl g (2 * j + 2) (LA.call g.pg g.N j)
  | 0 => by
    refine ⟨fun f a ha => ?_, fun f ds S r h => by cases h⟩
    obtain ⟨r, hr⟩ := F.len f a ha
    obtain ⟨fi, hfi, ok⟩ := F.ok f r a hr ha
    obtain ⟨fd, FD⟩ := ok.fd
    refine ⟨fd, r.ps, ⟨fun vs H Q E ⟨ρ, S, ds, _, dv, hl, _⟩ => by rw [← dv.length]; exact hl, fun A outer s H args us vs Q E _ _ _ _ ⟨ρ, S, ds, _, _, _, q⟩ => q.elim⟩, FD.bindsN ok.bind, fun fi' e => ?_⟩
    rw [hfi] at e
    cases e
    rw [ok.eq]; rfl
  | j + 1 => by
    have ih := lvl_all fac F j
    refine ⟨fun f a ha => ?_, fun f ds S r h => call_np (j + 1) f ds S r h⟩
    obtain ⟨r, hr⟩ := F.len f a ha
    obtain ⟨fi, hfi, ok⟩ := F.ok f r a hr ha
    obtain ⟨fd, FD⟩ := ok.fd
    exact ⟨fd, r.ps, fn_step fac ih hfi ok FD, FD.bindsN ok.bind, fun fi' e => by
      rw [hfi] at e
      cases e
      rw [ok.eq]; rfl⟩
end LA

/-! The head's facts, by one look over the written part. -/
namespace LA
open PySem PySem.Spec PyProof.Rows L2
open PySem.W (nsIn findIn recIn keepIn isFn makesIn specialIn takesIn codeIn kitOne mroIn notFirst Frag)
/-- an exception's own __init__: its class's name, its text, its parameters, its fields with their parameters' places -/
structure XR where
  cls : Str
  qual : Str
  params : Arguments
  body : List Stmt
  scope : Scope
  ps : List Str
  fl : List (Str × Nat)
structure PRec where
  fns : List FR
  cls : List (Str × ClI)
  exs : List (Str × ExI)
  an : List Str
  gl : List (Str × Gn)
  file : Str := ""
  xin : List (Option XR) := []
  kin : List (Nat × List (Option Nat)) := []
  sx : Bool := false
def getAd (K : Frag) (C : Addr) (m : Str) : Addr := match findIn K (.ref C) m with
  | some (some (.ref p)) => (match recIn K p "property" with
    | some (.ref g :: _) => g
    | _ => 0)
  | _ => 0
def FR.ad (K : Frag) (r : FR) : Addr := match r.get, r.at_.2 with
  | true, some m => getAd K (He.ga K r.at_.1) m
  | _, _ => He.fAd K r.at_
def fnAt (K : Frag) (a : Addr) : He.FnW := match K.lookup a with
  | some ⟨_, _, .func fd, _⟩ => some (fd.name, fd.qualname, fd.params, fd.body, fd.scope, fd.globals, fd.closure, fd.builtins)
  | _ => none
def FR.val (r : FR) : He.FnW := some (r.name, r.qual, r.params, .stmts r.body, r.scope, mainGlobals, [], builtinsNs)
def fnB (K : Frag) (r : FR) : Bool := keepIn K (.ref (r.ad K)) && (match K.lookup (r.ad K) with
  | some ⟨_, _, .func fd, _⟩ => codeIn K fd.code r.qual && (He.dflB K fd.defaults [] && He.kwdB K fd.kwdefaults [])
  | _ => false)
theorem fnB_ok {K : Frag} {r : FR} (e : fnAt K (r.ad K) = r.val) (c : fnB K r = true) : ∃ fd, FunD K r.name r.qual r.params r.body r.scope [] [] (r.ad K) fd := by
  obtain ⟨kp, c2⟩ := Bool.and_eq_true_iff.mp c
  unfold fnAt at e
  cases q : K.lookup (r.ad K) with
  | none => rw [q] at c2; cases c2
  | some o =>
    obtain ⟨oc, od, dt, osl⟩ := o
    rw [q] at c2 e
    cases dt with
    | func fd =>
      obtain ⟨n1, n2, n3, n4, n5, n6, n7, n8, n9, n10, n11, n12, n13, n14, n15⟩ := fd
      have e2 : (some (n1, n2, n3, n4, n5, n6, n7, n15) : He.FnW) = some (r.name, r.qual, r.params, .stmts r.body, r.scope, mainGlobals, [], builtinsNs) := e
      simp only [Option.some.injEq, Prod.mk.injEq] at e2
      obtain ⟨h1, h2, h3, h4, h5, h6, h7, h8⟩ := e2
      subst h1 h2 h3 h4 h5 h6 h7 h8
      obtain ⟨k1, k2⟩ := Bool.and_eq_true_iff.mp c2
      obtain ⟨k3, k4⟩ := Bool.and_eq_true_iff.mp k2
      exact ⟨_, ⟨oc, od, n8, n9, n10, n11, n12, n13, n14, osl, rfl, q, k1, He.dflB_ok k3, He.kwdB_ok k4⟩, kp⟩
    | _ => cases c2
/-! ### constants -/
mutual
def conB (K : Frag) : D → Value → Bool
  | .non, .none => true
  | .bl b, .bool c => b == c
  | .int i, .int j _ => decide (i = j)
  | .str x, .str y _ => decide (y = toStr x)
  | .tup xs, .ref a => (match K.lookup a with
    | some ⟨.type c, _, .seq its _, _⟩ => decide (c = "tuple") && (decide (its.size ≤ sizeLine) && conBs K xs its.toList)
    | _ => false)
  | _, _ => false
def conBs (K : Frag) : List D → List Value → Bool
  | [], [] => true
  | d :: ds, u :: us => conB K d u && conBs K ds us
  | _, _ => false
end
section
variable {G : Gd}
mutual
theorem conB_ok : ∀ (d : D) (u : Value), conB G.K d u = true → ∃ v, RelV v u ∧ ∀ ρ H, DV G ρ H d v
  | .non, u, h => by
    cases u <;> first | (cases h; done) | skip
    exact ⟨.non, rfl, fun ρ H => by unfold DV; rfl⟩
  | .bl b, u, h => by
    cases u <;> first | (cases h; done) | skip
    rename_i c
    have e : b = c := eq_of_beq (show (b == c) = true from h)
    subst e
    exact ⟨.bl b, rfl, fun ρ H => by unfold DV; rfl⟩
  | .int i, u, h => by
    cases u <;> first | (cases h; done) | skip
    rename_i j t
    have e : i = j := of_decide_eq_true h
    subst e
    exact ⟨.int i, ⟨t, rfl⟩, fun ρ H => by unfold DV; rfl⟩
  | .str x, u, h => by
    cases u <;> first | (cases h; done) | skip
    rename_i y t
    have e : y = toStr x := of_decide_eq_true h
    subst e
    exact ⟨.str (toStr x), ⟨t, rfl⟩, fun ρ H => by unfold DV; rfl⟩
  | .tup xs, u, h => by
    cases u <;> first | (cases h; done) | skip
    rename_i a
    unfold conB at h
    cases q : G.K.lookup a with
    | none => rw [q] at h; cases h
    | some o =>
      obtain ⟨oc, od, dt, osl⟩ := o
      rw [q] at h
      cases oc with
      | type c =>
        cases dt with
        | seq its n =>
          obtain ⟨h1, h2⟩ := Bool.and_eq_true_iff.mp (show (decide (c = "tuple") && (decide (its.size ≤ sizeLine) && conBs G.K xs its.toList)) = true from h)
          obtain ⟨h3, h4⟩ := Bool.and_eq_true_iff.mp h2
          obtain ⟨vs, rv, dv⟩ := conBs_ok xs its.toList h4
          refine ⟨.ref a, rfl, fun ρ H => ?_⟩
          unfold DV
          exact ⟨a, vs, rfl, .inr ⟨_, its, n, q, congrArg Value.type (of_decide_eq_true h1), rfl, of_decide_eq_true h3, rv⟩, dv ρ H⟩
        | _ => cases h
      | _ => cases dt <;> cases h
  | .obj _, u, h => by cases u <;> cases h
theorem conBs_ok : ∀ (ds : List D) (us : List Value), conBs G.K ds us = true → ∃ vs, Vals vs us ∧ ∀ ρ H, DVs G ρ H ds vs
  | [], [], _ => ⟨[], .nil, fun _ _ => .nil⟩
  | [], _ :: _, h => by cases h
  | _ :: _, [], h => by cases h
  | d :: ds, u :: us, h => by
    obtain ⟨h1, h2⟩ := Bool.and_eq_true_iff.mp (show (conB G.K d u && conBs G.K ds us) = true from h)
    obtain ⟨v, r, dv⟩ := conB_ok d u h1
    obtain ⟨vs, rv, dvs⟩ := conBs_ok ds us h2
    exact ⟨v :: vs, .cons r rv, fun ρ H => .cons (dv ρ H) (dvs ρ H)⟩
end
end
/-! ### the checks -/
def eqOO (a b : Option (Option Value)) : Bool := decide (a = b)
def freeNames : List Str := ["isinstance", "len", "list", "tuple", "dict", "sorted", "all", "max", "min", "int", "str", "bool", "range", "enumerate", "zip"]
def glB (p : PRec) (K : Frag) (x : Str) : Gn → Bool
  | .fn i => (match p.fns[i]? with
    | some r => eqOO (nsIn K mainGlobals x) (some (some (.ref (r.ad K))))
    | none => false)
  | .cls i => (match p.cls[i]? with
    | some c => eqOO (nsIn K mainGlobals x) (some (some (.ref (He.ga K c.1)))) && keepIn K (.ref (He.ga K c.1))
    | none => false)
  | .exc i => (match p.exs[i]? with
    | some c => eqOO (nsIn K mainGlobals x) (some (some (.ref (He.ga K c.1)))) && keepIn K (.ref (He.ga K c.1))
    | none => false)
  | .con d => (match nsIn K mainGlobals x with
    | some (some u) => conB K d u
    | _ => false)
def methB (p : PRec) (K : Frag) (C : Addr) (q : Nat × Nat) : Bool := match p.an[q.1]?, p.fns[q.2]? with
  | some n, some r => eqOO (findIn K (.ref C) n) (some (some (.ref (r.ad K)))) && (isFn K (.ref (r.ad K)) && keepIn K (.ref (r.ad K)))
  | _, _ => false
def propB (p : PRec) (K : Frag) (C : Addr) (q : Nat × Nat) : Bool := match p.an[q.1]?, p.fns[q.2]? with
  | some n, some r => (match findIn K (.ref C) n with
    | some (some (.ref a)) => eqOO (specialIn K (.ref a) "__get__") (some (some (.builtin "property.__get__"))) && (decide (takesIn K (.ref a) = some true) && (match recIn K a "property" with
      | some (.ref g :: _) => decide (g = r.ad K)
      | _ => false))
    | _ => false)
  | _, _ => false
def initB (p : PRec) (K : Frag) (C : Addr) : Option Nat → Bool
  | none => true
  | some f => (match p.fns[f]? with
    | some r => makesIn K C && (eqOO (findIn K (.ref C) "__init__") (some (some (.ref (r.ad K)))) && (isFn K (.ref (r.ad K)) && keepIn K (.ref C)))
    | none => false)
def eqfB (p : PRec) (K : Frag) (C : Addr) : Option Nat → Bool
  | none => true
  | some f => (match p.fns[f]? with
    | some r => eqOO (findIn K (.ref C) "__eq__") (some (some (.ref (r.ad K)))) && (isFn K (.ref (r.ad K)) && (notFirst K C (.type "list") && (notFirst K C (.type "dict") && p.cls.all fun c => notFirst K C (.ref (He.ga K c.1)))))
    | none => false)
def clB (p : PRec) (K : Frag) (c : Str × ClI) : Bool :=
  (He.Fa.cls c.1).ok K && ((c.2.flds.all fun a => match p.an[a]? with
    | some n => eqOO (findIn K (.ref (He.ga K c.1)) n) (some none)
    | none => true) && (c.2.meths.all (methB p K (He.ga K c.1)) && (c.2.props.all (propB p K (He.ga K c.1)) && (initB p K (He.ga K c.1) c.2.init && eqfB p K (He.ga K c.1) c.2.eqf))))
def isiB (p : PRec) (K : Frag) : Bool :=
  (primTy.all fun T => primTy.all fun U => decide (kitOne K (.type T) (.type U) = some (decide (T = U) || (decide (T = "bool") && decide (U = "int"))))) &&
  ((primTy.all fun T => p.cls.all fun c => decide (kitOne K (.type T) (.ref (He.ga K c.1)) = some false)) &&
  ((primTy.all fun T => p.cls.all fun c => decide (kitOne K (.ref (He.ga K c.1)) (.type T) = some false)) &&
  ((p.cls.all fun c => p.cls.zipIdx.all fun d => decide (kitOne K (.ref (He.ga K c.1)) (.ref (He.ga K d.1.1)) = some (c.2.up.contains d.2))) &&
  (p.cls.all fun c => eqOO (findIn K (.ref (He.ga K c.1)) "__class__") (some (some (.builtin "object.__class__"))) && (eqOO (specialIn K (.builtin "object.__class__") "__get__") (some (some (.builtin "getset_descriptor.__get__"))) &&
    (decide (takesIn K (.builtin "object.__class__") = some true) && decide (mroIn K (He.ga K c.1) (.type "object") = some true)))))))
def factsB (p : PRec) (K : Frag) : Bool := (p.fns.all (fnB K)) && ((p.gl.all fun q => glB p K q.1 q.2) && ((freeNames.all fun x => eqOO (nsIn K mainGlobals x) (some none)) && ((p.cls.all (clB p K)) && isiB p K)))
/-- the text's own -/
def PRec.ok (p : PRec) : Bool := decide p.an.Nodup && (p.fns.all fun r => r.ok p.gl p.an)
def PRec.pg (p : PRec) : Pg := ⟨p.fns.map fun r => r.fi p.gl p.an, p.cls.map (·.2), p.exs.map (·.2), p.kin, p.sx⟩
/-- the context of a law -/
def PRec.gd (p : PRec) (P : Program) (w : World) (K : Frag) (mg : Str → Option Value) (base : Heap) (N : Nat) : GdX where
  K := K
  clA := p.cls.map fun c => He.ga K c.1
  an := p.an
  P := P
  w := w
  mg := mg
  base := base
  pg := p.pg
  N := N
  gl := p.gl
  fnA := p.fns.map (FR.ad K)
  exA := p.exs.map fun c => He.ga K c.1
  fnSt := []
/-! ### the exceptions' own __init__ -/
abbrev XW : Type := Option (Str × Str × Arguments × FuncBody × Scope × Addr × List Str × Addr)
def XR.ad (K : Frag) (r : XR) : Addr := He.ma K (He.ga K r.cls) "__init__"
def xAt (K : Frag) (a : Addr) : XW := match K.lookup a with
  | some ⟨_, _, .func fd, _⟩ => some (fd.name, fd.qualname, fd.params, fd.body, fd.scope, fd.globals, fd.closure.map (·.1), fd.builtins)
  | _ => none
def XR.val (r : XR) : XW := some ("__init__", r.qual, r.params, .stmts r.body, r.scope, mainGlobals, ["__class__"], builtinsNs)
def oexB (K : Frag) (C : Addr) : Bool := (match K.lookup C with
    | some ⟨.type t, _, .cls cd, sl⟩ => (match cd.mro, sl.toList with
      | .ref C' :: bm, [_, _, _, _, some (.builtin n), _] => decide (t = "type") && (decide (C' = C) && (decide (n = "ValueError.__new__") && (!cd.hasDel && (cd.hasDict && PySem.HandSPX.refsVE bm))))
      | _, _ => false)
    | _ => false) &&
  (eqOO (findIn K (.ref C) "__setattr__") (some (some (.builtin "object.__setattr__"))) && (decide (PySem.W.subIn K (.ref C) (.type "BaseException") = some true) && (decide (PySem.W.typeIn K (.ref C) = some (.type "type")) && keepIn K (.ref C))))
def xfB (file : Str) (K : Frag) (C : Addr) (q : Str) (a : Addr) : Bool := match K.lookup a with
  | some ⟨_, _, .func fd, _⟩ => decide (fd.defaults = .none) && ((match fd.code with
      | .ref c => codeIn K (.ref c) q && (match K.lookup c with
        | some ⟨_, _, .fields vs, _⟩ => (match vs.toList with
          | _ :: _ :: .str f _ :: _ => decide (f = file)
          | _ => false)
        | _ => false)
      | _ => false) && (match fd.closure with
      | [(_, cc)] => (match K.lookup cc with
        | some ⟨_, _, .cell (some (.ref C')), _⟩ => decide (C' = C)
        | _ => false)
      | _ => false))
  | _ => false
def xB (p : PRec) (K : Frag) (r : XR) : Bool :=
  oexB K (He.ga K r.cls) && (eqOO (findIn K (.ref (He.ga K r.cls)) "__init__") (some (some (.ref (r.ad K)))) && (decide (PySem.W.typeIn K (.ref (r.ad K)) = some (.type "function")) && ((r.fl.all fun q => eqOO (findIn K (.ref (He.ga K r.cls)) q.1) (some none)) &&
    (xfB p.file K (He.ga K r.cls) r.qual (r.ad K) && ((match PySem.W.clsIn K (He.ga K r.cls) with
      | some cd => eqOO (PySem.W.alongIn K "__init__" ((cd.mro.dropWhile (· != .ref (He.ga K r.cls))).drop 1)) (some (some (.builtin "ValueError.__init__")))
      | none => false) && (decide (PySem.W.subIn K (.ref (He.ga K r.cls)) (.type "ValueError") = some true) && decide (PySem.W.mroIn K (He.ga K r.cls) (.ref (He.ga K r.cls)) = some true)))))))
def xinB (p : PRec) (K : Frag) : Bool := p.xin.isEmpty || ((p.xin.all fun o => match o with
    | some r => xB p K r
    | none => true) && (eqOO (nsIn K cStatics "thirdparty.any") (some none) && (eqOO (nsIn K mainGlobals "super") (some none) && p.exs.all fun c => p.exs.zipIdx.all fun d => decide (PySem.W.exmOne K (.ref (He.ga K c.1)) (.ref (He.ga K d.1.1)) = some (c.2.up.contains d.2)))))
def excCB (K : Frag) (C : Addr) : Bool := eqOO (findIn K (.ref C) "__getattribute__") (some (some (.builtin "BaseException.__getattribute__"))) && (eqOO (findIn K (.ref C) "__getattr__") (some none) && (decide (PySem.W.subIn K (.ref C) (.type "BaseException") = some true) && (decide (PySem.W.hasDictIn K C = true) &&
  (eqOO (findIn K (.ref C) "__class__") (some (some (.builtin "object.__class__"))) && (eqOO (specialIn K (.builtin "object.__class__") "__get__") (some (some (.builtin "getset_descriptor.__get__"))) && (decide (takesIn K (.builtin "object.__class__") = some true) && decide (mroIn K C (.type "object") = some true)))))))
def kinB (p : PRec) (K : Frag) : Bool := (p.kin.isEmpty && !p.sx) || ((p.exs.all fun c => excCB K (He.ga K c.1) && (decide (kitOne K (.ref (He.ga K c.1)) (.type "ValueError") = some true) && p.exs.zipIdx.all fun d => decide (kitOne K (.ref (He.ga K c.1)) (.ref (He.ga K d.1.1)) = some (c.2.up.contains d.2)))) && eqOO (nsIn K mainGlobals "ValueError") (some none))
abbrev AlL : Type := (Bool × List He.FnW) × Bool × List XW
def obsL (p : PRec) (K : Frag) : AlL := ((factsB p K, p.fns.map fun r => fnAt K (r.ad K)), (xinB p K && kinB p K), p.xin.map fun o => match o with
  | some r => xAt K (r.ad K)
  | none => none)
def valL (p : PRec) : AlL := ((true, p.fns.map FR.val), true, p.xin.map fun o => match o with
  | some r => r.val
  | none => none)
/-- the lists left out: the script is none of the written part's -/
def noLs (g : Addr → Option Obj) (a : Addr) : Option Obj := match g a with
  | some o => if decide (o.cls = .type "list") = true then none else some o
  | none => none
theorem noLs_ok {g : Addr → Option Obj} {a : Addr} {o : Obj} (h : noLs g a = some o) : g a = some o ∧ o.cls ≠ .type "list" := by
  unfold noLs at h
  cases e : g a with
  | none => rw [e] at h; cases h
  | some o' =>
    rw [e] at h
    simp only at h
    split at h
    · cases h
    · rename_i hn
      cases h
      exact ⟨rfl, fun z => hn (decide_eq_true z)⟩
def obsLG (n : Nat) (p : PRec) (g : Addr → Option Obj) : AlL := obsL p (He.frG (noLs g) (cStatics :: He.asD g n))
def hookL (n : Nat) (p : PRec) : PySem.W.Hook where
  α := AlL
  obs := fun s => obsLG n p s.heap.get?
  val := fun _ => valL p
  says := fun _ h => ∃ K : Frag, K.In h ∧ (∀ a o, K.lookup a = some o → o.cls ≠ .type "list") ∧ obsL p K = valL p
  of := fun _ _ e => ⟨_, fun _ _ q => (noLs_ok (He.frG_at _ q)).1, fun _ _ q => (noLs_ok (He.frG_at _ q)).2, e⟩
  keeps := fun _ _ _ ⟨K, hK, q, c⟩ k => ⟨K, PySem.W.Frag.In.keeps hK k, q, c⟩
theorem obsLG_eq {n : Nat} {p : PRec} {g : Addr → Option Obj} {s : Shared} (h : ∀ a, g a = s.heap.get? a) : obsLG n p g = (hookL n p).obs s := by
  have e : g = s.heap.get? := funext h
  rw [e] <;> rfl
theorem lookA_mem {α : Type} {a : Nat} {v : α} : ∀ {l : List (Nat × α)}, lookA a l = some v → (a, v) ∈ l
  | [], h => by cases h
  | (b, w) :: r, h => by
    unfold lookA at h
    by_cases hb : a = b
    · rw [if_pos hb] at h; cases h; subst hb; exact List.mem_cons_self
    · rw [if_neg hb] at h; exact List.mem_cons_of_mem _ (lookA_mem h)
section
variable {p : PRec} {P : Program} {w : World} {K : Frag} {mg : Str → Option Value} {base h : Heap} {N : Nat}
theorem get_map {α β : Type} {f : α → β} {l : List α} {i : Nat} {b : β} (e : (l.map f)[i]? = some b) : ∃ a, l[i]? = some a ∧ f a = b := by
  rw [List.getElem?_map] at e
  exact Option.map_eq_some_iff.mp e
theorem map_get {α β : Type} {f : α → β} {l : List α} {i : Nat} {a : α} (e : l[i]? = some a) : (l.map f)[i]? = some (f a) := by rw [List.getElem?_map, e]; rfl
theorem facts_ok (X : K.In h) (G : h.Ns mainGlobals mg) (c : factsB p K = true) (nd : p.an.Nodup) (hex : ∀ (i : Nat) (C : Addr) (ci : ExI) m, (p.gd P w K mg base N).exA[i]? = some C → p.pg.exs[i]? = some ci → ci.exf = some m → ExcOk (p.gd P w K mg base N) i C m) (hkin : ∀ (f : Nat) (ks : List (Option Nat)) (fa : Addr), lookA f (p.gd P w K mg base N).pg.kin = some ks → (p.gd P w K mg base N).fnA[f]? = some fa → KinF (p.gd P w K mg base N) fa ks) (hexm : ∀ (i j : Nat) (C C' : Addr) (ci : ExI), (p.gd P w K mg base N).exA[i]? = some C → p.pg.exs[i]? = some ci → (p.gd P w K mg base N).exA[j]? = some C' → PySem.W.exmOne K (.ref C) (.ref C') = some (ci.up.contains j)) (hkg : p.sx = true → KinG (p.gd P w K mg base N)) (hxf : p.sx = true → ∀ (cc a : Nat) (C : Addr) (nm : Str), (p.gd P w K mg base N).exA[cc]? = some C → fldOk p.pg cc a = true → p.an[a]? = some nm → PySem.W.findIn K (.ref C) nm = some none) : Facts (p.gd P w K mg base N) := by
  obtain ⟨c1, c⟩ := Bool.and_eq_true_iff.mp c
  obtain ⟨c2, c⟩ := Bool.and_eq_true_iff.mp c
  obtain ⟨c3, c⟩ := Bool.and_eq_true_iff.mp c
  obtain ⟨c4, c5⟩ := Bool.and_eq_true_iff.mp c
  have gl : ∀ x q, p.gl.lookup x = some q → glB p K x q = true := fun x q e => List.all_eq_true.mp c2 (x, q) (PySem.mem_of_lookup e)
  have kg : ∀ {x : Str} {v : Value}, eqOO (nsIn K mainGlobals x) (some (some v)) = true → mg x = some v := fun e => PySem.W.mg_of X G (of_decide_eq_true e)
  obtain ⟨i1, i⟩ := Bool.and_eq_true_iff.mp c5
  obtain ⟨i2, i⟩ := Bool.and_eq_true_iff.mp i
  obtain ⟨i3, i⟩ := Bool.and_eq_true_iff.mp i
  obtain ⟨i4, i5⟩ := Bool.and_eq_true_iff.mp i
  have clsOf : ∀ {i : Nat} {C : Addr} {ci : ClI}, (p.gd P w K mg base N).clA[i]? = some C → (p.gd P w K mg base N).pg.cls[i]? = some ci → ∃ c, p.cls[i]? = some c ∧ He.ga K c.1 = C ∧ c.2 = ci := fun {i C ci} e1 e2 => by
    obtain ⟨c, h1, h2⟩ := get_map (show (p.cls.map fun c => He.ga K c.1)[i]? = some C from e1)
    obtain ⟨c', h3, h4⟩ := get_map (show (p.cls.map (·.2))[i]? = some ci from e2)
    rw [h1] at h3
    cases h3
    exact ⟨c, h1, h2, h4⟩
  refine { isi := ⟨?_, ?_, ?_, ?_, ?_⟩, con := ?_, fn := ?_, cls := ?_, cll := ?_, clf := ?_, kpc := ?_, cle := ?_, exc := ?_, exm := hex, kin := hkin, exm2 := hexm, anNd := nd, kg := hkg, xf := hxf, free := ?_ }
  · intro T hT T' hT'
    exact of_decide_eq_true (List.all_eq_true.mp (List.all_eq_true.mp i1 T hT) T' hT')
  · intro T hT i C ci e1 e2
    obtain ⟨c, h1, rfl, rfl⟩ := clsOf e1 e2
    exact of_decide_eq_true (List.all_eq_true.mp (List.all_eq_true.mp i2 T hT) c (List.mem_of_getElem? h1))
  · intro T hT i C ci e1 e2
    obtain ⟨c, h1, rfl, rfl⟩ := clsOf e1 e2
    exact of_decide_eq_true (List.all_eq_true.mp (List.all_eq_true.mp i3 T hT) c (List.mem_of_getElem? h1))
  · intro i j C C' ci e1 e2 e3
    obtain ⟨c, h1, rfl, rfl⟩ := clsOf e1 e2
    obtain ⟨d, h2, rfl⟩ := get_map (show (p.cls.map fun c => He.ga K c.1)[j]? = some C' from e3)
    have hm : (d, j) ∈ p.cls.zipIdx := List.mem_of_getElem? (i := j) (by rw [List.getElem?_zipIdx, h2]; simp)
    exact of_decide_eq_true (List.all_eq_true.mp (List.all_eq_true.mp i4 c (List.mem_of_getElem? h1)) (d, j) hm)
  · intro i C ci e1 e2
    obtain ⟨c, h1, rfl, rfl⟩ := clsOf e1 e2
    have q := List.all_eq_true.mp i5 c (List.mem_of_getElem? h1)
    obtain ⟨q1, q⟩ := Bool.and_eq_true_iff.mp q
    obtain ⟨q2, q⟩ := Bool.and_eq_true_iff.mp q
    obtain ⟨q3, q4⟩ := Bool.and_eq_true_iff.mp q
    exact ⟨of_decide_eq_true q1, of_decide_eq_true q2, of_decide_eq_true q3, of_decide_eq_true q4⟩
  · intro x d e
    have q := gl x _ e
    unfold glB at q
    simp only at q
    split at q
    · rename_i u hu
      obtain ⟨v, r, dv⟩ := conB_ok (G := (p.gd P w K mg base N).toGd) d u q
      exact ⟨v, u, PySem.W.mg_of X G hu, r, dv⟩
    · cases q
  · intro x i e
    have q := gl x _ e
    unfold glB at q
    simp only at q
    cases hr : p.fns[i]? with
    | none => rw [hr] at q; cases q
    | some r =>
      rw [hr] at q
      refine ⟨r.ad K, map_get hr, kg q, ?_⟩
      exact (Bool.and_eq_true_iff.mp (List.all_eq_true.mp c1 r (List.mem_of_getElem? hr))).1
  · intro x i e
    have q := gl x _ e
    unfold glB at q
    simp only at q
    cases hr : p.cls[i]? with
    | none => rw [hr] at q; cases q
    | some r =>
      rw [hr] at q
      exact ⟨_, map_get hr, kg (Bool.and_eq_true_iff.mp q).1⟩
  · intro i ci e
    obtain ⟨c, h1, _⟩ := get_map (show (p.cls.map (·.2))[i]? = some ci from e)
    exact ⟨_, map_get h1⟩
  · intro i C ci e1 e2
    obtain ⟨c, h1, rfl, rfl⟩ := clsOf e1 e2
    have q := List.all_eq_true.mp c4 c (List.mem_of_getElem? h1)
    obtain ⟨q1, q⟩ := Bool.and_eq_true_iff.mp q
    obtain ⟨q2, q⟩ := Bool.and_eq_true_iff.mp q
    obtain ⟨q3, q⟩ := Bool.and_eq_true_iff.mp q
    obtain ⟨q4, q⟩ := Bool.and_eq_true_iff.mp q
    obtain ⟨q5, q6⟩ := Bool.and_eq_true_iff.mp q
    refine ⟨He.cls_ok q1, ?_, ?_, ?_, ?_, ?_⟩
    · intro a n ha hn
      have z := List.all_eq_true.mp q2 a ha
      have hn' : p.an[a]? = some n := hn
      rw [hn'] at z
      exact (show findIn K (.ref (He.ga K c.1)) n = some none from of_decide_eq_true z)
    · intro m f n e hn
      have z := List.all_eq_true.mp q3 _ (lookA_mem e)
      unfold methB at z
      have hn' : p.an[m]? = some n := hn
      cases hr : p.fns[f]? with
      | none => rw [hn', hr] at z; cases z
      | some r =>
        rw [hn', hr] at z
        obtain ⟨z1, z⟩ := Bool.and_eq_true_iff.mp z
        obtain ⟨z2, z3⟩ := Bool.and_eq_true_iff.mp z
        exact ⟨_, map_get hr, of_decide_eq_true z1, z2, z3⟩
    · intro m f n e hn
      have z := List.all_eq_true.mp q4 _ (lookA_mem e)
      unfold propB at z
      have hn' : p.an[m]? = some n := hn
      cases hr : p.fns[f]? with
      | none => rw [hn', hr] at z; cases z
      | some r =>
        rw [hn', hr] at z
        simp only at z
        split at z
        · rename_i a ha
          obtain ⟨z1, z⟩ := Bool.and_eq_true_iff.mp z
          obtain ⟨z2, z3⟩ := Bool.and_eq_true_iff.mp z
          refine ⟨_, a, map_get hr, ha, of_decide_eq_true z1, of_decide_eq_true z2, ?_⟩
          split at z3
          · rename_i g rest hg
            have e3 := of_decide_eq_true z3
            subst e3
            exact ⟨rest, hg⟩
          · cases z3
        · cases z
    · intro f e
      rw [e] at q5
      unfold initB at q5
      simp only at q5
      cases hr : p.fns[f]? with
      | none => rw [hr] at q5; cases q5
      | some r =>
        rw [hr] at q5
        obtain ⟨z1, z⟩ := Bool.and_eq_true_iff.mp q5
        obtain ⟨z2, z⟩ := Bool.and_eq_true_iff.mp z
        obtain ⟨z3, z4⟩ := Bool.and_eq_true_iff.mp z
        exact ⟨_, map_get hr, z1, of_decide_eq_true z2, z3, z4⟩
    · intro f e
      rw [e] at q6
      unfold eqfB at q6
      simp only at q6
      cases hr : p.fns[f]? with
      | none => rw [hr] at q6; cases q6
      | some r =>
        rw [hr] at q6
        obtain ⟨z1, z⟩ := Bool.and_eq_true_iff.mp q6
        obtain ⟨z2, z⟩ := Bool.and_eq_true_iff.mp z
        obtain ⟨z3, z⟩ := Bool.and_eq_true_iff.mp z
        obtain ⟨z4, z5⟩ := Bool.and_eq_true_iff.mp z
        refine ⟨_, map_get hr, of_decide_eq_true z1, z2, z3, z4, fun C' hC => ?_⟩
        obtain ⟨d, hd, rfl⟩ := List.mem_map.mp (show C' ∈ p.cls.map fun c => He.ga K c.1 from hC)
        exact List.all_eq_true.mp z5 d hd
  · intro x i C e hC
    have q := gl x _ e
    unfold glB at q
    simp only at q
    obtain ⟨c, h1, rfl⟩ := get_map (show (p.cls.map fun c => He.ga K c.1)[i]? = some C from hC)
    rw [h1] at q
    exact (Bool.and_eq_true_iff.mp q).2
  · intro x i e
    have q := gl x _ e
    unfold glB at q
    simp only at q
    cases hr : p.cls[i]? with
    | none => rw [hr] at q; cases q
    | some r => exact ⟨_, map_get hr⟩
  · intro x i e
    have q := gl x _ e
    unfold glB at q
    simp only at q
    cases hr : p.exs[i]? with
    | none => rw [hr] at q; cases q
    | some r =>
      rw [hr] at q
      obtain ⟨q1, q2⟩ := Bool.and_eq_true_iff.mp q
      exact ⟨_, map_get hr, kg q1, q2⟩
  · intro x hx
    exact PySem.W.mg_none_of X G (of_decide_eq_true (List.all_eq_true.mp c3 x hx))
/-- every def of the program keeps its promise -/
theorem funs_ok (c : obsL p K = valL p) (ok : p.ok = true)
    (hb : ∀ r ∈ p.fns, ∀ (kV doc pm : Value) (an : Option Addr) (cdv ct : Value) (us : List Value), us.length = r.ps.length → bindArgs (PySem.W.fnOf r.name r.qual r.params r.body r.scope .none kV doc pm an cdv ct) ⟨us, []⟩ = pure (r.ps.zip us)) : FunsOk (p.gd P w K mg base N) p.fns := by
  have c1 : factsB p K = true := congrArg (fun z : AlL => z.1.1) c
  have c2 : (p.fns.map fun r => fnAt K (r.ad K)) = p.fns.map FR.val := congrArg (fun z : AlL => z.1.2) c
  obtain ⟨k1, _⟩ := Bool.and_eq_true_iff.mp c1
  obtain ⟨o1, o2⟩ := Bool.and_eq_true_iff.mp ok
  refine ⟨fun f a ha => ?_, fun f r a hr ha => ?_⟩
  · obtain ⟨r, h1, _⟩ := get_map (show (p.fns.map (FR.ad K))[f]? = some a from ha)
    exact ⟨r, h1⟩
  · obtain ⟨r', h1, h2⟩ := get_map (show (p.fns.map (FR.ad K))[f]? = some a from ha)
    rw [hr] at h1
    cases h1
    subst h2
    refine ⟨r.fi p.gl p.an, (show (p.fns.map fun r => r.fi p.gl p.an)[f]? = some (r.fi p.gl p.an) by rw [List.getElem?_map, hr]; rfl), ?_, hb r (List.mem_of_getElem? hr), List.all_eq_true.mp o2 r (List.mem_of_getElem? hr), rfl⟩
    have e : (p.fns.map fun r => fnAt K (r.ad K))[f]? = (p.fns.map FR.val)[f]? := by rw [c2]
    rw [List.getElem?_map, List.getElem?_map, hr] at e
    exact fnB_ok (Option.some.inj e) (List.all_eq_true.mp k1 r (List.mem_of_getElem? hr))
end
end LA

/-! A law's end: the interpreter's answer is the law's. -/
namespace LA
open PySem PySem.Spec PyProof.Rows L2
open PySem.W (Frag)
def BindP (r : FR) : Prop := ∀ (kV doc pm : Value) (an : Option Addr) (cdv ct : Value) (us : List Value), us.length = r.ps.length → bindArgs (PySem.W.fnOf r.name r.qual r.params r.body r.scope .none kV doc pm an cdv ct) ⟨us, []⟩ = pure (r.ps.zip us)
def AllB : List FR → Prop
  | [] => True
  | r :: rs => BindP r ∧ AllB rs
theorem AllB.mem : ∀ {l : List FR}, AllB l → ∀ r ∈ l, BindP r
  | _ :: _, ⟨a, b⟩, r, h => by
    rcases List.mem_cons.mp h with rfl | h
    · exact a
    · exact AllB.mem b r h
theorem AllB.app : ∀ {l m : List FR}, AllB l → AllB m → AllB (l ++ m)
  | [], _, _, h => h
  | _ :: _, _, ⟨a, b⟩, h => ⟨a, AllB.app b h⟩
theorem dvs_ints {G : Gd} {ρ : List Addr} {H : Hp} : ∀ ns : List Int, DVs G ρ H (ns.map D.int) (ns.map V.int)
  | [] => DVs.nil
  | _ :: r => DVs.cons (by unfold DV; rfl) (dvs_ints r)
theorem law_at {p : PRec} {l : PySem.W.OpenLaw} {w : World} {K : Frag} {mg : Str → Option Value} {fa : Addr} {h : Heap} {n N j f : Nat} {x name : Str} {r : FR}
    (X : K.In h) (Gn : h.Ns mainGlobals mg) (nls : ∀ a o, K.lookup a = some o → o.cls ≠ .type "list") (c : obsL p K = valL p) (ok : p.ok = true) (hb : AllB p.fns)
    (hmg : mg name = some (.ref fa)) (hgl : p.gl.lookup name = some (.fn f)) (hr : p.fns[f]? = some r) (hps : r.ps = [x])
    (hex : ∀ base : Heap, ∀ (i : Nat) (C : Addr) (ci : ExI) m, (p.gd l.prog w K mg base N).exA[i]? = some C → p.pg.exs[i]? = some ci → ci.exf = some m → ExcOk (p.gd l.prog w K mg base N) i C m)
    (hkin : ∀ base : Heap, K.In base → base.Ns mainGlobals mg → ∀ (f : Nat) (ks : List (Option Nat)) (fa : Addr), lookA f (p.gd l.prog w K mg base N).pg.kin = some ks → (p.gd l.prog w K mg base N).fnA[f]? = some fa → KinF (p.gd l.prog w K mg base N) fa ks)
    (hexm : ∀ base : Heap, ∀ (i j : Nat) (C C' : Addr) (ci : ExI), (p.gd l.prog w K mg base N).exA[i]? = some C → p.pg.exs[i]? = some ci → (p.gd l.prog w K mg base N).exA[j]? = some C' → PySem.W.exmOne K (.ref C) (.ref C') = some (ci.up.contains j))
    (hkg : ∀ base : Heap, K.In base → base.Ns mainGlobals mg → p.sx = true → KinG (p.gd l.prog w K mg base N)) (hxf : ∀ base : Heap, p.sx = true → ∀ (cc a : Nat) (C : Addr) (nm : Str), (p.gd l.prog w K mg base N).exA[cc]? = some C → fldOk p.pg cc a = true → p.an[a]? = some nm → PySem.W.findIn K (.ref C) nm = some none)
    (pure_ : ∀ (ns : List Int) (b : Bool), ns.length ≤ n → (∀ z ∈ ns, Builtin.Int.intBits z ≤ 1048576) → ∃ S', LA.call p.pg N (j + 1) f [.obj 0] [.lst (ns.map D.int) b] = some (.ok (.bl true), S')) :
    LamX.LawAtS l w K (L2.CX l.prog w) (2 * (j + 1) + 2) n x mg fa h := by
  have c1 : factsB p K = true := congrArg (fun z : AlL => z.1.1) c
  have nd : p.an.Nodup := of_decide_eq_true (Bool.and_eq_true_iff.mp ok).1
  have fac : ∀ base, K.In base → base.Ns mainGlobals mg → Facts (p.gd l.prog w K mg base N) := fun base hK hn => facts_ok hK hn c1 nd (hex base) (hkin base hK hn) (hexm base) (hkg base hK hn) (hxf base)
  have fnsOk : ∀ base, FunsOk (p.gd l.prog w K mg base N) p.fns := fun base => funs_ok c ok fun r hm => hb.mem r hm
  have ha : ∃ a, (p.fns.map (FR.ad K))[f]? = some a := ⟨_, map_get hr⟩
  obtain ⟨a, ha⟩ := ha
  obtain ⟨fi, hfi, FOk⟩ := (fnsOk h).ok f r a hr ha
  obtain ⟨fd, FD⟩ := FOk.fd
  have ea : a = fa := by
    obtain ⟨fa', e1, e2, _⟩ := (fac h X Gn).fn name f hgl
    have e1' : (p.fns.map (FR.ad K))[f]? = some fa' := e1
    rw [ha] at e1'
    cases e1'
    have e3 := hmg.symm.trans e2
    cases e3
    rfl
  subst ea
  refine ⟨fd, [], spI (p.gd l.prog w K mg h N) (LA.call p.pg N (j + 1)) f 1, (fun _ z => nomatch z), (fun _ z => nomatch z), (fun _ z => nomatch z), fun s u => ?_, fun H a ns hl hbits _ hS => ?_, fun base hK hn _ => ?_⟩
  · have q := FD.bindsA FOk.bind s [u] (by rw [hps]; rfl)
    rw [hps] at q
    exact q
  · have hH : ∃ b, OV (p.gd l.prog w K mg h N).toGd [a] H (.lst (ns.map D.int) b) a := by
      rcases hS with (e | ⟨o, e⟩) | ⟨o, its, m, e, q, _⟩
      · exact ⟨false, _, dvs_ints ns, e⟩
      · exact ⟨true, _, dvs_ints ns, o, e⟩
      · exact absurd q (nls _ _ e)
    obtain ⟨b, ov⟩ := hH
    obtain ⟨S', e⟩ := pure_ ns b hl hbits
    refine ⟨[a], [.lst (ns.map D.int) b], [.obj 0], ⟨rfl, List.nodup_cons.mpr (And.intro (fun z => nomatch z) List.nodup_nil), fun i o a' h1 h2 => ?_⟩, DVs.cons (show DV _ _ _ (.obj 0) (.ref a) by unfold DV; exact ⟨a, rfl, rfl⟩) DVs.nil, rfl, ?_⟩
    · cases i with
      | zero => cases h1; cases h2; exact ov
      | succ i => simp at h1
    · rw [e]
      intro ρ1 H1 v p1 t1 r1 dv
      unfold DV at dv
      exact dv
  · have q := fn_step (fac base hK hn) (lvl_all (fac base hK hn) (fnsOk base) j) hfi ⟨FOk.fd, FOk.bind, FOk.ok, FOk.eq⟩ FD
    rw [hps] at q
    exact q
end LA

/-! An exception's own __init__: super().__init__(text), then fields. -/
namespace LA
open PySem PySem.Spec PyProof.Rows L2
open PySem.W (Frag)
open PySem.Calls (loadGlobal_builtin)
section
variable {X : Cx} {pins : List (Addr × Obj)} {σ : L2.St} {H : Hp} {s : Shared}
/-- what the written part says of the def -/
structure SupF (X : Cx) (q : Str) (scope : Scope) (L f cda cc C : Addr) (sf : Str) : Prop where
  env : X.env = PySem.W.ksEnv q scope L f (.ref cda) cc
  fn : ∃ oc od fd osl ar, X.K.lookup f = some ⟨oc, od, .func fd, osl⟩ ∧ (fd.params.posonlyargs ++ fd.params.args).head? = some ar ∧ ar.arg = sf
  code : ∃ cl cd vs cs file tk, X.K.lookup cda = some ⟨cl, cd, .fields vs, cs⟩ ∧ vs[2]? = some (.str file tk) ∧ ((X.prog.main.file : Str) == file) = true
  cell : ∃ cl cd cs, X.K.lookup cc = some ⟨cl, cd, .cell (some (.ref C)), cs⟩
  up : ∃ cd, PySem.W.clsIn X.K C = some cd ∧ PySem.W.alongIn X.K "__init__" ((cd.mro.dropWhile (· != .ref C)).drop 1) = some (some (.builtin "ValueError.__init__"))
  sub : PySem.W.subIn X.K (.ref C) (.type "ValueError") = some true
  own : PySem.W.mroIn X.K C (.ref C) = some true
  opq : PySem.W.nsIn X.K cStatics "thirdparty.any" = some none
  noG : X.mg "super" = none
  top : (X.prog.main.scope.names.lookup ("super" : Str)).isSome = false
  kS : scope.names.lookup ("super" : Str) = some .globalImplicit
  kC : scope.names.lookup ("__class__" : Str) = some .free
  kV : scope.names.lookup sf = some .local
  kind : scope.kind = .function
/-- the wrapper called -/
theorem sup_call {a C u : Addr} {us : List Value} {Q : Value → Shared → Prop} {E : Value → Shared → Prop} {A : Around} (T : OexC X.K C) (I : Inv X pins σ H s) (e : H a = some (exo a C none)) (hu : s.heap.get? u = some (PySem.W.kxs_mw "ValueError.__init__" a)) (hl : us.length ≤ sizeLine)
    (h : ∀ s', Inv X pins σ H s' → Q .none s') : wpAny (model X.prog X.w) A (PySem.call (.ref u) us) Q E s := by
  obtain ⟨nm, q, N, bs, bm, sn, sub, ab, col, dd, k0, k1, k2, k3, k5, hC, hbm⟩ := T.cls
  obtain ⟨t1, ho⟩ := exo_at I.hok e
  have hC' := I.kIn _ _ hC
  obtain ⟨hp, g, d, t, os⟩ := s
  refine wpAny_call (codeAny_of_tree ?_)
  show wpAny _ A.in1 (callAny (.ref u) ⟨us, []⟩) _ _ _
  simp only [callAny]
  refine wpAny_bind (wpAny_load hu ?_)
  simp only [PySem.W.kxs_mw, show (Value.type "method-wrapper" == Value.type "method" || Value.type "method-wrapper" == Value.type "builtin_function_or_method" || Value.type "method-wrapper" == Value.type "method-wrapper") = true by decide, if_true]
  refine PySem.W.KFB.if_so (by decide) ?_
  refine wpAny_bind (PySem.W.check_bound_init PySem.F.excBase_ValueError.toExcCallFacts hC' ho rfl ?_)
  refine wpAny_bind (wpAny_pure (wpAny_pure ?_))
  refine ⟨plainId_quiet PySem.F.excBase_ValueError.init.plain _, codeAny_builtin PySem.F.excBase_ValueError.initEntry ?_⟩
  refine PySem.W.exc_init_tree (cls := .ref C) (t0 := t1) (dv := none) (c2 := .none) (c3 := .none) (b4 := .bool false) ho hl fun h' k hx _ => ?_
  have J := I.write (t' := t) (x := a) (e := a) (o := exo a C none) (by rw [e]; exact True.intro) (.inl rfl) k ⟨_, hx⟩ (exo_ok hx)
  have eu : upd H a (exo a C none) = H := by
    funext b
    by_cases hb : b = a
    · rw [hb, upd_same, e]
    · rw [upd_ne hb]
  rw [eu] at J
  exact h _ J
/-- super().__init__(e) -/
theorem sup_init {q sf : Str} {scope : Scope} {L f cda cc a C : Addr} {body : List Stmt} {e : Expr} {te : TE} {p0 p1 p2 pos pos' : Pos} {pl : Sem Bool} (F : SupF X q scope L f cda cc C sf) (T : OexC X.K C) (I : Inv X pins σ H s) (h0 : X.N[0]? = some sf) (s0 : σ[0]? = some (some (.ref a))) (ea : H a = some (exo a C none))
    (he : PE X e te) (hte : te σ H fun v H1 => (∃ z, [v] = [V.str z]) ∧ H1 = H)
    (hc : eval (.Call (.Attribute (.Call (.Name "super" p0) [] [] p1) "__init__" p2) [e] [] pos) X.env = (do
      let ov ← attributeBase (.Call (.Name "super" p0) [] [] p1) "__init__" X.env (eval (.Call (.Name "super" p0) [] [] p1) X.env)
      standAt p2.atName
      let (f, first) ← holding [ov] (getMethod ov "__init__" pl)
      callWith pos f first (backTo pos (starEach [e] X.env)) []))
    (hst : starEach [e] X.env = [(false, eval e X.env)]) (hsw : swapsWith (.Call (.Attribute (.Call (.Name "super" p0) [] [] p1) "__init__" p2) [e] [] pos) none pos'.line X.env = pure false) :
    PySem.wpAt (model X.prog X.w) X.A (.func body X.env) (exec (.Expr (.Call (.Attribute (.Call (.Name "super" p0) [] [] p1) "__init__" p2) [e] [] pos) pos') X.env) (fun fl s' => fl = .next ∧ Inv X pins σ H s') X.xe s := by
  refine ks_wpAt_Expr_any ?_ I.quiet hsw
  refine ks_wpAt_MethodCall (pl := pl) ?_ hc
  obtain ⟨fc, fo, fd, fs, ar, lf, hhd, har⟩ := F.fn
  obtain ⟨cl, cd, vs, cs, file, tk, lc, hvs, hfile⟩ := F.code
  obtain ⟨ecl, ecd, ecs, lcell⟩ := F.cell
  obtain ⟨cdC, lC, hal⟩ := F.up
  obtain ⟨m, hns, hlook⟩ := I.loc
  have kS : X.env.scope.names.lookup ("super" : Str) = some .globalImplicit := by rw [F.env]; exact F.kS
  have kC : X.env.scope.names.lookup ("__class__" : Str) = some .free := by rw [F.env]; exact F.kC
  have kV : X.env.scope.names.lookup sf = some .local := by rw [F.env]; exact F.kV
  have hv : m sf = some (.ref a) := by
    obtain ⟨u, ru, l⟩ := hlook 0 sf _ h0 s0 (.inl kV)
    obtain rfl : u = Value.ref a := ru
    rcases l with ⟨_, l⟩ | ⟨l, _⟩
    · exact l
    · rcases l with l | l
      · exact absurd (kV.symm.trans l) (by simp)
      · exact absurd (kV.symm.trans l) (by simp)
  have KX := I.kIn
  have hkind := I.ok.kind
  have hD : ∃ oD, s.heap.get? C = some oD ∧ oD.data = .cls cdC := by
    unfold PySem.W.clsIn at lC
    split at lC
    · rename_i c d cd' sl ho
      cases lC
      exact ⟨_, KX _ _ ho, rfl⟩
    · cases lC
  obtain ⟨oD, hD1, hD2⟩ := hD
  obtain ⟨t1, hoe⟩ := exo_at I.hok ea
  have IA : PySem.W.InstAt s.heap a { cls := .ref C, dict := none, data := .fields #[.ref t1, .none, .none, .none, .bool false, .none] } C none := ⟨hoe, rfl, rfl, trivial⟩
  have neC : a ≠ C := fun z => by
    rw [z, hD1] at hoe
    cases hoe
    cases hD2
  refine ks_wpAt_super_base (f := f) (cc := cda) kS kC (by decide) (by rw [F.env]) (KX _ _ lf) rfl hhd (by rw [F.env]) (KX _ _ lc) rfl hvs hfile F.top ?_
  obtain ⟨mb, hb1, hb2⟩ := I.mod.blt
  refine PySem.W.ks_loadName_global hkind kS (loadGlobal_builtin (by rw [I.ok.glob]; exact I.mod.glob.keeps I.bk) F.noG (by rw [I.ok.blt]; exact hb1.keeps I.bk) ((hb2 _ (by decide +kernel)).trans (by kernel_rfl)) ⟨rfl, ?_⟩)
  refine wpAny_loadName_free hkind kC (by rw [F.env]; rfl) ⟨_, KX _ _ lcell, rfl⟩ ?_
  rw [har]
  refine wpAny_loadName_local hkind kV hns hv ?_
  refine ks_wpAny_isType_cls hD1 hD2 ⟨rfl, ?_⟩
  obtain ⟨hp, g, d, t, os⟩ := s
  refine ks_wpAny_call_super hD1 hD2 hoe rfl (fun c z => by cases z) (PySem.W.looks_mroIn KX F.own) fun h1 e1 k1 => ?_
  have I1 : Inv X pins σ H ⟨h1, g, d, t, os⟩ := I.kept (t' := t) k1
  have KX1 := I1.kIn
  have hI : PySem.W.Looks (model X.prog X.w) h1 (isInstance (.ref a) (.type "ValueError")) true := (show PySem.W.InstAt h1 a _ C none from ⟨k1 _ _ hoe, rfl, rfl, trivial⟩).type.andThen (PySem.W.looks_subIn KX1 F.sub)
  refine PySem.W.kxs_getMethod PySem.W.kxs_ValueError e1 (PySem.W.looks_opaque KX1 F.opq) (l₀ := cdC.mro) (fun A Q E s k q => wpAny_bind ((PySem.W.looks_clsIn KX1 lC) A _ E s k (wpAny_pure q))) rfl KX1 hal hI neC (by decide) ?_
  -- the wrapper stands; the text is reckoned
  have k2 : ∀ b o, h1.get? b = some o → (h1.push (PySem.W.kxs_mw "ValueError.__init__" a)).get? b = some o := fun b o z => Heap.get?_push_of_some _ z
  have I2 : Inv X pins σ H ⟨h1.push (PySem.W.kxs_mw "ValueError.__init__" a), g, d, t + 1, os⟩ := I1.kept (t' := t + 1) k2
  have hw : (h1.push (PySem.W.kxs_mw "ValueError.__init__" a)).get? h1.objs.size = some (PySem.W.kxs_mw "ValueError.__init__" a) := Heap.get?_push_at rfl rfl
  have hnu : H h1.objs.size = none := I1.hok.fresh (Nat.le_refl _)
  have nl : h1.objs.size ≠ X.env.locals := fun z => by
    have := I1.lt
    rw [← z] at this
    exact Nat.lt_irrefl _ this
  have nf : h1.objs.size ∉ X.fs := I1.nofs (Nat.le_refl _)
  have I3 : Inv X ((h1.objs.size, PySem.W.kxs_mw "ValueError.__init__" a) :: pins) σ H ⟨h1.push (PySem.W.kxs_mw "ValueError.__init__" a), g, d, t + 1, os⟩ := I2.pins_of fun p hp => by
    rcases List.mem_cons.mp hp with rfl | hp
    · exact ⟨hw, hnu, nl, nf, fun v z => by cases z⟩
    · exact I2.pin p (List.mem_append_right _ hp)
  show wpAny _ _ (callWith pos (Value.ref h1.objs.size) [] (backTo pos (starEach [e] X.env)) []) _ _ _
  have hrun := (pa_cons he pa_nil hst).run pos _ _ σ H (fun ws H1 => (∃ z, ws = [V.str z]) ∧ H1 = H) I3 hte
  rw [hst] at hrun ⊢
  refine PySem.W.kxs_callWith (i := "ValueError.__init__") (x := a) (by rfl) (PySem.Calls.evalArgs_plain (thn hrun fun us s1 hh => ?_))
  obtain ⟨ws, H1, I4, r4, ⟨z, rfl⟩, rfl⟩ := hh
  have hw4 : s1.heap.get? h1.objs.size = some (PySem.W.kxs_mw "ValueError.__init__" a) := (I4.pin _ (List.mem_append_right _ List.mem_cons_self)).1
  have hl : us.length ≤ sizeLine := by
    rw [← Paired.length r4, sizeLine_eq]
    exact (by decide : 1 ≤ 16777216)
  exact ⟨hw4, sup_call T I4 ea hw4 hl fun s' J => ⟨rfl, J.pins_of fun p hp => J.pin p (List.mem_append_right _ (List.mem_cons_of_mem _ hp))⟩⟩
end
/-! ### such a def by its body -/
section
open NdefX (NScope CellsAt ncx envF startF inv_startN)
variable {CX : CXT} {P : Program} {w : World} {K : Frag} {mg : Str → Option Value} {base : Heap} {N ps : List Str} {F : NdefX.NF} {f cc : Addr} {k : Nat} {sp : Sp} {oc kV doc pm ct : Value} {od an : Option Addr} {osl : Array (Option Value)}
theorem cfn_ok (lk : K.lookup f = some ⟨oc, od, .func (PySem.W.fnX F.name F.qual F.params F.body F.scope F.cl .none kV doc pm an (.ref F.c) ct), osl⟩) (hcd : PySem.W.codeIn K (.ref F.c) F.qual = true) (hcl : F.cl = [(("__class__" : Str), cc)])
    (hcell : ∃ cl cd cs v, K.lookup cc = some ⟨cl, cd, .cell v, cs⟩) (S : NScope N ps ["__class__"] F.scope) (len : ∀ vs H Q E, sp vs H Q E → vs.length = ps.length)
    (hbody : ∀ (A : Around) (outer : List Env) (s : Shared) (H : Hp) (vs : List V) (Q : VK) (E : XK), Room k (A.deeper (envF F f s.heap.objs.size)) → sp vs H Q E → ∀ s1, Inv (ncx CX P w K mg base N F f A outer s H E) [] (startF N vs [none]) H s1 →
      PySem.wpAt (model P w) (A.deeper (envF F f s.heap.objs.size)) (.func F.body (envF F f s.heap.objs.size)) (execs F.body (envF F f s.heap.objs.size)) (SP (ncx CX P w K mg base N F f A outer s H E) [] { nx := fun _ H' => Q .non H', rt := Q }) (ncx CX P w K mg base N F f A outer s H E).xe s1) :
    FnOk P w K mg base CX (k + 1) f (PySem.W.fnX F.name F.qual F.params F.body F.scope F.cl .none kV doc pm an (.ref F.c) ct) ps sp := by
  refine ⟨len, fun A outer s H args us vs Q E hr e0 hb r hsp => ?_⟩
  have hl := len _ _ _ _ hsp
  have KX : K.In s.heap := e0.mod.kin.keeps fun b o e => (e0.bs b o e).1
  have lim : s.heap.NoLimit := e0.mod.nolimit.keeps fun b o e => (e0.bs b o e).1
  obtain ⟨ccl, ccd, ccs, cv, lcc⟩ := hcell
  have C : CellsAt F.cl ["__class__"] [none] s.heap H := by
    rw [hcl]
    have one : ∀ {y : Str} {c : Addr}, List.lookup y [(("__class__" : Str), cc)] = some c → c = cc ∧ y = "__class__" := fun {y c} e => by
      unfold List.lookup at e
      split at e
      · rename_i hb
        cases e
        exact ⟨rfl, eq_of_beq hb⟩
      · cases e
    refine ⟨rfl, fun y c e => ?_, fun x y c e1 e2 => ?_, fun i y e => ?_⟩
    · obtain ⟨rfl, _⟩ := one e
      exact ⟨(e0.bs _ _ (e0.mod.kin _ _ lcc)).2, cv, _, KX _ _ lcc, rfl⟩
    · rw [(one e1).2, (one e2).2]
    · cases i with
      | zero => cases e; exact ⟨cc, by simp, fun v z => by cases z⟩
      | succ i => simp at e
  refine ks_codeAny_call_defAt (body := F.body) (binds := ps.zip us) hr.depth (KX _ _ lk) rfl lim (PySem.W.codeRec_of KX hcd) rfl hb S.nocell (fun ⟨n, _⟩ hy => S.par n (List.of_mem_zip hy).1) (fun h₀ hns kp => ?_) S.co S.gen S.kind
  have I : Inv (ncx CX P w K mg base N F f A outer s H E) [] (startF N vs [none]) H { s with heap := h₀, toks := s.toks + (ps.zip us).length } := inv_startN S hr.hd e0 hl r C hns kp
  refine ks_wpAt_mono (hbody A outer s H vs Q E (hr.deeper _) hsp _ I) (fun fl s' hs => ?_) fun e s' hs => hs
  have fin : ∀ {σ' : L2.St} {H' : Hp} {v : V} {u : Value}, Inv (ncx CX P w K mg base N F f A outer s H E) [] σ' H' s' → L2.RelV v u → Q v H' → CE outer P w H s Q u s' :=
    fun {σ' H' v u} J rv q => ⟨v, H', J.os, J.bare, J.base, J.hok, rv, q⟩
  cases fl with
  | ret u =>
    obtain ⟨v, σ', H', J, rv, q⟩ := hs
    exact fin J rv q
  | next =>
    obtain ⟨σ', H', J, q⟩ := hs
    exact fin (v := V.non) (u := Value.none) J rfl q
  | brk =>
    obtain ⟨_, _, _, q⟩ := hs
    exact False.elim q
  | cont =>
    obtain ⟨_, _, _, q⟩ := hs
    exact False.elim q
end
/-! ### the exception made -/
section
variable {X : Cx} {pins : List (Addr × Obj)} {σ : L2.St} {H H2 : Hp} {Q : XK} {C a : Addr}
/-- one that got no dict -/
theorem let_goN {hp hp2 h2 : Heap} {g1 g2 : Array GenState} {d1 d2 : Drawn} {t1 t2 : Nat} {os1 os2 : OsState} (T : Raises X (.ref C)) (I : Inv X pins σ H ⟨hp, g1, d1, t1, os1⟩) (la : hp.objs.size ≤ a) (kk : ∀ b o, hp.get? b = some o → hp2.get? b = some o)
    (un : Un (frs X.stack) [] (upd H a (exo a C none)) (upd H a (exo a C none)) hp2 h2) (hok : HOk X.prog X.w (upd H a (exo a C none)) h2) (ho : os2 = os1) (hb : AllBare g2) (q : Q (.ref C) none H) : MkP X pins σ Q (.ref a) ⟨h2, g2, d2, t2, os2⟩ := by
  obtain ⟨tt, hoe⟩ := exo_at hok (upd_same (H := H) (a := a))
  have na : H a = none := I.hok.fresh la
  have nx : ∀ {b : Addr} {o : Obj}, hp.get? b = some o → b ≠ a := fun {b o} z e => by
    have := Heap.lt_size z
    rw [e] at this
    exact absurd this (Nat.not_lt.mpr la)
  have upn : ∀ {b : Addr} {u : HO}, H b = some u → b ≠ a := fun {b u} z e => by rw [e, na] at z; cases z
  obtain ⟨G, in_, out⟩ := restrict h2 fun b => decide (b ≠ a)
  have gs : ∀ b, b ≠ a → G.get? b = h2.get? b := fun b z => in_ b (decide_eq_true z)
  have ga : G.get? a = none := out a (by simp)
  have stay : ∀ {b : Addr}, b ≠ a → upd H a (exo a C none) b = H b := fun {b} z => upd_ne z
  have U : Un (frs X.stack) [] H H hp G := {
    keep := fun b o z n f x => (gs b (nx z)).trans (un.keep b o (kk b o z) ((stay (nx z)).trans n) f x)
    slot := fun b o z n f x => by
      obtain ⟨sl, y⟩ := un.slot b o (kk b o z) ((stay (nx z)).trans n) f x
      exact ⟨sl, (gs b (nx z)).trans y⟩
    free := fun b o z n x => n
    there := fun b o z x => by
      obtain ⟨o', y⟩ := un.there b o (kk b o z) x
      exact ⟨o', (gs b (nx z)).trans y⟩
    tups := fun b xs z => z
    frzs := fun b o v z => z
    tbls := fun b ps z => ⟨#[], by rw [z]; simp⟩ }
  have hokG : HOk X.prog X.w H G := fun b o z => by
    have nb : b ≠ a := upn z
    refine (hok b o ((stay nb).trans z)).stay (fun c v hc y => ?_) (fun c hc => ?_) fun c xs hc => ?_
    · have hca : c ≠ a := by
        rcases hc with rfl | hc
        · exact nb
        · intro e
          rw [e, upd_same] at hc
          exact exo_own (Option.some.inj hc)
      exact (gs c hca).trans y
    · have hca : c ≠ a := fun e => by rw [e, upd_same] at hc; exact exo_own (Option.some.inj hc)
      exact (stay hca).symm.trans hc
    · have hca : c ≠ a := fun e => by rw [e, upd_same] at hc; exact exo_tup (Option.some.inj hc)
      exact (stay hca).symm.trans hc
  have J : Inv X pins σ H ⟨G, g2, d2, t2, os2⟩ := I.call' (ch := []) ho U hokG hb fun b z => absurd z (by simp)
  refine ⟨a, _, _, ⟨G, g2, d2, t2, os2⟩, H, .ref C, none, rfl, J, fun b o z => ?_, ga, hoe, ⟨rfl, rfl⟩, rfl, rfl, na, rfl, hb, T, q⟩
  by_cases e : b = a
  · rw [e, ga] at z; cases z
  · exact (gs b e).symm.trans z
/-- how its own __init__ leaves it -/
def ExEnd (a C : Addr) (H : Hp) (fs : List (Str × V)) (H2 : Hp) : Prop :=
  (fs = [] ∧ H2 = upd H a (exo a C none)) ∨ ∃ d : Addr, H d = none ∧ d ≠ a ∧ H2 a = some (exo a C (some d)) ∧ H2 d = some (exd d fs) ∧ ∀ b, b ≠ a → b ≠ d → H2 b = H b
theorem exc_made {CX : CXT} {fI : Addr} {k : Nat} {fd : FuncData} {ps : List Str} {sp : Sp} {s : Shared} {us : List Value} {vs : List V} {fs : List (Str × V)} (T : OexC X.K C) (iC : PySem.W.findIn X.K (.ref C) "__init__" = some (some (.ref fI))) (tI : PySem.W.typeIn X.K (.ref fI) = some (.type "function"))
    (F1 : FnOk X.prog X.w X.K X.mg X.base CX k fI fd ps sp) (hr : Room (k + 1) X.A) (hb : Binds X.K fd ps []) (hx : Passes CX X (fun _ _ _ => False)) (I : Inv X pins σ H s) (rv : Vals vs us) (hz : vs.length ≤ 1000)
    (h : ∀ a, H a = none → sp (.ref a :: vs) (upd H a (exo a C none)) (fun v H2 => v = .non ∧ ExEnd a C H fs H2) (fun _ _ _ => False))
    (q0 : fs = [] → Q (.ref C) none H) (q1 : ∀ (d : Addr) (H2 : Hp), H2 d = some (.xd fs) → (∀ b u, H b = some u → H2 b = some u) → (∀ b, b ≠ d → H b = none → H2 b = none) → H d = none → Q (.ref C) (some d) H2) :
    wpAny (model X.prog X.w) X.A (PySem.call (.ref C) us) (MkP X pins σ Q) X.xe s := by
  obtain ⟨nm, q, N, bs, bm, sn, sub, ab, col, dd, k0, k1, k2, k3, k5, hC, hbm⟩ := T.cls
  obtain ⟨hp, g, dr, tk, os⟩ := s
  have up1 : hp.objs.size ≤ hp.objs.size + 1 := Nat.le_succ _
  have hn : H (hp.objs.size + 1) = none := I.hok.fresh up1
  have hsp := h (hp.objs.size + 1) hn
  have stays : ∀ b o, hp.get? b = some o → ((hp.push (PySem.W.kdv_tup us)).push (PySem.HandSPX.excO C hp.objs.size)).get? b = some o := fun b o e => Heap.get?_push_of_some _ (Heap.get?_push_of_some _ e)
  have there : ((hp.push (PySem.W.kdv_tup us)).push (PySem.HandSPX.excO C hp.objs.size)).get? (hp.objs.size + 1) = some (PySem.HandSPX.excO C hp.objs.size) := by heap_get
  have J : Inv X pins σ (upd H (hp.objs.size + 1) (exo (hp.objs.size + 1) C none)) ⟨(hp.push (PySem.W.kdv_tup us)).push (PySem.HandSPX.excO C hp.objs.size), g, dr, tk, os⟩ :=
    I.laid (t' := tk) stays up1 (exo_ok there)
  have rr : Vals (V.ref (hp.objs.size + 1) :: vs) (Value.ref (hp.objs.size + 1) :: us) := .cons rfl rv
  have hlen : (Value.ref (hp.objs.size + 1) :: us).length = ps.length := by
    rw [← F1.len _ _ _ _ hsp]
    exact rr.length.symm
  have hus : us.length ≤ sizeLine := by
    rw [← Paired.length rv, sizeLine_eq]
    omega
  have hbinds := hb (Shared.mk ((hp.push (PySem.W.kdv_tup us)).push (PySem.HandSPX.excO C hp.objs.size)) g dr tk os) (Value.ref (hp.objs.size + 1) :: us) J.kIn (by simpa using hlen)
  rw [List.append_nil] at hbinds
  refine wpAny_call (PySem.HandSPX.call_own PySem.F.excBase_ValueError (fun Y => PySem.HandSPX.refsVE_contains Y bm hbm) (I.kIn _ _ hC) (PySem.W.looks_findIn I.kIn iC) (fun self => PySem.W.bind_fn I.kIn self tI) hus
    (codeAny_mono (F1.run _ X.stack _ _ ⟨Value.ref (hp.objs.size + 1) :: us, []⟩ (Value.ref (hp.objs.size + 1) :: us) _ _ (fun _ _ _ => False) (hr.make C us []) (J.env0.make C us []) hbinds rr hsp) fun r s' z => ?_))
  cases r with
  | error er => exact hx pins σ _ _ er s' J z
  | ok fl =>
    cases fl with
    | ret u =>
      obtain ⟨v, H2, os2, bare2, un2, hok2, rv2, ev, en⟩ := z
      subst ev
      obtain ⟨h2, g2, d2, t2, os'⟩ := s'
      refine ⟨rv2, ?_⟩
      rcases en with ⟨e1, rfl⟩ | ⟨d, hd, nda, ea, ed, oth⟩
      · exact let_goN (raises_own T.exC T.tyC) I up1 stays un2 hok2 os2 bare2 (q0 e1)
      · refine mk_end (raises_own T.exC T.tyC) I up1 stays un2 hok2 os2 bare2 ea ed hd (q1 d _ upd_same (fun b u z => ?_) (fun b nd z => ?_) hd)
        · have nd : b ≠ d := fun e => by rw [e, hd] at z; cases z
          have na : b ≠ hp.objs.size + 1 := fun e => by rw [e, hn] at z; cases z
          rw [upd_ne nd, del_ne na, oth b na nd]
          exact z
        · rw [upd_ne nd]
          by_cases e : b = hp.objs.size + 1
          · rw [e, del_same]
          · rw [del_ne e, oth b e nd]; exact z
    | next => exact False.elim z
    | brk => exact False.elim z
    | cont => exact False.elim z
end
/-! ### the text that it shows -/
def FmtV (v : V) : Prop := (∃ y : Str, v = .str y ∧ y.length ≤ 20000 ∧ (reprText y).length ≤ 20000) ∨ ∃ i : Int, v = .int i ∧ i.natAbs.log2 < 1920 ∧ (toString i : Str).length ≤ 20000
def partOk (ps : List Str) : Expr → Bool
  | .Constant (.str z) _ _ => decide (z.length ≤ 1000)
  | .FormattedValue (.Name x _) c none _ => (ps.drop 1).contains x && !(x == ("__debug__" : Str)) && !(x == ("__classdict__" : Str)) && (decide (c = -1) || decide (c = 114))
  | _ => false
def msgOk (ps : List Str) : Expr → Bool
  | .Constant (.str z) _ _ => decide (z.length ≤ 1000)
  | .JoinedStr (v1 :: v2 :: rest) _ => (v1 :: v2 :: rest).all (partOk ps) && decide ((v1 :: v2 :: rest).length ≤ 20)
  | _ => false
/-- self.f = x: the field, x's place -/
def asgOf (ps : List Str) : Stmt → Option (Str × Nat)
  | .Assign [.Attribute (.Name y _) f _] (.Name x _) _ => if decide (ps.head? = some y) && ps.contains x && !(x == ("__debug__" : Str)) && !(x == ("__classdict__" : Str)) && !(y == ("__debug__" : Str)) && !(y == ("__classdict__" : Str)) then some (f, ps.idxOf x) else none
  | _ => none
structure PsOk (X : Cx) (ps : List Str) : Prop where
  at_ : ∀ (i : Nat) x, ps[i]? = some x → X.N[i]? = some x
  vis : ∀ x ∈ ps, Vis X.env.scope x
def SlF (ps : List Str) (σ : L2.St) : Prop := ∀ i, 1 ≤ i → i < ps.length → ∃ v, σ[i]? = some (some v) ∧ FmtV v
section
variable {X : Cx} {ps : List Str}
theorem part_pe (P : PsOk X ps) : ∀ e, partOk ps e = true → ∃ te : TE, PE X e te ∧ ∀ (σ : L2.St) (H : Hp) (Q : VK), SlF ps σ → (∀ y : Str, y.length ≤ 20000 → Q (.str y) H) → te σ H Q := by
  intro e h
  cases e <;> first | (cases h; done) | skip
  · -- {x}
    rename_i v c spec pos
    cases v <;> first | (cases h; done) | skip
    rename_i x p
    cases spec <;> first | (cases h; done) | skip
    unfold partOk at h
    simp only [Bool.and_eq_true, Bool.or_eq_true, decide_eq_true_eq, Bool.not_eq_true'] at h
    obtain ⟨⟨⟨h1, h2⟩, h3⟩, h4⟩ := h
    have hm : x ∈ ps.drop 1 := by simpa using h1
    obtain ⟨i, hi⟩ := List.mem_iff_getElem?.mp hm
    rw [List.getElem?_drop] at hi
    have hlt : 1 + i < ps.length := (List.getElem?_eq_some_iff.mp hi).1
    have hv : PE X (.Name x p) (tVar (1 + i)) := pe_var (P.at_ _ _ hi) (P.vis x (List.mem_of_getElem? hi)) h2 h3
    rcases h4 with rfl | rfl
    · refine ⟨_, pe_fmt hv, fun σ H Q hs hq => ?_⟩
      obtain ⟨v, hv, f⟩ := hs (1 + i) (by omega) hlt
      refine ⟨v, hv, ?_⟩
      rcases f with ⟨y, rfl, l1, l2⟩ | ⟨n, rfl, l1, l2⟩
      · exact .inl ⟨y, rfl, Nat.le_trans l1 (by rw [sizeLine_eq]; omega), hq y l1⟩
      · exact .inr ⟨n, rfl, l1, hq _ l2⟩
    · refine ⟨_, pe_fmtR hv, fun σ H Q hs hq => ?_⟩
      obtain ⟨v, hv, f⟩ := hs (1 + i) (by omega) hlt
      refine ⟨v, hv, ?_⟩
      rcases f with ⟨y, rfl, l1, l2⟩ | ⟨n, rfl, l1, l2⟩
      · exact .inl ⟨y, rfl, Nat.le_trans l2 (by rw [sizeLine_eq]; omega), hq _ l2⟩
      · exact .inr ⟨n, rfl, l1, hq _ l2⟩
  · rename_i k j pos
    cases k <;> first | (cases h; done) | skip
    unfold partOk at h
    exact ⟨_, pe_str, fun σ H Q _ hq => hq _ (Nat.le_trans (of_decide_eq_true h) (by omega))⟩
theorem parts_pj (P : PsOk X ps) : ∀ es : List Expr, es.all (partOk ps) = true → ∃ ts, PJ X es ts ∧ ∀ (σ : L2.St) (H : Hp) (acc : Str) (Q : Str → Hp → Prop), SlF ps σ → acc.length + es.length * 20000 ≤ sizeLine → (∀ out, Q out H) → tJs ts acc σ H Q
  | [], _ => ⟨[], .nil, fun σ H acc Q _ _ q => q acc⟩
  | e :: r, h => by
    rw [List.all_cons, Bool.and_eq_true] at h
    obtain ⟨te, h1, h2⟩ := part_pe P e h.1
    obtain ⟨ts, h3, h4⟩ := parts_pj P r h.2
    refine ⟨te :: ts, .cons h1 h3, fun σ H acc Q hs hl q => h2 σ H _ hs fun y hy => ?_⟩
    rw [List.length_cons, Nat.succ_mul] at hl
    have el : (acc ++ y).length = acc.length + y.length := PySem.Str.length_append acc y
    exact ⟨y, rfl, by rw [el]; omega, h4 σ H (acc ++ y) Q hs (by rw [el]; omega) q⟩
theorem msg_pe (P : PsOk X ps) (e : Expr) (h : msgOk ps e = true) : ∃ te : TE, PE X e te ∧ ∀ (σ : L2.St) (H : Hp), SlF ps σ → te σ H fun v H1 => (∃ z, [v] = [V.str z]) ∧ H1 = H := by
  cases e <;> first | (cases h; done) | skip
  · rename_i vs pos
    rcases vs with _ | ⟨v1, _ | ⟨v2, rest⟩⟩
    · cases h
    · cases h
    · unfold msgOk at h
      rw [Bool.and_eq_true] at h
      obtain ⟨ts, h1, h2⟩ := parts_pj P _ h.1
      refine ⟨_, pe_joined h1, fun σ H hs => h2 σ H _ _ hs ?_ fun out => ⟨⟨out, rfl⟩, rfl⟩⟩
      have := of_decide_eq_true h.2
      have e0 : (Str.empty).length = 0 := rfl
      rw [e0, sizeLine_eq]
      omega
  · rename_i k j pos
    cases k <;> first | (cases h; done) | skip
    exact ⟨_, pe_str, fun σ H _ => ⟨⟨_, rfl⟩, rfl⟩⟩
theorem asg_ps (P : PsOk X ps) {st : Stmt} {f : Str} {i : Nat} (h : asgOf ps st = some (f, i)) : PS X st (tOst X.K f (tVar 0) (tVar i)) ∧ i < ps.length := by
  unfold asgOf at h
  split at h
  · rename_i y p1 f' p2 x p3 pos
    split at h
    · rename_i hc
      cases h
      simp only [Bool.and_eq_true, decide_eq_true_eq, Bool.not_eq_true'] at hc
      obtain ⟨⟨⟨⟨⟨h1, h2⟩, h3⟩, h4⟩, h5⟩, h6⟩ := hc
      have h0 : ps[0]? = some y := by rw [← h1, List.head?_eq_getElem?]
      have hx : x ∈ ps := by simpa using h2
      have hi : ps.idxOf x < ps.length := List.idxOf_lt_length_iff.mpr hx
      have hix : ps[ps.idxOf x]? = some x := by rw [List.getElem?_eq_getElem hi, List.getElem_idxOf]
      exact ⟨ps_ost (pe_var (P.at_ _ _ h0) (P.vis y (List.mem_of_getElem? h0)) h5 h6) (pe_var (P.at_ _ _ hix) (P.vis x hx) h3 h4) rfl, hi⟩
    · cases h
  · cases h
end
/-! ### an exception's own __init__ keeps its promise -/
/-- what the text shows -/
structure XText (ps : List Str) (fl : List (Str × Nat)) (scope : Scope) (params : Arguments) (body : List Stmt) : Prop where
  sc : NdefX.NScope (ps ++ [("__class__" : Str)]) ps ["__class__"] scope
  kS : scope.names.lookup ("super" : Str) = some .globalImplicit
  hd : ∃ ar, (params.posonlyargs ++ params.args).head? = some ar ∧ ps.head? = some ar.arg
  body : ∃ (p0 p1 p2 pos pos' : Pos) (e : Expr) (rest : List Stmt), body = .Expr (.Call (.Attribute (.Call (.Name "super" p0) [] [] p1) "__init__" p2) [e] [] pos) pos' :: rest ∧ msgOk ps e = true ∧ rest.map (asgOf ps) = fl.map some ∧
    (∀ env : Env, ∃ pl, eval (.Call (.Attribute (.Call (.Name "super" p0) [] [] p1) "__init__" p2) [e] [] pos) env = (do
      let ov ← attributeBase (.Call (.Name "super" p0) [] [] p1) "__init__" env (eval (.Call (.Name "super" p0) [] [] p1) env)
      standAt p2.atName
      let (f, first) ← holding [ov] (getMethod ov "__init__" pl)
      callWith pos f first (backTo pos (starEach [e] env)) [])) ∧
    (∀ env : Env, starEach [e] env = [(false, eval e env)]) ∧ ∀ env : Env, swapsWith (.Call (.Attribute (.Call (.Name "super" p0) [] [] p1) "__init__" p2) [e] [] pos) none pos'.line env = pure false
def fldsOf (vs : List V) (fl : List (Str × Nat)) : List (Str × V) := (fl.map fun p => (p.1, vs.getD p.2 .non)).reverse
def spX (C : Addr) (n : Nat) (fl : List (Str × Nat)) : Sp := fun vs H Q _ => ∃ (a : Addr) (ws : List V) (H0 : Hp), vs = .ref a :: ws ∧ ws.length = n ∧ (∀ w ∈ ws, FmtV w) ∧ H0 a = none ∧ H = upd H0 a (exo a C none) ∧ ∀ H2, ExEnd a C H0 (fldsOf vs fl) H2 → Q .non H2
section
variable {P : Program} {w : World} {K : Frag} {mg : Str → Option Value} {base : Heap} {ps : List Str} {fl : List (Str × Nat)} {F : NdefX.NF} {f cc C : Addr} {k : Nat} {CX : CXT} {oc kV doc pm ct : Value} {od an : Option Addr} {osl : Array (Option Value)}
theorem xinit_ok (lk : K.lookup f = some ⟨oc, od, .func (PySem.W.fnX F.name F.qual F.params F.body F.scope F.cl .none kV doc pm an (.ref F.c) ct), osl⟩) (hcd : PySem.W.codeIn K (.ref F.c) F.qual = true) (hcl : F.cl = [(("__class__" : Str), cc)])
    (hcell : ∃ cl cd cs, K.lookup cc = some ⟨cl, cd, .cell (some (.ref C)), cs⟩) (X : XText ps fl F.scope F.params F.body) (T : OexC K C) (hfl : fl.length ≤ 2) (hno : ∀ p ∈ fl, PySem.W.findIn K (.ref C) p.1 = some none)
    (hcode : ∃ cl cd vs cs file tk, K.lookup F.c = some ⟨cl, cd, .fields vs, cs⟩ ∧ vs[2]? = some (.str file tk) ∧ ((P.main.file : Str) == file) = true)
    (hup : ∃ cd, PySem.W.clsIn K C = some cd ∧ PySem.W.alongIn K "__init__" ((cd.mro.dropWhile (· != .ref C)).drop 1) = some (some (.builtin "ValueError.__init__")))
    (hsub : PySem.W.subIn K (.ref C) (.type "ValueError") = some true) (hown : PySem.W.mroIn K C (.ref C) = some true) (hopq : PySem.W.nsIn K cStatics "thirdparty.any" = some none) (hnoG : mg "super" = none) (htop : (P.main.scope.names.lookup ("super" : Str)).isSome = false) :
    FnOk P w K mg base CX (k + 1) f (PySem.W.fnX F.name F.qual F.params F.body F.scope F.cl .none kV doc pm an (.ref F.c) ct) ps (spX C (ps.length - 1) fl) := by
  obtain ⟨ar, hd1, hd2⟩ := X.hd
  have hps : ps.length = (ps.length - 1) + 1 := by
    cases ps with
    | nil => cases hd2
    | cons _ _ => simp
  obtain ⟨p0, p1, p2, pos, pos', e, rest, hbody, hmsg, hrest, hev, hst, hsw⟩ := X.body
  refine cfn_ok lk hcd hcl (let ⟨a, b, c, d⟩ := hcell; ⟨a, b, c, _, d⟩) X.sc (fun vs H Q E ⟨a, ws, H0, e1, e2, _⟩ => by rw [e1, List.length_cons, e2]; exact hps.symm) fun A outer s H vs Q E hroom hsp s1 I => ?_
  obtain ⟨a, ws, H0, rfl, hn, hf, h0, rfl, hq⟩ := hsp
  have PO : PsOk (NdefX.ncx CX P w K mg base (ps ++ [("__class__" : Str)]) F f A outer s (upd H0 a (exo a C none)) E) ps := ⟨fun i x hx => by
      show (ps ++ [("__class__" : Str)])[i]? = some x
      rw [List.getElem?_append_left (List.getElem?_eq_some_iff.mp hx).1]
      exact hx, fun x hx => .inl (X.sc.par x hx)⟩
  have slots : ∀ i, i < (V.ref a :: ws).length → (NdefX.startF (ps ++ [("__class__" : Str)]) (V.ref a :: ws) [none])[i]? = some (some ((V.ref a :: ws).getD i .non)) := fun i hi => by
    unfold NdefX.startF
    rw [List.getElem?_append_left (by simpa using hi), List.getElem?_map, List.getElem?_eq_getElem hi]
    simp [List.getD, List.getElem?_eq_getElem hi]
  have hlen : (V.ref a :: ws).length = ps.length := by rw [List.length_cons, hn]; exact hps.symm
  have SF : SlF ps (NdefX.startF (ps ++ [("__class__" : Str)]) (V.ref a :: ws) [none]) := fun i h1 h2 => by
    rw [← hlen] at h2
    refine ⟨_, slots i h2, ?_⟩
    cases i with
    | zero => omega
    | succ i =>
      have hi : i < ws.length := by simpa using h2
      refine hf _ ?_
      have : (V.ref a :: ws).getD (i + 1) V.non = ws[i] := by simp [List.getD, List.getElem?_eq_getElem hi]
      rw [this]
      exact List.getElem_mem hi
  have sf : X.hd = X.hd := rfl
  have h00 : ps[0]? = some ar.arg := by rw [← hd2, List.head?_eq_getElem?]
  have SX : SupF (NdefX.ncx CX P w K mg base (ps ++ [("__class__" : Str)]) F f A outer s (upd H0 a (exo a C none)) E) F.qual F.scope s.heap.objs.size f F.c cc C ar.arg := {
    env := by
      show PySem.W.envX F.qual F.scope s.heap.objs.size f (.ref F.c) F.cl = _
      rw [hcl]
    fn := ⟨_, _, _, _, ar, lk, hd1, rfl⟩
    code := hcode
    cell := hcell
    up := hup
    sub := hsub
    own := hown
    opq := hopq
    noG := hnoG
    top := htop
    kS := X.kS
    kC := X.sc.frk _ List.mem_cons_self
    kV := X.sc.par _ (List.mem_of_getElem? h00)
    kind := X.sc.kind }
  obtain ⟨te, he1, he2⟩ := msg_pe PO e hmsg
  obtain ⟨pl, hpl⟩ := hev (NdefX.ncx CX P w K mg base (ps ++ [("__class__" : Str)]) F f A outer s (upd H0 a (exo a C none)) E).env
  have first := sup_init (body := F.body) (pl := pl) (p0 := p0) (p1 := p1) (p2 := p2) (pos := pos) (pos' := pos') SX T I (PO.at_ 0 _ h00) (slots 0 (by simp)) upd_same he1 (he2 _ _ SF) hpl (hst _) (hsw _)
  have start : execs F.body (NdefX.envF F f s.heap.objs.size) = execs (.Expr (.Call (.Attribute (.Call (.Name "super" p0) [] [] p1) "__init__" p2) [e] [] pos) pos' :: rest) (NdefX.envF F f s.heap.objs.size) := by rw [hbody]
  rw [start]
  refine ks_wpAt_execs_cons (ks_wpAt_mono first (fun fl' s' hs => ?_) fun _ _ z => z)
  obtain ⟨rfl, J⟩ := hs
  refine wpAt_of_wpAny ?_
  have sV : ∀ i, i < ps.length → ∃ v, (NdefX.startF (ps ++ [("__class__" : Str)]) (V.ref a :: ws) [none])[i]? = some (some v) ∧ v = (V.ref a :: ws).getD i .non := fun i hi => ⟨_, slots i (by rw [hlen]; exact hi), rfl⟩
  have after : ∀ {dx : Addr} {fs : List (Str × V)} {H1 : Hp}, H0 dx = none → dx ≠ a → H1 a = some (exo a C (some dx)) → H1 dx = some (exd dx fs) → (∀ b, b ≠ a → b ≠ dx → H1 b = H0 b) → fs = fldsOf (V.ref a :: ws) fl → Q .non H1 := fun h1 h2 h3 h4 h5 h6 => hq _ (.inr ⟨_, h1, h2, h3, by rw [← h6]; exact h4, h5⟩)
  have free0 : ∀ {dx : Addr}, upd H0 a (exo a C none) dx = none → dx ≠ a → H0 dx = none := fun {dx} z nd => by rw [upd_ne nd] at z; exact z
  rcases fl with _ | ⟨⟨f1, i1⟩, _ | ⟨⟨f2, i2⟩, _ | ⟨_, _⟩⟩⟩
  · -- no field
    have : rest = [] := by simpa using hrest
    subst this
    exact wpAny_execs_nil ⟨_, _, J, hq _ (.inl ⟨rfl, rfl⟩)⟩
  · rcases rest with _ | ⟨t1, _ | ⟨_, _⟩⟩
    · simp at hrest
    · have a1 : asgOf ps t1 = some (f1, i1) := by simpa using hrest
      obtain ⟨q1, b1⟩ := asg_ps PO a1
      refine (pss_one q1).run [] s' _ _ _ J ?_
      obtain ⟨v1, z1, rfl⟩ := sV i1 b1
      refine ⟨_, z1, _, slots 0 (by simp), a, C, rfl, T, hno _ List.mem_cons_self, .inl ⟨upd_same, fun dx hdx nd => ?_⟩⟩
      exact after (fs := fldsOf (V.ref a :: ws) [(f1, i1)]) (free0 hdx nd) nd upd_same ((upd_ne nd).trans upd_same) (fun b na ndx => by rw [upd_ne na, upd_ne ndx, upd_ne na]) rfl
    · simp at hrest
  · rcases rest with _ | ⟨t1, _ | ⟨t2, _ | ⟨_, _⟩⟩⟩
    · simp at hrest
    · simp at hrest
    · have a12 : asgOf ps t1 = some (f1, i1) ∧ asgOf ps t2 = some (f2, i2) := by simpa using hrest
      obtain ⟨q1, b1⟩ := asg_ps PO a12.1
      obtain ⟨q2, b2⟩ := asg_ps PO a12.2
      refine (pss_cons q1 (pss_one q2)).run [] s' _ _ _ J ?_
      obtain ⟨v1, z1, rfl⟩ := sV i1 b1
      obtain ⟨v2, z2, rfl⟩ := sV i2 b2
      refine ⟨_, z1, _, slots 0 (by simp), a, C, rfl, T, hno _ List.mem_cons_self, .inl ⟨upd_same, fun dx hdx nd => ?_⟩⟩
      refine ⟨_, z2, _, slots 0 (by simp), a, C, rfl, T, hno _ (List.mem_cons_of_mem _ List.mem_cons_self), .inr ⟨dx, _, upd_same, (by rw [upd_ne nd, upd_same]), by simp, ?_⟩⟩
      exact after (fs := fldsOf (V.ref a :: ws) [(f1, i1), (f2, i2)]) (free0 hdx nd) nd ((upd_ne (Ne.symm nd)).trans upd_same) upd_same (fun b na ndx => by rw [upd_ne ndx, upd_ne na, upd_ne ndx, upd_ne na]) rfl
    · simp at hrest
  · simp at hfl
end
/-! ### the exception of a raise -/
theorem small_int : ∀ i : Int, -1000 < i → i < 1000 → i.natAbs.log2 < 1920 ∧ (toString i : Str).length ≤ 20000 := by
  have key : ∀ n : Fin 1000, ((n.val : Int).natAbs.log2 < 1920 ∧ (toString (n.val : Int) : Str).length ≤ 20000) ∧ ((-(n.val : Int)).natAbs.log2 < 1920 ∧ (toString (-(n.val : Int)) : Str).length ≤ 20000) := by decide +kernel
  intro i h1 h2
  by_cases h : 0 ≤ i
  · have := (key ⟨i.toNat, by omega⟩).1
    simp only [Int.toNat_of_nonneg h] at this
    exact this
  · have := (key ⟨(-i).toNat, by omega⟩).2
    simp only [Int.toNat_of_nonneg (show 0 ≤ -i by omega), Int.neg_neg] at this
    exact this
theorem fmt_dv {G : Gd} {ρ : List Addr} {H : Hp} : ∀ {d : D} {v : V}, fmtD d = true → DV G ρ H d v → FmtV v
  | .int i, v, h, dv => by
    unfold DV at dv
    subst dv
    obtain ⟨h1, h2⟩ := of_decide_eq_true (show decide (-1000 < i ∧ i < 1000) = true from h)
    obtain ⟨q1, q2⟩ := small_int i h1 h2
    exact .inr ⟨i, rfl, q1, q2⟩
  | .str x, v, h, dv => by
    unfold DV at dv
    subst dv
    unfold fmtD at h
    rw [Bool.and_eq_true] at h
    have h1 := of_decide_eq_true h.1
    have l : (toStr x).length = x.length := toStr_len x
    have := PySem.StrLaws.reprText_len (toStr x) fun c hc => by
      have q := List.all_eq_true.mp h.2 c (by simpa [toStr] using hc)
      have q' := of_decide_eq_true q
      have : (16 : Nat) ^ 8 = 4294967296 := by decide
      omega
    exact .inl ⟨_, rfl, by rw [l]; omega, by rw [l] at this; omega⟩
  | .non, _, h, _ => by cases h
  | .bl _, _, h, _ => by cases h
  | .tup _, _, h, _ => by cases h
  | .obj _, _, h, _ => by cases h
theorem fmt_dvs {G : Gd} {ρ : List Addr} {H : Hp} : ∀ {ds : List D} {vs : List V}, ds.all fmtD = true → DVs G ρ H ds vs → ∀ v ∈ vs, FmtV v
  | [], vs, _, dv, v, hv => by rw [dv.nil_inv] at hv; cases hv
  | d :: ds, vs, h, dv, v, hv => by
    obtain ⟨v0, ws, rfl, d1, d2⟩ := dv.cons_inv
    rw [List.all_cons, Bool.and_eq_true] at h
    rcases List.mem_cons.mp hv with rfl | hv
    · exact fmt_dv h.1 d1
    · exact fmt_dvs h.2 d2 v hv
theorem ex_fvs {G : Gd} {ρ : List Addr} {H : Hp} {nm : Nat → Str} {ds : List D} {vs : List V} (dv : DVs G ρ H ds vs) : ∀ {m : List (Nat × Nat)} {fs : List (Nat × D)}, (∀ p ∈ m, G.an[p.1]? = some (nm p.1)) → exFs1 ds m = some fs → FVs G ρ H fs (m.map fun p => (nm p.1, vs.getD p.2 .non)) ∧ (m = [] → fs = []) ∧ (fs = [] → m = [])
  | [], fs, _, h => by cases h; exact ⟨by unfold FVs; rfl, fun _ => rfl, fun _ => rfl⟩
  | (f, i) :: r, fs, hn, h => by
    unfold exFs1 at h
    cases h1 : ds[i]? with
    | none => rw [h1] at h; cases h
    | some d =>
      cases h2 : exFs1 ds r with
      | none => rw [h1, h2] at h; cases h
      | some fr =>
        rw [h1, h2] at h
        cases h
        obtain ⟨v, q1, q2⟩ := dv.get h1
        have ih := (ex_fvs dv (fun p hp => hn p (List.mem_cons_of_mem _ hp)) h2).1
        refine ⟨?_, (fun z => by cases z), (fun z => by cases z)⟩
        unfold FVs
        refine ⟨nm f, v, _, hn _ List.mem_cons_self, ?_, q2, ih⟩
        rw [List.map_cons]
        simp [List.getD, q1]
theorem excOk_of {g : GdX} {cc n : Nat} {C fI : Addr} {fd : FuncData} {ps : List Str} {fl : List (Str × Nat)} {m : List (Nat × Nat)} {nm : Nat → Str} (T : OexC g.K C) (iC : PySem.W.findIn g.K (.ref C) "__init__" = some (some (.ref fI))) (tI : PySem.W.typeIn g.K (.ref fI) = some (.type "function"))
    (F1 : FnOk g.P g.w g.K g.mg g.base (fun _ _ _ _ _ _ => False) 1 fI fd ps (spX C n fl)) (hb : Binds g.K fd ps []) (hn : n ≤ 900) (hx : g.exA[cc]? = some C) (hfl : fl = (m.map fun p => (nm p.1, p.2 + 1)).reverse) (hnm : ∀ p ∈ m, g.an[p.1]? = some (nm p.1)) : ExcOk g cc C (n, m) := by
  intro X pins s σ H us vs ds ρ S fs Q e1 e2 e3 e4 e5 hr hc I rv r dv hex hQ
  unfold exFs at hex
  split at hex
  · rename_i hlen
    obtain ⟨hl, hf⟩ := hlen
    have hlv : vs.length = n := by rw [← dv.length]; exact hl
    obtain ⟨fv, mz, zm⟩ := ex_fvs (G := g.toGd) dv hnm hex
    have ff : ∀ a, fldsOf (V.ref a :: vs) fl = m.map fun p => (nm p.1, vs.getD p.2 .non) := fun a => by
      rw [hfl]
      unfold fldsOf
      rw [List.map_reverse, List.reverse_reverse, List.map_map]
      rfl
    have F1' : FnOk X.prog X.w X.K X.mg X.base (fun _ _ _ _ _ _ => False) 1 fI fd ps (spX C n fl) := by rw [e1, e2, e3, e4, e5]; exact F1
    refine exc_made (fs := m.map fun p => (nm p.1, vs.getD p.2 .non)) (by rw [e3]; exact T) (by rw [e3]; exact iC) (by rw [e3]; exact tI) F1' (hr.mono (by omega)) (by rw [e3]; exact hb) (fun _ _ _ _ _ _ _ z => z.elim) I rv (by omega) (fun a ha => ?_) (fun z => ?_) (fun d H2 hd hup hdn h0 => ?_)
    · exact ⟨a, vs, H, rfl, hlv, fmt_dvs hf dv, ha, rfl, fun H2 en => ⟨rfl, by rw [ff a] at en; exact en⟩⟩
    · refine hQ ρ H none (List.prefix_rfl) TupK.refl r ⟨C, hx, rfl, .inl ⟨?_, rfl⟩⟩
      have : m = [] := by
        cases m with
        | nil => rfl
        | cons _ _ => simp at z
      exact mz this
    · have tk : TupK g.toGd H H2 := ⟨fun b xs q => by
        rcases q with q | q
        · exact .inl (by
            rcases q with q | ⟨o, q⟩
            · exact .inl (hup _ _ q)
            · exact .inr ⟨o, hup _ _ q⟩)
        · exact .inr q, fun b o u q => hup _ _ q⟩
      have r2 : Rel g.toGd ρ S H2 := r.mono tk fun b hb => by
        cases q : H b with
        | none => exact absurd hb (r.notin q)
        | some u => exact hup _ _ q
      exact hQ ρ H2 (some d) (List.prefix_rfl) tk r2 ⟨C, hx, rfl, .inr ⟨d, _, rfl, fv.mono (List.prefix_rfl) tk, hd⟩⟩
  · cases hex
end LA

/-! The exceptions' own __init__: from the head's look to ExcOk. -/
namespace LA
open PySem PySem.Spec PyProof.Rows L2
open PySem.W (nsIn findIn recIn keepIn isFn makesIn specialIn takesIn codeIn kitOne mroIn notFirst Frag)
theorem oex_ok {K : Frag} {C : Addr} (h : oexB K C = true) : OexC K C := by
  unfold oexB at h
  rw [Bool.and_eq_true] at h
  obtain ⟨h1, h⟩ := h
  obtain ⟨h2, h⟩ := Bool.and_eq_true_iff.mp h
  obtain ⟨h3, h⟩ := Bool.and_eq_true_iff.mp h
  obtain ⟨h4, h5⟩ := Bool.and_eq_true_iff.mp h
  refine ⟨?_, of_decide_eq_true h2, of_decide_eq_true h3, of_decide_eq_true h4, h5⟩
  split at h1
  · rename_i t dd cd sl hl
    obtain ⟨c1, c2, c3, c4, c5, c6, c7, c8, c9, c10, c11⟩ := cd
    simp only at h1
    split at h1
    · rename_i C' bm k0 k1 k2 k3 n k5 hs
      obtain ⟨a1, h1⟩ := Bool.and_eq_true_iff.mp h1
      obtain ⟨a2, h1⟩ := Bool.and_eq_true_iff.mp h1
      obtain ⟨a3, h1⟩ := Bool.and_eq_true_iff.mp h1
      obtain ⟨a4, h1⟩ := Bool.and_eq_true_iff.mp h1
      obtain ⟨a5, a6⟩ := Bool.and_eq_true_iff.mp h1
      have a1 := of_decide_eq_true a1
      have a2 := of_decide_eq_true a2
      have a3 := of_decide_eq_true a3
      have a4 : c11 = false := by simpa using a4
      have a5 : c6 = true := a5
      have hs' : sl = #[k0, k1, k2, k3, some (.builtin n), k5] := by
        have := congrArg List.toArray hs
        simpa using this
      subst a1 a2 a3 a4 a5 hs'
      exact ⟨_, _, _, _, _, _, _, _, _, _, _, _, _, _, _, hl, a6⟩
    · cases h1
  · cases h1
theorem fnX_eta {fd : FuncData} {name qual : Str} {params : Arguments} {body : List Stmt} {scope : Scope} {cl : List (Str × Addr)} {c : Addr} (e : (fd.name, fd.qualname, fd.params, fd.body, fd.scope, fd.globals, fd.builtins) = (name, qual, params, FuncBody.stmts body, scope, mainGlobals, builtinsNs)) (hc : fd.closure = cl) (hd : fd.defaults = .none) (hcode : fd.code = .ref c) :
    ∃ kV doc pm an ct, fd = PySem.W.fnX name qual params body scope cl .none kV doc pm an (.ref c) ct := by
  obtain ⟨n1, n2, n3, n4, n5, n6, n7, n8, n9, n10, n11, n12, n13, n14, n15⟩ := fd
  simp only [Prod.mk.injEq] at e
  obtain ⟨e1, e2, e3, e4, e5, e6, e7⟩ := e
  dsimp only at hc hd hcode
  subst e1 e2 e3 e4 e5 e6 e7 hc hd hcode
  exact ⟨_, _, _, _, _, rfl⟩
/-- what the look tells of one such def -/
theorem xf_ok {file q : Str} {K : Frag} {C a : Addr} {r : XR} (h : xfB file K C r.qual a = true) (e : xAt K a = r.val) : ∃ (cc c : Addr) (oc kV doc pm ct : Value) (od an : Option Addr) (osl : Array (Option Value)),
    K.lookup a = some ⟨oc, od, .func (PySem.W.fnX "__init__" r.qual r.params r.body r.scope [(("__class__" : Str), cc)] .none kV doc pm an (.ref c) ct), osl⟩ ∧ codeIn K (.ref c) r.qual = true ∧ (∃ cl cd cs, K.lookup cc = some ⟨cl, cd, .cell (some (.ref C)), cs⟩) ∧
    ∃ cl cd vs cs tk, K.lookup c = some ⟨cl, cd, .fields vs, cs⟩ ∧ vs[2]? = some (.str file tk) := by
  unfold xfB at h
  unfold xAt at e
  cases q : K.lookup a with
  | none => rw [q] at h; cases h
  | some o =>
    obtain ⟨oc, od, dt, osl⟩ := o
    rw [q] at h e
    cases dt with
    | func fd =>
      simp only at h e
      rw [Bool.and_eq_true, Bool.and_eq_true] at h
      obtain ⟨h1, h2, h3⟩ := h
      unfold XR.val at e
      simp only [Option.some.injEq, Prod.mk.injEq] at e
      obtain ⟨e1, e2, e3, e4, e5, e6, e7, e8⟩ := e
      cases hc : fd.code with
      | ref c =>
        rw [hc] at h2
        simp only at h2
        rw [Bool.and_eq_true] at h2
        obtain ⟨k1, k2⟩ := h2
        cases hcl : fd.closure with
        | nil => rw [hcl] at h3; cases h3
        | cons p0 rest =>
          obtain ⟨x, cc⟩ := p0
          cases rest with
          | cons _ _ => rw [hcl] at h3; cases h3
          | nil =>
            rw [hcl] at h3 e7
            simp only [List.map_cons, List.map_nil, List.cons.injEq, and_true] at e7
            subst e7
            obtain ⟨kV, doc, pm, an, ct, efd⟩ := fnX_eta (fd := fd) (name := "__init__") (qual := r.qual) (params := r.params) (body := r.body) (scope := r.scope) (by rw [e1, e2, e3, e4, e5, e6, e8]) hcl (of_decide_eq_true h1) hc
            refine ⟨cc, c, oc, kV, doc, pm, ct, od, an, osl, by rw [efd], k1, ?_, ?_⟩
            · simp only at h3
              split at h3
              · rename_i oc2 od2 C' sl2 hl
                have := of_decide_eq_true h3
                subst this
                exact ⟨_, _, _, hl⟩
              · cases h3
            · split at k2
              · rename_i oc2 od2 vs sl2 hl
                split at k2
                · rename_i v0 v1 f tk rest hv
                  have := of_decide_eq_true k2
                  subst this
                  refine ⟨_, _, _, _, tk, hl, ?_⟩
                  have e2 : vs.toList[2]? = some (.str f tk) := by rw [hv]; rfl
                  simpa using e2
                · cases k2
              · cases k2
      | _ => rw [hc] at h2; cases h2
    | _ => cases h
/-- what the text shows: each exception class that is raised has its record -/
def PRec.xok (p : PRec) : Bool := p.exs.zipIdx.all fun q => match q.1.2.exf with
  | none => true
  | some m => match p.xin[q.2]? with
    | some (some r) => decide (r.cls = q.1.1) && (decide (r.fl = (m.2.map fun z => (p.an.getD z.1 "", z.2 + 1)).reverse) && (decide (r.ps.length = m.1 + 1) && (decide (m.1 ≤ 900) && (decide (r.fl.length ≤ 2) && m.2.all fun z => decide (z.1 < p.an.length)))))
    | _ => false
def XBind (r : XR) : Prop := ∀ (cl : List (Str × Addr)) (kV doc pm : Value) (an : Option Addr) (cdv ct : Value) (us : List Value), us.length = r.ps.length → bindArgs (PySem.W.fnX "__init__" r.qual r.params r.body r.scope cl .none kV doc pm an cdv ct) ⟨us, []⟩ = pure (r.ps.zip us)
theorem ex_all {p : PRec} {P : Program} {w : World} {K : Frag} {mg : Str → Option Value} {base h : Heap} {N : Nat} (X : K.In h) (G : h.Ns mainGlobals mg) (c : obsL p K = valL p) (xo : p.xok = true) (ht : ∀ r, some r ∈ p.xin → XText r.ps r.fl r.scope r.params r.body ∧ XBind r)
    (hfile : ((P.main.file : Str) == p.file) = true) (htop : (P.main.scope.names.lookup ("super" : Str)).isSome = false) (i : Nat) (C : Addr) (ci : ExI) (m : Nat × List (Nat × Nat)) (hC : (p.gd P w K mg base N).exA[i]? = some C) (hci : p.pg.exs[i]? = some ci) (hm : ci.exf = some m) : ExcOk (p.gd P w K mg base N) i C m := by
  have c2 : (xinB p K && kinB p K) = true := congrArg (fun z : AlL => z.2.1) c
  have c2 := (Bool.and_eq_true_iff.mp c2).1
  have c3 : (p.xin.map fun o => match o with | some r => xAt K (r.ad K) | none => none) = p.xin.map fun o => match o with | some r => r.val | none => none := congrArg (fun z : AlL => z.2.2) c
  obtain ⟨e, h1, rfl⟩ := get_map (show (p.exs.map (·.2))[i]? = some ci from hci)
  obtain ⟨e', h1', rfl⟩ := get_map (show (p.exs.map fun c => He.ga K c.1)[i]? = some C from hC)
  rw [h1] at h1'
  cases h1'
  have hz : (e, i) ∈ p.exs.zipIdx := List.mem_of_getElem? (i := i) (by rw [List.getElem?_zipIdx, h1]; simp)
  have q := List.all_eq_true.mp xo (e, i) hz
  simp only [hm] at q
  split at q
  · rename_i r hr
    obtain ⟨q1, q⟩ := Bool.and_eq_true_iff.mp q
    obtain ⟨q2, q⟩ := Bool.and_eq_true_iff.mp q
    obtain ⟨q3, q⟩ := Bool.and_eq_true_iff.mp q
    obtain ⟨q4, q⟩ := Bool.and_eq_true_iff.mp q
    obtain ⟨q5, q6⟩ := Bool.and_eq_true_iff.mp q
    have q1 := of_decide_eq_true q1
    have q3 := of_decide_eq_true q3
    have hmem : some r ∈ p.xin := List.mem_of_getElem? hr
    have hval : xAt K (r.ad K) = r.val := by
      have z : (p.xin.map fun o => match o with | some r => xAt K (r.ad K) | none => none)[i]? = (p.xin.map fun o => match o with | some r => r.val | none => none)[i]? := by rw [c3]
      rw [List.getElem?_map, List.getElem?_map, hr] at z
      exact Option.some.inj z
    unfold xinB at c2
    have ne : p.xin.isEmpty = false := by
      cases hx : p.xin with
      | nil => rw [hx] at hmem; cases hmem
      | cons _ _ => rfl
    rw [ne, Bool.false_or] at c2
    obtain ⟨k1, k2⟩ := Bool.and_eq_true_iff.mp c2
    obtain ⟨k2, k3⟩ := Bool.and_eq_true_iff.mp k2
    obtain ⟨k3, _⟩ := Bool.and_eq_true_iff.mp k3
    have xb := List.all_eq_true.mp k1 _ hmem
    simp only at xb
    unfold xB at xb
    obtain ⟨b1, xb⟩ := Bool.and_eq_true_iff.mp xb
    obtain ⟨b2, xb⟩ := Bool.and_eq_true_iff.mp xb
    obtain ⟨b3, xb⟩ := Bool.and_eq_true_iff.mp xb
    obtain ⟨b4, xb⟩ := Bool.and_eq_true_iff.mp xb
    obtain ⟨b5, xb⟩ := Bool.and_eq_true_iff.mp xb
    obtain ⟨b6, xb⟩ := Bool.and_eq_true_iff.mp xb
    obtain ⟨b7, b8⟩ := Bool.and_eq_true_iff.mp xb
    obtain ⟨cc, cd, oc, kV, doc, pm, ct, od, an, osl, lk, hcd, hcell, cl', cd', vs, cs, tk, lc, hv⟩ := xf_ok (q := r.qual) b5 hval
    obtain ⟨XT, XBd⟩ := ht r hmem
    rw [q1] at b1 b2 b4 b5 b6 b7 b8 hcell
    have T := oex_ok b1
    have up : ∃ cd, PySem.W.clsIn K (He.ga K e.1) = some cd ∧ PySem.W.alongIn K "__init__" ((cd.mro.dropWhile (· != .ref (He.ga K e.1))).drop 1) = some (some (.builtin "ValueError.__init__")) := by
      split at b6
      · rename_i cdx hcx
        exact ⟨_, hcx, of_decide_eq_true b6⟩
      · cases b6
    have FI : FnOk P w K mg base (fun _ _ _ _ _ _ => False) 1 (r.ad K) _ r.ps (spX (He.ga K e.1) (r.ps.length - 1) r.fl) :=
      xinit_ok (F := ⟨"__init__", r.qual, r.params, r.body, r.scope, [(("__class__" : Str), cc)], cd⟩) lk hcd rfl hcell XT T (of_decide_eq_true q5) (fun z hz => of_decide_eq_true (List.all_eq_true.mp b4 z hz))
        ⟨_, _, _, _, _, _, lc, hv, hfile⟩ up (of_decide_eq_true b7) (of_decide_eq_true b8) (of_decide_eq_true k2) (PySem.W.mg_none_of X G (of_decide_eq_true k3)) htop
    have en : r.ps.length - 1 = m.1 := by rw [q3]; rfl
    rw [en] at FI
    exact excOk_of (g := p.gd P w K mg base N) (nm := fun k => p.an.getD k "") T (of_decide_eq_true b2) (of_decide_eq_true b3) FI (Binds.all fun us hl => XBd _ _ _ _ _ _ _ us hl) (of_decide_eq_true q4) hC (of_decide_eq_true q2) fun z hz => by
      have := of_decide_eq_true (List.all_eq_true.mp q6 z hz)
      show p.an[z.1]? = _
      rw [List.getElem?_eq_getElem this]
      simp [List.getD, List.getElem?_eq_getElem this]
  · cases q
end LA

/-! A def that asks of an exception which classes it has. -/
namespace LA
open PySem PySem.Spec PyProof.Rows L2
open PySem.W (Frag InstAt findIn specialIn takesIn mroIn subIn looks_findIn looks_find looks_subIn KitX)
/-! ### the lists of answers -/
/-- one question: isinstance(e, K) -/
def kinIt (gl : List (Str × Gn)) (sc : Scope) (e : Str) : Expr → Option (Option Nat)
  | .Call (.Name f _) [.Name x _, .Name k _] [] _ => if decide (f = "isinstance") && decide (x = e) && decide (sc.names.lookup ("isinstance" : Str) = some .globalImplicit) && decide (sc.names.lookup k = some .globalImplicit) && !(k == ("__debug__" : Str)) then (match gl.lookup k with
    | some (.exc i) => some (some i)
    | none => if k = "ValueError" then some none else none
    | _ => none) else none
  | _ => none
def kinL (gl : List (Str × Gn)) (sc : Scope) (e : Str) : List Expr → Option (List (Option Nat))
  | [] => some []
  | x :: r => match kinIt gl sc e x, kinL gl sc e r with
    | some k, some l => some (k :: l)
    | _, _ => none
def ansV (ci : ExI) (k : Option Nat) : V := V.bl (match k with | some j => ci.up.contains j | none => true)
section
variable {g : GdX} {X : Cx} {a C : Addr} {oe : Obj} {dd : Option Addr} {cc : Nat} {ci : ExI} {e : Str}
/-- the exception stands pinned in the context -/
structure Pinned (g : GdX) (X : Cx) (a C : Addr) (oe : Obj) (dd : Option Addr) (cc : Nat) (ci : ExI) (e : Str) : Prop where
  K : X.K = g.K
  mg : X.mg = g.mg
  pin : (a, oe) ∈ X.pn
  zc : Zc (.ref C) dd oe
  fl : ∃ vs, oe.data = .fields vs
  exA : g.exA[cc]? = some C
  exs : g.pg.exs[cc]? = some ci
  n0 : X.N[0]? = some e
  vis : Vis X.env.scope e
  db : (e == ("__debug__" : Str)) = false
  cd : (e == ("__classdict__" : Str)) = false
theorem isi_call (kg : KinG g) (P : Pinned g X a C oe dd cc ci e) : CallR X (.builtin "isinstance") (fun xs H Q => ∃ (c : V) (cv : Value) (b : Bool), xs = [.ref a, c] ∧ (∀ u, RelV c u → u = cv) ∧ PySem.W.kitOne g.K (.ref C) cv = some b ∧ (∀ dx, dd = some dx → ∃ vs, H dx = some (.xd vs)) ∧ Q (.bl b) H) := by
  intro pins s σ H xs us Q I r h
  obtain ⟨c, cv, b, rfl, hcv, hk, hd, q⟩ := h
  cases r with
  | cons r1 rr =>
    cases rr with
    | cons r2 rr =>
      cases rr
      cases r1
      obtain rfl := hcv _ r2
      have hget := (I.pin (a, oe) (List.mem_append.mpr (.inl P.pin))).1
      obtain ⟨vs, hv⟩ := P.fl
      have hI : ∃ od, PySem.W.InstAt s.heap a oe C od := by
        obtain ⟨h1, h2⟩ := P.zc
        obtain ⟨oc, odd, oda, osl⟩ := oe
        dsimp only at h1 h2 hv
        subst h1 h2 hv
        cases odd with
        | none => exact ⟨none, hget, rfl, rfl, trivial⟩
        | some dx =>
          obtain ⟨ws, hx⟩ := hd dx rfl
          obtain ⟨mA, hn, _⟩ := I.hok _ _ hx
          obtain ⟨o, _, _, ho, _⟩ := hn
          exact ⟨some o, hget, rfl, rfl, ho⟩
      obtain ⟨od, hI⟩ := hI
      have hk' := hk
      rw [← P.K] at hk'
      have ec : ExcC X.K C := by rw [P.K]; exact kg.ec cc C P.exA
      exact PySem.W.kia_one (ex_kit ec) I.kIn hI hk' (fun z => nomatch z) fun tk => ⟨.bl b, H, I.kept (t' := tk) fun _ _ z => z, rfl, q⟩
/-- one question -/
theorem kin_it (kg : KinG g) (P : Pinned g X a C oe dd cc ci e) {ex : Expr} {k : Option Nat} (h : kinIt g.gl X.env.scope e ex = some k) :
    ∃ t : TE, PE X ex t ∧ isStar ex = false ∧ ∀ (σ : L2.St) (H : Hp) (Q : VK), σ[0]? = some (some (.ref a)) → (∀ dx, dd = some dx → ∃ vs, H dx = some (.xd vs)) → Q (ansV ci k) H → t σ H Q := by
  unfold kinIt at h
  split at h
  · rename_i f p1 x p2 k0 p3 pos
    split at h
    · rename_i hc
      simp only [Bool.and_eq_true, decide_eq_true_eq, Bool.not_eq_true'] at hc
      obtain ⟨⟨⟨⟨rfl, rfl⟩, h3⟩, h4⟩, h5⟩ := hc
      have hv : PE X (.Name x p2) (tVar 0) := pe_var P.n0 P.vis P.db P.cd
      have fin : ∀ {v : V} {u : Value} {b : Bool}, PE X (.Name k0 p3) (tC v) → (∀ u', RelV v u' → u' = u) → PySem.W.kitOne g.K (.ref C) u = some b →
          ∃ t : TE, PE X (.Call (.Name "isinstance" p1) [.Name x p2, .Name k0 p3] [] pos) t ∧ isStar (.Call (.Name "isinstance" p1) [.Name x p2, .Name k0 p3] [] pos) = false ∧ ∀ (σ : L2.St) (H : Hp) (Q : VK), σ[0]? = some (some (.ref a)) → (∀ dx, dd = some dx → ∃ vs, H dx = some (.xd vs)) → Q (.bl b) H → t σ H Q :=
        fun {v u b} hk0 hu hkk => ⟨_, pe_callB (isi_call kg P) (show X.env.scope.names.lookup ("isinstance" : Str) = _ from h3) (by rw [P.mg]; exact kg.is) PyProof.Rows.boot_isinstance (pa_cons hv (pa_cons hk0 pa_nil)), rfl, fun σ H Q s0 hd q => ⟨_, s0, v, u, b, rfl, hu, hkk, hd, q⟩⟩
      split at h
      · rename_i i hg
        cases h
        obtain ⟨C', f1, f2, f3⟩ := kg.exc k0 i hg
        exact fin (v := .ref C') (u := .ref C') (pe_glob (show X.env.scope.names.lookup k0 = _ from h4) (by rw [P.mg]; exact f2) rfl h5) (fun u' z => z) (kg.kk cc i C C' ci P.exA P.exs f1)
      · split at h
        · rename_i hve
          cases h
          subst hve
          exact fin (v := .ty "ValueError") (u := .type "ValueError") (pe_bltn (show X.env.scope.names.lookup ("ValueError" : Str) = _ from h4) (by rw [P.mg]; exact kg.ve) PyProof.Rows.Boot.«ValueError» rfl (by decide) h5) (fun u' z => z) (kg.kv cc C P.exA)
        · cases h
      · cases h
    · cases h
  · cases h
theorem kin_l (kg : KinG g) (P : Pinned g X a C oe dd cc ci e) : ∀ {es : List Expr} {ks : List (Option Nat)}, kinL g.gl X.env.scope e es = some ks →
    ∃ t : TA, PA X es t ∧ ∀ (σ : L2.St) (H : Hp) (Q : List V → Hp → Prop), σ[0]? = some (some (.ref a)) → (∀ dx, dd = some dx → ∃ vs, H dx = some (.xd vs)) → Q (ks.map (ansV ci)) H → t σ H Q
  | [], ks, h => by cases h; exact ⟨_, pa_nil, fun σ H Q _ _ q => q⟩
  | x :: r, ks, h => by
    unfold kinL at h
    cases h1 : kinIt g.gl X.env.scope e x with
    | none => rw [h1] at h; cases h
    | some k =>
      cases h2 : kinL g.gl X.env.scope e r with
      | none => rw [h1, h2] at h; cases h
      | some l =>
        rw [h1, h2] at h
        cases h
        obtain ⟨t1, q1, qs, q2⟩ := kin_it kg P h1
        obtain ⟨t2, q3, q4⟩ := kin_l kg P h2
        exact ⟨_, pa_cons q1 q3 (starEach_no qs), fun σ H Q s0 hd q => q2 σ H _ s0 hd (q4 σ H _ s0 hd q)⟩
end
/-! ### such a def -/
def ExtH (H H' : Hp) : Prop := ∀ b u, H b = some u → H' b = some u
theorem ExtH.upd {H H' : Hp} {p : Addr} {o : HO} (e : ExtH H H') (hp : H' p = none) : ExtH H (L2.upd H' p o) := fun b u z => by
  have q := e b u z
  have n : b ≠ p := fun y => by rw [y, hp] at q; cases q
  exact (upd_ne n).trans q
theorem ExtH.refl {H : Hp} : ExtH H H := fun _ _ z => z
/-- its text -/
structure KinT (gl : List (Str × Gn)) (sc : Scope) (body : List Stmt) (e : Str) (ks : List (Option Nat)) : Prop where
  body : ∃ (t : Str) (l1 l2 l3 : List Expr) (k1 k2 k3 : List (Option Nat)) (p1 p2 p3 p4 p5 p6 p7 p8 p9 p10 p11 p12 : Pos), body = [.Assign [.Name t p1] (.List l1 p2) p3, .Assign [.Name t p4] (.BinOp (.Name t p5) .Add (.List l2 p6) p7) p8, .Return (some (.BinOp (.Name t p9) .Add (.List l3 p10) p11)) p12] ∧
    kinL gl sc e l1 = some k1 ∧ kinL gl sc e l2 = some k2 ∧ kinL gl sc e l3 = some k3 ∧ ks = k1 ++ k2 ++ k3 ∧ ks.length ≤ 1000 ∧ sc.names.lookup t = some .local ∧ (t == ("__debug__" : Str)) = false ∧ (t == ("__classdict__" : Str)) = false ∧ t ≠ e
section
variable {g : GdX} {Y : Cx} {a C : Addr} {oe : Obj} {dd : Option Addr} {cc : Nat} {ci : ExI} {e t : Str} {ks : List (Option Nat)} {body : List Stmt}
theorem kin_body (kg : KinG g) (P : Pinned g Y a C oe dd cc ci e) (KT : KinT g.gl Y.env.scope body e ks) (nd : Y.N.Nodup) (hN : ∀ x, Y.env.scope.names.lookup x = some .local → x ∈ Y.N) (hfn : ∀ x, Y.fn x = true) :
    ∃ tb, PSs Y body tb ∧ ∀ (σ : L2.St) (H : Hp) (Dn : Ends), σ.length = Y.N.length → σ[0]? = some (some (.ref a)) → (∀ dx, dd = some dx → ∃ vs, H dx = some (.xd vs)) →
      (∀ (H2 : Hp) (p : Addr), ExtH H H2 → H2 p = none → Dn.rt (.ref p) (upd H2 p (.lst (ks.map (ansV ci))))) → tb Dn σ H := by
  obtain ⟨t, l1, l2, l3, k1, k2, k3, p1, p2, p3, p4, p5, p6, p7, p8, p9, p10, p11, p12, rfl, e1, e2, e3, rfl, hl, ht, td, tc, tne⟩ := KT.body
  obtain ⟨j, hj⟩ := List.mem_iff_getElem?.mp (hN t ht)
  have hjlt : j < Y.N.length := (List.getElem?_eq_some_iff.mp hj).1
  have j0 : j ≠ 0 := fun z => by
    rw [z, P.n0] at hj
    exact tne (Option.some.inj hj).symm
  obtain ⟨t1, a1, r1⟩ := kin_l kg P e1
  obtain ⟨t2, a2, r2⟩ := kin_l kg P e2
  obtain ⟨t3, a3, r3⟩ := kin_l kg P e3
  have hv : ∀ {p : Pos}, PE Y (.Name t p) (tVar j) := pe_var hj (.inl ht) td tc
  refine ⟨_, pss_cons (ps_set nd hj (.inl ht) (pe_lst a1) rfl (.inl (hfn t))) (pss_cons (ps_set nd hj (.inl ht) (pe_op op_cat hv (pe_lst a2)) rfl (.inl (hfn t))) (pss_one (ps_ret (pe_op op_cat hv (pe_lst a3))))), fun σ H Dn hσ s0 hd hq => ?_⟩
  have sl : k1.length ≤ sizeLine ∧ k2.length ≤ sizeLine ∧ k3.length ≤ sizeLine ∧ k1.length + k2.length + k3.length ≤ sizeLine := by
    rw [List.length_append, List.length_append] at hl
    rw [sizeLine_eq]
    omega
  have keep : ∀ {H2 : Hp}, ExtH H H2 → ∀ dx, dd = some dx → ∃ vs, H2 dx = some (.xd vs) := fun {H2} ex dx ed => by
    obtain ⟨vs, z⟩ := hd dx ed
    exact ⟨vs, ex _ _ z⟩
  have set0 : ∀ {σ' : L2.St} {v : Option V}, σ'[0]? = some (some (.ref a)) → (σ'.set j v)[0]? = some (some (.ref a)) := fun {σ' v} z => by rw [List.getElem?_set_ne j0]; exact z
  have setj : ∀ {σ' : L2.St} {v : Option V}, σ'.length = Y.N.length → (σ'.set j v)[j]? = some v := fun {σ' v} z => List.getElem?_set_self (by rw [z]; exact hjlt)
  refine r1 σ H _ s0 hd ⟨by rw [List.length_map]; exact sl.1, fun q1 h1 => ?_⟩
  have x1 : ExtH H (upd H q1 (.lst (k1.map (ansV ci)))) := ExtH.refl.upd h1
  refine ⟨_, setj hσ, r2 _ _ _ (set0 s0) (keep x1) ⟨by rw [List.length_map]; exact sl.2.1, fun q2 h2 => ?_⟩⟩
  have x2 := x1.upd (o := .lst (k2.map (ansV ci))) h2
  have n21 : q1 ≠ q2 := fun z => by rw [← z, upd_same] at h2; cases h2
  refine ⟨q1, q2, k1.map (ansV ci), k2.map (ansV ci), rfl, rfl, (upd_ne n21).trans upd_same, upd_same, by rw [List.length_map, List.length_map]; omega, fun q3 h3 => ?_⟩
  have x3 := x2.upd (o := .lst (k1.map (ansV ci) ++ k2.map (ansV ci))) h3
  refine ⟨_, setj (by rw [List.length_set]; exact hσ), r3 _ _ _ (set0 (set0 s0)) (keep x3) ⟨by rw [List.length_map]; exact sl.2.2.1, fun q4 h4 => ?_⟩⟩
  have x4 := x3.upd (o := .lst (k3.map (ansV ci))) h4
  have n43 : q3 ≠ q4 := fun z => by rw [← z, upd_same] at h4; cases h4
  refine ⟨q3, q4, k1.map (ansV ci) ++ k2.map (ansV ci), k3.map (ansV ci), rfl, rfl, (upd_ne n43).trans upd_same, upd_same, by rw [List.length_append, List.length_map, List.length_map, List.length_map]; omega, fun q5 h5 => ?_⟩
  have := hq _ q5 x4 h5
  rw [List.map_append, List.map_append] at this
  exact this
end
section
variable {g : GdX} {fa : Addr} {e name qual : Str} {params : Arguments} {body : List Stmt} {scope : Scope} {N : List Str} {ks : List (Option Nat)} {fd : FuncData}
/-- it is called with the exception that a suite holds -/
theorem kin_ok (kg : KinG g) (F : FunD g.K name qual params body scope [] [] fa fd) (S : FnScope N [e] scope) (KT : KinT g.gl scope body e ks) (hN : ∀ x, scope.names.lookup x = some .local → x ∈ N) (h1 : (e == ("__debug__" : Str)) = false) (h2 : (e == ("__classdict__" : Str)) = false)
    (hbind : ∀ (kV doc pm : Value) (an : Option Addr) (cdv ct : Value) (us : List Value), us.length = [e].length → bindArgs (PySem.W.fnOf name qual params body scope .none kV doc pm an cdv ct) ⟨us, []⟩ = pure ([e].zip us)) : KinF g fa ks := by
  intro X a oe dd pn pins s σ H cc C ci Q q1 q2 q3 q4 q5 hr I hz hf hxd hx hci hq
  obtain ⟨oc, od, dV, kV, doc, pm, an, cdv, ct, osl, rfl, lk, hcd, hD, _⟩ := F.ex
  rcases hD with ⟨_, rfl⟩ | ⟨z, _⟩
  rotate_left
  · exact absurd rfl z
  have KX : g.K.In s.heap := by rw [← q3]; exact I.kIn
  have lim := I.nolimit
  have n0 : N[0]? = some e := by
    have := congrArg (fun l : List Str => l[0]?) S.pre
    simpa using this
  let CX0 : CXT := fun _ _ _ _ _ _ => False
  have P1 := I.pin (a, oe) (List.mem_append_left _ List.mem_cons_self)
  have pinned : L2H.PinOk (X.suite a ((a, oe) :: pn)).stack H s (a, oe) := ⟨P1.1, P1.2.1, fun hm => (List.mem_cons.mp (I.stkSub a hm)).elim P1.2.2.1 P1.2.2.2.1, P1.2.2.2.2⟩
  refine wpAny_call (codeAny_mono (R := CR CX0 (X.suite a ((a, oe) :: pn)).stack X.prog X.w H s Q (fun _ _ _ => False)) ?_ fun r s' z => ?_)
  rotate_left
  · cases r with
    | error er => exact z.elim
    | ok fl =>
      cases fl with
      | ret u => exact I.after z
      | next => exact z.elim
      | brk => exact z.elim
      | cont => exact z.elim
  have hdepth : (X.suite a ((a, oe) :: pn)).A.depth < recursionLimit := by
    have := hr.dp
    show X.A.depth < recursionLimit
    omega
  have kinds : ∀ y ∈ [e].zip [Value.ref a], scope.names.lookup y.1 = some .local ∨ (scope.names.lookup y.1 = some .cell ∧ ((cellsFrom (s.heap.objs.size + 1) scope.names []).lookup y.1).isSome = true) := fun ⟨n, v⟩ hy => by
    rcases S.par n (List.of_mem_zip hy).1 with q | q
    · exact .inl q
    · exact .inr ⟨q, PySem.W.cellsFrom_some _ _ _ (.inl q)⟩
  have binds : BindsTo s (PySem.W.fnOf name qual params body scope .none kV doc pm an cdv ct) ⟨[.ref a], []⟩ ([e].zip [Value.ref a]) := .of_eq (hbind _ _ _ _ _ _ [.ref a] rfl)
  refine codeAny_call_function hdepth (KX _ _ lk) rfl S.co S.gen rfl (PySem.W.codeRec_of KX hcd) (binds _ _ _ _ ?_)
  refine wpAny_newFunctionEnv_cells S.kind kinds fun env he s1 x => ?_
  subst he
  refine ⟨lim.keeps x.toInCall.keep, codeAny_func ?_⟩
  have J : Inv (L2H.cxH CX0 X.prog X.w X.K X.mg X.base N qual scope fa cdv (X.suite a ((a, oe) :: pn)).A (X.suite a ((a, oe) :: pn)).stack s H (fun _ _ _ => False) (a, oe)) [] (L2.start N [.ref a]) H s1 := L2H.inv_startH S pinned I.env0 rfl (.cons rfl .nil) x
  have PP : Pinned g (L2H.cxH CX0 X.prog X.w X.K X.mg X.base N qual scope fa cdv (X.suite a ((a, oe) :: pn)).A (X.suite a ((a, oe) :: pn)).stack s H (fun _ _ _ => False) (a, oe)) a C oe dd cc ci e :=
    { K := q3, mg := q4, pin := List.mem_cons_self, zc := hz, fl := hf, exA := hx, exs := hci, n0 := n0, vis := (S.par e List.mem_cons_self).elim .inl fun z => .inr (.inl z), db := h1, cd := h2 }
  obtain ⟨tb, hb1, hb2⟩ := kin_body kg PP KT S.nd hN (fun _ => rfl)
  refine wpAny_mono (hb1.run [] s1 _ H { nx := fun _ H' => Q .non H', rt := Q } J (hb2 _ H _ J.len ?_ hxd fun H2 p ex hp => hq H2 p ex hp)) (fun fl s' z => ?_) fun _ _ z => z
  · unfold L2.start
    rfl
  · have fin : ∀ {σ' : L2.St} {H' : Hp} {v : V} {u : Value}, Inv (L2H.cxH CX0 X.prog X.w X.K X.mg X.base N qual scope fa cdv (X.suite a ((a, oe) :: pn)).A (X.suite a ((a, oe) :: pn)).stack s H (fun _ _ _ => False) (a, oe)) [] σ' H' s' → L2.RelV v u → Q v H' → CE (X.suite a ((a, oe) :: pn)).stack X.prog X.w H s Q u s' :=
      fun {σ' H' v u} J rv q => ⟨v, H', J.os, J.bare, J.base, J.hok, rv, q⟩
    cases fl with
    | ret u =>
      obtain ⟨v, σ', H', J', rv, q⟩ := z
      exact fin J' rv q
    | next =>
      obtain ⟨σ', H', J', q⟩ := z
      exact fin (v := V.non) (u := Value.none) J' rfl q
    | brk =>
      obtain ⟨_, _, _, q⟩ := z
      exact q.elim
    | cont =>
      obtain ⟨_, _, _, q⟩ := z
      exact q.elim
end
/-! ### from the head's look -/
section
variable {p : PRec} {P : Program} {w : World} {K : Frag} {mg : Str → Option Value} {base h : Heap} {N : Nat}
theorem exm_all (c : obsL p K = valL p) (ne : p.xin.isEmpty = false) (i j : Nat) (C C' : Addr) (ci : ExI) (h1 : (p.gd P w K mg base N).exA[i]? = some C) (h2 : p.pg.exs[i]? = some ci) (h3 : (p.gd P w K mg base N).exA[j]? = some C') : PySem.W.exmOne K (.ref C) (.ref C') = some (ci.up.contains j) := by
  have c2 : (xinB p K && kinB p K) = true := congrArg (fun z : AlL => z.2.1) c
  have c2 := (Bool.and_eq_true_iff.mp c2).1
  unfold xinB at c2
  rw [ne, Bool.false_or] at c2
  have c3 := (Bool.and_eq_true_iff.mp (Bool.and_eq_true_iff.mp (Bool.and_eq_true_iff.mp c2).2).2).2
  obtain ⟨e1, a1, rfl⟩ := get_map (show (p.exs.map (·.2))[i]? = some ci from h2)
  obtain ⟨e2, a2, rfl⟩ := get_map (show (p.exs.map fun c => He.ga K c.1)[i]? = some C from h1)
  obtain ⟨e3, a3, rfl⟩ := get_map (show (p.exs.map fun c => He.ga K c.1)[j]? = some C' from h3)
  rw [a1] at a2
  cases a2
  have hz : (e3, j) ∈ p.exs.zipIdx := List.mem_of_getElem? (i := j) (by rw [List.getElem?_zipIdx, a3]; simp)
  exact of_decide_eq_true (List.all_eq_true.mp (List.all_eq_true.mp c3 e1 (List.mem_of_getElem? a1)) (e3, j) hz)
theorem exc_c {C : Addr} (h : excCB K C = true) : ExcC K C := by
  unfold excCB at h
  simp only [Bool.and_eq_true, decide_eq_true_eq, eqOO] at h
  obtain ⟨a1, a2, a3, a4, a5, a6, a7, a8⟩ := h
  exact ⟨a1, a2, a3, a4, a5, a6, a7, a8⟩
theorem kinG_ok (X : K.In h) (G : h.Ns mainGlobals mg) (c : obsL p K = valL p) (ne : (p.kin.isEmpty && !p.sx) = false) : KinG (p.gd P w K mg base N) := by
  have c1 : factsB p K = true := congrArg (fun z : AlL => z.1.1) c
  have c2 : (xinB p K && kinB p K) = true := congrArg (fun z : AlL => z.2.1) c
  have c2 := (Bool.and_eq_true_iff.mp c2).2
  unfold kinB at c2
  rw [ne, Bool.false_or] at c2
  obtain ⟨b1, b2⟩ := Bool.and_eq_true_iff.mp c2
  have cls : ∀ {i : Nat} {C : Addr}, (p.gd P w K mg base N).exA[i]? = some C → ∃ e, p.exs[i]? = some e ∧ He.ga K e.1 = C := fun {i C} z => get_map (show (p.exs.map fun c => He.ga K c.1)[i]? = some C from z)
  have of1 : ∀ {i : Nat} {e : Str × ExI}, p.exs[i]? = some e → excCB K (He.ga K e.1) = true ∧ PySem.W.kitOne K (.ref (He.ga K e.1)) (.type "ValueError") = some true ∧ (p.exs.zipIdx.all fun d => decide (PySem.W.kitOne K (.ref (He.ga K e.1)) (.ref (He.ga K d.1.1)) = some (e.2.up.contains d.2))) = true := fun {i e} z => by
    have q := List.all_eq_true.mp b1 e (List.mem_of_getElem? z)
    obtain ⟨q1, q⟩ := Bool.and_eq_true_iff.mp q
    obtain ⟨q2, q3⟩ := Bool.and_eq_true_iff.mp q
    exact ⟨q1, of_decide_eq_true q2, q3⟩
  obtain ⟨g1, g⟩ := Bool.and_eq_true_iff.mp c1
  obtain ⟨g2, g⟩ := Bool.and_eq_true_iff.mp g
  obtain ⟨g3, _⟩ := Bool.and_eq_true_iff.mp g
  refine { ec := fun i C z => ?_, kk := fun i j C C' ci z1 z2 z3 => ?_, kv := fun i C z => ?_, ve := PySem.W.mg_none_of X G (of_decide_eq_true b2), is := PySem.W.mg_none_of X G (of_decide_eq_true (List.all_eq_true.mp g3 "isinstance" (by simp [freeNames]))), exc := fun x i z => ?_ }
  · obtain ⟨e, h1, rfl⟩ := cls z
    exact exc_c (of1 h1).1
  · obtain ⟨e, h1, rfl⟩ := cls z1
    obtain ⟨e', h3, rfl⟩ := cls z3
    obtain ⟨e2, a1, rfl⟩ := get_map (show (p.exs.map (·.2))[i]? = some ci from z2)
    rw [h1] at a1
    cases a1
    have hz : (e', j) ∈ p.exs.zipIdx := List.mem_of_getElem? (i := j) (by rw [List.getElem?_zipIdx, h3]; simp)
    exact of_decide_eq_true (List.all_eq_true.mp (of1 h1).2.2 (e', j) hz)
  · obtain ⟨e, h1, rfl⟩ := cls z
    exact (of1 h1).2.1
  · have q := List.all_eq_true.mp g2 (x, .exc i) (PySem.mem_of_lookup z)
    unfold glB at q
    simp only at q
    cases hr : p.exs[i]? with
    | none => rw [hr] at q; cases q
    | some r =>
      rw [hr] at q
      obtain ⟨q1, q2⟩ := Bool.and_eq_true_iff.mp q
      exact ⟨_, map_get hr, PySem.W.mg_of X G (of_decide_eq_true q1), q2⟩
end
def AllX : List (Option XR) → Prop
  | [] => True
  | none :: l => AllX l
  | some r :: l => (XText r.ps r.fl r.scope r.params r.body ∧ XBind r) ∧ AllX l
theorem AllX.mem : ∀ {l : List (Option XR)}, AllX l → ∀ r, some r ∈ l → XText r.ps r.fl r.scope r.params r.body ∧ XBind r
  | none :: l, h, r, m => by
    rcases List.mem_cons.mp m with m | m
    · cases m
    · exact AllX.mem (l := l) h r m
  | some r0 :: l, ⟨h1, h2⟩, r, m => by
    rcases List.mem_cons.mp m with m | m
    · cases m; exact h1
    · exact AllX.mem h2 r m
/-- the one such def of a law -/
theorem kin_one {p : PRec} {P : Program} {w : World} {K : Frag} {mg : Str → Option Value} {base h : Heap} {N f0 : Nat} {ks0 : List (Option Nat)} {r : FR} {e : Str} (X : K.In h) (G : h.Ns mainGlobals mg) (c : obsL p K = valL p) (ok : p.ok = true) (hb : AllB p.fns) (hk : p.kin = [(f0, ks0)]) (hr : p.fns[f0]? = some r) (hps : r.ps = [e])
    (KT : KinT p.gl r.scope r.body e ks0) (hN : ∀ x, r.scope.names.lookup x = some .local → x ∈ r.N) (h1 : (e == ("__debug__" : Str)) = false) (h2 : (e == ("__classdict__" : Str)) = false) (f : Nat) (ks : List (Option Nat)) (fa : Addr)
    (z1 : lookA f (p.gd P w K mg base N).pg.kin = some ks) (z2 : (p.gd P w K mg base N).fnA[f]? = some fa) : KinF (p.gd P w K mg base N) fa ks := by
  have z1' : lookA f p.kin = some ks := z1
  rw [hk] at z1'
  unfold lookA at z1'
  split at z1'
  · rename_i hf
    cases z1'
    subst hf
    obtain ⟨fi, hfi, FOk⟩ := (funs_ok (P := P) (w := w) (mg := mg) (base := base) (N := N) c ok fun r hm => hb.mem r hm).ok f r fa hr z2
    obtain ⟨fd, FD⟩ := FOk.fd
    obtain ⟨_, c2, _⟩ := FR.ok_comp FOk.ok
    have bd := FOk.bind
    rw [hps] at c2 bd
    exact kin_ok (kinG_ok X G c (by rw [hk] <;> rfl)) FD c2 KT hN h1 h2 bd
  · cases z1'
/-- the fields that an exception class's __init__ sets are no names of the class -/
theorem xf_all {p : PRec} {P : Program} {w : World} {K : Frag} {mg : Str → Option Value} {base : Heap} {N : Nat} (c : obsL p K = valL p) (xo : p.xok = true) (cc a : Nat) (C : Addr) (nm : Str) (h1 : (p.gd P w K mg base N).exA[cc]? = some C) (h2 : fldOk p.pg cc a = true) (h3 : p.an[a]? = some nm) : PySem.W.findIn K (.ref C) nm = some none := by
  have c2 : (xinB p K && kinB p K) = true := congrArg (fun z : AlL => z.2.1) c
  have c2 := (Bool.and_eq_true_iff.mp c2).1
  obtain ⟨e, g1, rfl⟩ := get_map (show (p.exs.map fun c => He.ga K c.1)[cc]? = some C from h1)
  unfold fldOk at h2
  have g2 : p.pg.exs[cc]? = some e.2 := by
    show (p.exs.map (·.2))[cc]? = _
    rw [List.getElem?_map, g1]; rfl
  rw [g2] at h2
  simp only at h2
  cases hm : e.2.exf with
  | none => rw [hm] at h2; cases h2
  | some m =>
    rw [hm] at h2
    simp only at h2
    obtain ⟨z, hz, ez⟩ := List.any_eq_true.mp h2
    have ez : z.1 = a := by simpa using ez
    have hzi : (e, cc) ∈ p.exs.zipIdx := List.mem_of_getElem? (i := cc) (by rw [List.getElem?_zipIdx, g1]; simp)
    have q := List.all_eq_true.mp xo (e, cc) hzi
    simp only [hm] at q
    split at q
    · rename_i r hr
      obtain ⟨q1, q⟩ := Bool.and_eq_true_iff.mp q
      obtain ⟨q2, q⟩ := Bool.and_eq_true_iff.mp q
      have q1 := of_decide_eq_true q1
      have q2 := of_decide_eq_true q2
      have hmem : some r ∈ p.xin := List.mem_of_getElem? hr
      unfold xinB at c2
      have ne : p.xin.isEmpty = false := by
        cases hx : p.xin with
        | nil => rw [hx] at hmem; cases hmem
        | cons _ _ => rfl
      rw [ne, Bool.false_or] at c2
      have k1 := (Bool.and_eq_true_iff.mp c2).1
      have xb := List.all_eq_true.mp k1 _ hmem
      simp only at xb
      unfold xB at xb
      have xb := (Bool.and_eq_true_iff.mp xb).2
      have xb := (Bool.and_eq_true_iff.mp xb).2
      have xb := (Bool.and_eq_true_iff.mp xb).2
      have xb := (Bool.and_eq_true_iff.mp xb).1
      have hin : (p.an.getD z.1 "", z.2 + 1) ∈ r.fl := by
        rw [q2, List.mem_reverse]
        exact List.mem_map.mpr ⟨z, hz, rfl⟩
      have := List.all_eq_true.mp xb _ hin
      unfold eqOO at this
      have := of_decide_eq_true this
      rw [ez] at this
      have en : p.an.getD a "" = nm := by rw [List.getD_eq_getElem?_getD, h3]; rfl
      simp only [en] at this
      rw [q1] at this
      exact this
    · cases q
end LA

/-! The written part's addresses, found with a row of bits; the head's run in parts. -/
namespace LA
open PySem PySem.Spec PyProof.Rows L2
open PySem.W (Frag)
def bitAt (s a : Nat) : Bool := match Nat.land 1 (Nat.shiftRight s a) with
  | 0 => false
  | _ + 1 => true
def coll {α : Type} (k : Nat → List Addr → α) : List Addr → Nat → List Addr → α
  | [], s, acc => k s acc
  | a :: r, s, acc => match bitAt s a with
    | true => coll k r s acc
    | false => HandSHeadRun.frNat (Nat.lor s (Nat.shiftLeft 1 a)) fun s => coll k r s (a :: acc)
def rnds (g : Addr → Option Obj) : Nat → List Addr → Nat → List Addr → List Addr
  | 0, _, _, all => all
  | n + 1, fr, s, all => coll (fun s new => rnds g n new s (all ++ new)) (fr.flatMap fun a => match g a with
    | some o => He.refsD o
    | none => []) s []
def asB (n : Nat) (g : Addr → Option Obj) : List Addr := cStatics :: rnds g n [mainGlobals] (Nat.shiftLeft 1 mainGlobals) [mainGlobals]
def KB (n : Nat) (g : Addr → Option Obj) : Frag := He.frG (noLs g) (asB n g)
def obsBG (n : Nat) (p : PRec) (g : Addr → Option Obj) : AlL := obsL p (KB n g)
def hookB (n : Nat) (p : PRec) : PySem.W.Hook where
  α := AlL
  obs := fun s => obsBG n p s.heap.get?
  val := fun _ => valL p
  says := fun _ h => ∃ K : Frag, K.In h ∧ (∀ a o, K.lookup a = some o → o.cls ≠ .type "list") ∧ obsL p K = valL p
  of := fun _ _ e => ⟨_, fun _ _ q => (noLs_ok (He.frG_at _ q)).1, fun _ _ q => (noLs_ok (He.frG_at _ q)).2, e⟩
  keeps := fun _ _ _ ⟨K, hK, q, c⟩ k => ⟨K, PySem.W.Frag.In.keeps hK k, q, c⟩
theorem obsBG_eq {n : Nat} {p : PRec} {g : Addr → Option Obj} {s : Shared} (h : ∀ a, g a = s.heap.get? a) : obsBG n p g = (hookB n p).obs s := by
  have e : g = s.heap.get? := funext h
  rw [e] <;> rfl
/-! parts of a look -/
theorem map_two {σ α β : Type} {X : Option σ} {f : σ → α} {g : σ → β} {a : α} {b : β} (h1 : X.map f = some a) (h2 : X.map g = some b) : X.map (fun s => (f s, g s)) = some (a, b) := by
  cases X with
  | none => cases h1
  | some s => cases h1; cases h2; rfl
theorem map_and {σ : Type} {X : Option σ} {f g : σ → Bool} (h1 : X.map f = some true) (h2 : X.map g = some true) : X.map (fun s => f s && g s) = some true := by
  cases X with
  | none => cases h1
  | some s =>
    have a : f s = true := Option.some.inj h1
    have b : g s = true := Option.some.inj h2
    show some (f s && g s) = _
    rw [a, b]; rfl
theorem obs_join {n : Nat} {p : PRec} {g : Addr → Option Obj}
    (c : ((p.fns.all (fnB (KB n g))), (p.gl.all fun q => glB p (KB n g) q.1 q.2)) = (true, true)) (d : ((freeNames.all fun x => eqOO (PySem.W.nsIn (KB n g) mainGlobals x) (some none)) && ((p.cls.all (clB p (KB n g))) && isiB p (KB n g))) = true)
    (e : ((p.fns.map fun r => fnAt (KB n g) (r.ad (KB n g))), (obsL p (KB n g)).2.2) = (p.fns.map FR.val, (valL p).2.2)) (f : (xinB p (KB n g) && kinB p (KB n g)) = true) : some (obsBG n p g) = some (valL p) := by
  have c1 : p.fns.all (fnB (KB n g)) = true := congrArg (fun z => z.1) c
  have c2 : (p.gl.all fun q => glB p (KB n g) q.1 q.2) = true := congrArg (fun z => z.2) c
  have e1 : (p.fns.map fun r => fnAt (KB n g) (r.ad (KB n g))) = p.fns.map FR.val := congrArg (fun z => z.1) e
  have e2 : (obsL p (KB n g)).2.2 = (valL p).2.2 := congrArg (fun z => z.2) e
  have fa : factsB p (KB n g) = true := by unfold factsB; rw [c1, c2, d]; rfl
  have z : obsL p (KB n g) = ((factsB p (KB n g), p.fns.map fun r => fnAt (KB n g) (r.ad (KB n g))), (xinB p (KB n g) && kinB p (KB n g)), (obsL p (KB n g)).2.2) := rfl
  show some (obsL p (KB n g)) = some (valL p)
  rw [z, fa, e1, f, e2]
  rfl
end LA

/-! What the interpreter does, by what must hold behind it. -/
namespace LA.Pu
def ap {β : Type} (x : Option (β × Sto)) (K : β → Sto → Prop) : Prop := match x with
  | some (r, S') => K r S'
  | none => False
def wp {β : Type} (m : Sto → Option (β × Sto)) (S : Sto) (K : β → Sto → Prop) : Prop := ap (m S) K
@[simp] theorem ap_some {β : Type} {r : β} {S : Sto} {K : β → Sto → Prop} : ap (some (r, S)) K = K r S := rfl
@[simp] theorem ap_none {β : Type} {K : β → Sto → Prop} : ap none K = False := rfl
def bk {α β : Type} (f : α → M β) (K : R β → Sto → Prop) : R α → Sto → Prop := fun r S' => match r with
  | .ok a => wp (f a) S' K
  | .ex c fs => K (.ex c fs) S'
def ik {α : Type} (σ : En) (f : α → SM) (K : Fl → Sto → Prop) : R α → Sto → Prop := fun r S' => match r with
  | .ok a => wp (f a) S' K
  | .ex c fs => K (.ex c fs σ) S'
def sk (f : En → SM) (K : Fl → Sto → Prop) : Fl → Sto → Prop := fun r S' => match r with
  | .nx σ => wp (f σ) S' K
  | r => K r S'
def nk {α : Type} (K : R α → Sto → Prop) : R α → Sto → Prop := fun r S' => match r with
  | .ok a => K (.ok a) S'
  | .ex _ _ => False
theorem wp_congr {β : Type} {m m' : Sto → Option (β × Sto)} {S S' : Sto} {K : β → Sto → Prop} (h : m = m') (h2 : S = S') : wp m S K = wp m' S' K := by rw [h, h2]
theorem wp_mono {β : Type} {m : Sto → Option (β × Sto)} {S : Sto} {K K' : β → Sto → Prop} (h : wp m S K) (q : ∀ r S', K r S' → K' r S') : wp m S K' := by
  unfold wp at *
  rcases e : m S with _ | ⟨r, S'⟩
  · rw [e] at h; exact h
  · rw [e] at h; exact q _ _ h
theorem wp_of {β : Type} {m : Sto → Option (β × Sto)} {S S' : Sto} {r : β} {K : β → Sto → Prop} (e : m S = some (r, S')) (h : K r S') : wp m S K := by unfold wp; rw [e]; exact h
theorem wp_get {β : Type} {m : Sto → Option (β × Sto)} {S : Sto} {K : β → Sto → Prop} (h : wp m S K) : ∃ r S', m S = some (r, S') ∧ K r S' := by
  unfold wp ap at h
  rcases e : m S with _ | ⟨r, S'⟩
  · rw [e] at h; exact h.elim
  · rw [e] at h; exact ⟨r, S', rfl, h⟩
@[simp] theorem wp_pure {α : Type} {a : α} {S : Sto} {K : R α → Sto → Prop} : wp (M.pure a) S K = K (.ok a) S := rfl
@[simp] theorem wp_stuck {α : Type} {S : Sto} {K : R α → Sto → Prop} : wp (M.stuck : M α) S K = False := rfl
@[simp] theorem wp_bind {α β : Type} {m : M α} {f : α → M β} {S : Sto} {K : R β → Sto → Prop} : wp (M.bind m f) S K = wp m S (bk f K) := by
  unfold wp ap M.bind bk
  rcases m S with _ | ⟨a | ⟨c, fs⟩, S'⟩ <;> rfl
@[simp] theorem wp_inS {α : Type} {σ : En} {m : M α} {f : α → SM} {S : Sto} {K : Fl → Sto → Prop} : wp (M.inS σ m f) S K = wp m S (ik σ f K) := by
  unfold wp ap M.inS ik
  rcases m S with _ | ⟨a | ⟨c, fs⟩, S'⟩ <;> rfl
@[simp] theorem wp_sb {m : SM} {f : En → SM} {S : Sto} {K : Fl → Sto → Prop} : wp (SM.bind m f) S K = wp m S (sk f K) := by
  unfold wp ap SM.bind sk
  rcases m S with _ | ⟨a | d | ⟨c, fs, σ⟩, S'⟩ <;> rfl
@[simp] theorem wp_noEx {α : Type} {m : M α} {S : Sto} {K : R α → Sto → Prop} : wp (noEx m) S K = wp m S (nk K) := by
  unfold wp ap noEx nk
  rcases m S with _ | ⟨a | ⟨c, fs⟩, S'⟩ <;> rfl
@[simp] theorem bk_ok {α β : Type} {f : α → M β} {K : R β → Sto → Prop} {a : α} {S : Sto} : bk f K (.ok a) S = wp (f a) S K := rfl
@[simp] theorem bk_ex {α β : Type} {f : α → M β} {K : R β → Sto → Prop} {c : Nat} {fs} {S : Sto} : bk f K (.ex c fs) S = K (.ex c fs) S := rfl
@[simp] theorem ik_ok {α : Type} {σ : En} {f : α → SM} {K : Fl → Sto → Prop} {a : α} {S : Sto} : ik σ f K (.ok a) S = wp (f a) S K := rfl
@[simp] theorem ik_ex {α : Type} {σ : En} {f : α → SM} {K : Fl → Sto → Prop} {c : Nat} {fs} {S : Sto} : ik σ f K (.ex c fs) S = K (.ex c fs σ) S := rfl
@[simp] theorem sk_nx {f : En → SM} {K : Fl → Sto → Prop} {σ : En} {S : Sto} : sk f K (.nx σ) S = wp (f σ) S K := rfl
@[simp] theorem sk_rt {f : En → SM} {K : Fl → Sto → Prop} {d : D} {S : Sto} : sk f K (.rt d) S = K (.rt d) S := rfl
@[simp] theorem sk_ex {f : En → SM} {K : Fl → Sto → Prop} {c : Nat} {fs} {σ : En} {S : Sto} : sk f K (.ex c fs σ) S = K (.ex c fs σ) S := rfl
@[simp] theorem nk_ok {α : Type} {K : R α → Sto → Prop} {a : α} {S : Sto} : nk K (.ok a) S = K (.ok a) S := rfl
@[simp] theorem wp_ret {β : Type} {r : β} {S : Sto} {K : β → Sto → Prop} : wp (fun S => some (r, S)) S K = K r S := rfl
@[simp] theorem wp_ite {β : Type} {c : Prop} [Decidable c] {m n : Sto → Option (β × Sto)} {S : Sto} {K : β → Sto → Prop} : wp (if c then m else n) S K = if c then wp m S K else wp n S K := by split <;> rfl
/-- a call -/
def rk (K : R D → Sto → Prop) : Fl → Sto → Prop := fun r S' => match r with
  | .nx _ => K (.ok .non) S'
  | .rt d => K (.ok d) S'
  | .ex c fs _ => K (.ex c fs) S'
@[simp] theorem rk_nx {K : R D → Sto → Prop} {σ : En} {S : Sto} : rk K (.nx σ) S = K (.ok .non) S := rfl
@[simp] theorem rk_rt {K : R D → Sto → Prop} {d : D} {S : Sto} : rk K (.rt d) S = K (.ok d) S := rfl
@[simp] theorem rk_ex {K : R D → Sto → Prop} {c : Nat} {fs} {σ : En} {S : Sto} : rk K (.ex c fs σ) S = K (.ex c fs) S := rfl
theorem wp_call {pg : Pg} {N k f : Nat} {as : List D} {fi : FnI} {S : Sto} {K : R D → Sto → Prop} (h : pg.fns[f]? = some fi) (h2 : as.length = fi.np ∧ fi.np ≤ fi.nl) :
    wp (call pg N (k + 1) f as) S K = wp (evCs pg (call pg N k) N (as.map some ++ List.replicate (fi.nl - fi.np) none) fi.body) S (rk K) := by
  unfold wp ap rk
  unfold call
  simp only [h, h2, and_self, if_true]
  rcases evCs pg (call pg N k) N (as.map some ++ List.replicate (fi.nl - fi.np) none) fi.body S with _ | ⟨a | d | ⟨c, fs, σ⟩, S'⟩ <;> rfl
/-- kept whole by simp -/
def Box (P : Prop) : Prop := P
/-! ### stores -/
def Ext (S S' : Sto) : Prop := S.length ≤ S'.length ∧ ∀ (i : Nat) (o : Ob), S[i]? = some o → S'[i]? = some o
def ExR (r : Nat) (S S' : Sto) : Prop := S.length ≤ S'.length ∧ ∀ (i : Nat) (o : Ob), i ≠ r → S[i]? = some o → S'[i]? = some o
theorem Ext.refl (S : Sto) : Ext S S := ⟨Nat.le_refl _, fun _ _ h => h⟩
theorem Ext.trans {A B C : Sto} (h : Ext A B) (g : Ext B C) : Ext A C := ⟨Nat.le_trans h.1 g.1, fun i o q => g.2 i o (h.2 i o q)⟩
theorem Ext.get {A B : Sto} (h : Ext A B) {i : Nat} {o : Ob} (q : A[i]? = some o) : B[i]? = some o := h.2 i o q
theorem ExR.refl {r : Nat} (S : Sto) : ExR r S S := ⟨Nat.le_refl _, fun _ _ _ h => h⟩
theorem ExR.trans {r : Nat} {A B C : Sto} (h : ExR r A B) (g : ExR r B C) : ExR r A C := ⟨Nat.le_trans h.1 g.1, fun i o n q => g.2 i o n (h.2 i o n q)⟩
theorem Ext.exr {r : Nat} {A B : Sto} (h : Ext A B) : ExR r A B := ⟨h.1, fun i o _ q => h.2 i o q⟩
theorem ExR.get {r : Nat} {A B : Sto} (h : ExR r A B) {i : Nat} {o : Ob} (n : i ≠ r) (q : A[i]? = some o) : B[i]? = some o := h.2 i o n q
theorem lt_of_get {S : Sto} {i : Nat} {o : Ob} (h : S[i]? = some o) : i < S.length := (List.getElem?_eq_some_iff.mp h).1
theorem Ext.app (S T : Sto) : Ext S (S ++ T) := ⟨by simp, fun i o h => by rw [List.getElem?_append_left (lt_of_get h)]; exact h⟩
theorem ExR.set (r : Nat) (S : Sto) (o : Ob) : ExR r S (S.set r o) := ⟨by simp, fun i o' n h => by rw [List.getElem?_set_ne (Ne.symm n)]; exact h⟩
theorem ExR.setN {r i : Nat} {A B : Sto} {o : Ob} (h : ExR r A B) (l : A.length ≤ i) : ExR r A (B.set i o) := ⟨by simpa using h.1, fun j p n q => by
  rw [List.getElem?_set_ne (by have := lt_of_get q; omega)]; exact h.2 j p n q⟩
theorem Ext.setN {i : Nat} {A B : Sto} {o : Ob} (h : Ext A B) (l : A.length ≤ i) : Ext A (B.set i o) := ⟨by simpa using h.1, fun j p q => by
  rw [List.getElem?_set_ne (by have := lt_of_get q; omega)]; exact h.2 j p q⟩
theorem get_new (S : Sto) (o : Ob) : (S ++ [o])[S.length]? = some o := by simp
theorem get_set {S : Sto} {i : Nat} {o p : Ob} (h : S[i]? = some p) : (S.set i o)[i]? = some o := by
  rw [List.getElem?_set_self (lt_of_get h)]
theorem get_setN {S : Sto} {i j : Nat} {o : Ob} (h : i ≠ j) : (S.set i o)[j]? = S[j]? := List.getElem?_set_ne h
theorem get_app {S T : Sto} {i : Nat} {p : Ob} (h : S[i]? = some p) : (S ++ T)[i]? = some p := (Ext.app S T).get h
theorem ne_new {S : Sto} {i : Nat} {o : Ob} (h : S[i]? = some o) : i ≠ S.length := Nat.ne_of_lt (lt_of_get h)
/-! ### the primitive operations: looked at by their own -/
theorem wq {β : Type} {m : Sto → Option (β × Sto)} {S : Sto} {K : β → Sto → Prop} : wp m S K = ap (m S) K := rfl
theorem wp_idx {a i : D} {S : Sto} {K : R D → Sto → Prop} : wp (idxD a i) S K = ap (idxD a i S) K := rfl
theorem wp_slc {a i j : D} {S : Sto} {K : R D → Sto → Prop} : wp (slcD a i j) S K = ap (slcD a i j S) K := rfl
theorem wp_revD {a : D} {S : Sto} {K : R D → Sto → Prop} : wp (revD a) S K = ap (revD a S) K := rfl
theorem wp_bin {o : BO} {a b : D} {S : Sto} {K : R D → Sto → Prop} : wp (binD o a b) S K = ap (binD o a b S) K := rfl
@[simp] theorem wp_bmD {o : D} {b : BM} {as : List D} {S : Sto} {K : R D → Sto → Prop} : wp (bmD o b as) S K = ap (bmD o b as S) K := rfl
@[simp] theorem wp_recv {o : D} {b : BM} {S : Sto} {K : R Unit → Sto → Prop} : wp (recvD o b) S K = ap (recvD o b S) K := rfl
theorem wp_biD {b : BI} {as : List D} {S : Sto} {K : R D → Sto → Prop} : wp (biD b as) S K = ap (biD b as S) K := rfl
@[simp] theorem wp_setI {a i v : D} {S : Sto} {K : R Unit → Sto → Prop} : wp (setI a i v) S K = ap (setI a i v S) K := rfl
@[simp] theorem wp_setF {pg : Pg} {a v : D} {i : Nat} {S : Sto} {K : R Unit → Sto → Prop} : wp (setF pg a i v) S K = ap (setF pg a i v S) K := rfl
@[simp] theorem wp_getF {pg : Pg} {a : D} {i : Nat} {S : Sto} {K : R D → Sto → Prop} : wp (getF pg a i) S K = ap (getF pg a i S) K := rfl
@[simp] theorem wp_clsM {a : D} {S : Sto} {K : R Nat → Sto → Prop} : wp (clsM a) S K = ap (clsM a S) K := rfl
@[simp] theorem wp_methF {pg : Pg} {a : D} {i : Nat} {S : Sto} {K : R Nat → Sto → Prop} : wp (methF pg a i) S K = ap (methF pg a i S) K := rfl
@[simp] theorem wp_appO {a v : D} {S : Sto} {K : R Unit → Sto → Prop} : wp (appO a v) S K = ap (appO a v S) K := rfl
@[simp] theorem wp_putO {a k v : D} {S : Sto} {K : R Unit → Sto → Prop} : wp (putO a k v) S K = ap (putO a k v S) K := rfl
@[simp] theorem wp_fillD {a : D} {xs : List D} {S : Sto} {K : R D → Sto → Prop} : wp (fillD a xs) S K = ap (fillD a xs S) K := rfl
@[simp] theorem wp_lockD {i : Nat} {b : Bool} {S : Sto} {K : R Unit → Sto → Prop} : wp (lockD i b) S K = ap (lockD i b S) K := rfl
@[simp] theorem wp_unlk0 {S : Sto} {K : R Unit → Sto → Prop} : wp (unlk none) S K = K (.ok ()) S := rfl
@[simp] theorem wp_unlk1 {i : Nat} {S : Sto} {K : R Unit → Sto → Prop} : wp (unlk (some i)) S K = wp (lockD i false) S K := rfl
@[simp] theorem wp_seqM {d : D} {S : Sto} {K : R (List D) → Sto → Prop} : wp (seqM d) S K = (match seqOf S d with | some xs => K (.ok xs) S | none => False) := by
  unfold wp seqM; cases seqOf S d <;> rfl
@[simp] theorem wp_truthM {d : D} {S : Sto} {K : R Bool → Sto → Prop} : wp (truthM d) S K = (match truth S d with | some b => K (.ok b) S | none => False) := by
  unfold wp truthM; cases truth S d <;> rfl
@[simp] theorem wp_tgM {t : Tg} {d : D} {σ : En} {S : Sto} {K : R En → Sto → Prop} : wp (tgM t d σ) S K = (match setTg S t d σ with | some σ' => K (.ok σ') S | none => False) := by
  unfold wp tgM; cases setTg S t d σ <;> rfl
@[simp] theorem wp_new {o : Ob} {S : Sto} {K : R D → Sto → Prop} : wp (new o) S K = K (.ok (.obj S.length)) (S ++ [o]) := rfl
def isM (pg : Pg) (d : D) (t : Ty) : M D := fun S => match isTy pg S d t with
  | some b => some (.ok (.bl b), S)
  | none => none
@[simp] theorem wp_isM {pg : Pg} {d : D} {t : Ty} {S : Sto} {K : R D → Sto → Prop} : wp (isM pg d t) S K = (match isTy pg S d t with | some b => K (.ok (.bl b)) S | none => False) := by
  unfold wp isM
  cases isTy pg S d t <;> rfl
end LA.Pu

/-! Loops; equality of plain values. -/
namespace LA.Pu
/-! ### loops -/
theorem wp_loopC {xs : List D} {step : D → M Unit} {S : Sto} {K : R Unit → Sto → Prop} (Inv : Nat → Sto → Prop)
    (h0 : Inv 0 S) (hs : ∀ I : Nat → Sto → Prop, (∀ j S, Inv j S → I j S) → ∀ k d S, xs[k]? = some d → Inv k S → wp (step d) S (nk fun _ S' => I (k + 1) S')) (he : ∀ S, Inv xs.length S → K (.ok ()) S) :
    wp (loopC (.items xs) step xs.length 0) S K := by
  have H : ∀ m k S, k + m = xs.length → Inv k S → wp (loopC (.items xs) step m k) S K := by
    intro m
    induction m with
    | zero =>
      intro k S e i
      have : xs[k]? = none := by simp; omega
      rw [wq]
      simp only [loopC, Wk.get, this]
      show K _ _
      exact he S (by rw [← e]; exact i)
    | succ m ih =>
      intro k S e i
      have hk : k < xs.length := by omega
      have g : xs[k]? = some xs[k] := List.getElem?_eq_getElem hk
      have w := hs Inv (fun _ _ z => z) k _ S g i
      rw [wq]
      simp only [loopC, Wk.get, g]
      show wp (M.bind (step xs[k]) fun _ => loopC (.items xs) step m (k + 1)) S K
      rw [wp_bind]
      refine wp_mono w fun r S' q => ?_
      rcases r with a | ⟨c, fs⟩
      · exact ih (k + 1) S' (by omega) q
      · exact q.elim
  exact H _ _ _ (by simp) h0
theorem wp_loopI {xs : List D} {step : D → En → SM} {σ : En} {S : Sto} {K : Fl → Sto → Prop} (Inv : Nat → En → Sto → Prop)
    (h0 : Inv 0 σ S) (hs : ∀ I : Nat → En → Sto → Prop, (∀ j σ S, Inv j σ S → I j σ S) → ∀ k d σ S, xs[k]? = some d → Inv k σ S → wp (step d σ) S (fun r S' => match r with | .nx σ' => I (k + 1) σ' S' | r => K r S')) (he : ∀ σ S, Inv xs.length σ S → K (.nx σ) S) :
    wp (loopI (.items xs) step xs.length 0 σ) S K := by
  have H : ∀ m k σ S, k + m = xs.length → Inv k σ S → wp (loopI (.items xs) step m k σ) S K := by
    intro m
    induction m with
    | zero =>
      intro k σ S e i
      have : xs[k]? = none := by simp; omega
      rw [wq]
      simp only [loopI, Wk.get, this]
      show K _ _
      exact he σ S (by rw [← e]; exact i)
    | succ m ih =>
      intro k σ S e i
      have hk : k < xs.length := by omega
      have g : xs[k]? = some xs[k] := List.getElem?_eq_getElem hk
      have w := hs Inv (fun _ _ _ z => z) k _ σ S g i
      rw [wq]
      simp only [loopI, Wk.get, g]
      show wp (SM.bind (step xs[k] σ) fun σ' => loopI (.items xs) step m (k + 1) σ') S K
      rw [wp_sb]
      refine wp_mono w fun r S' q => ?_
      rcases r with σ' | d | ⟨c, fs, σ'⟩
      · exact ih (k + 1) σ' S' (by omega) q
      · exact q
      · exact q
  exact H _ _ _ _ (by simp) h0
/-- over a list that stays -/
theorem wp_loopL {i : Nat} {xs : List D} {step : D → En → SM} {σ : En} {S : Sto} {K : Fl → Sto → Prop} (Inv : Nat → En → Sto → Prop)
    (h0 : Inv 0 σ S) (hl : ∀ k σ S, Inv k σ S → ∃ b, S[i]? = some (.lst xs b))
    (hs : ∀ I : Nat → En → Sto → Prop, (∀ j σ S, Inv j σ S → I j σ S) → ∀ k d σ S, xs[k]? = some d → Inv k σ S → wp (step d σ) S (fun r S' => match r with | .nx σ' => I (k + 1) σ' S' | r => K r S')) (he : ∀ σ S, Inv xs.length σ S → K (.nx σ) S) :
    wp (loopI (.lst i xs.length) step xs.length 0 σ) S K := by
  have H : ∀ m k σ S, k + m = xs.length → Inv k σ S → wp (loopI (.lst i xs.length) step m k σ) S K := by
    intro m
    induction m with
    | zero =>
      intro k σ S e q
      obtain ⟨b, hb⟩ := hl k σ S q
      have : xs[k]? = none := by simp; omega
      rw [wq]
      simp only [loopI, Wk.get, hb, if_true, this]
      show K _ _
      exact he σ S (by rw [← e]; exact q)
    | succ m ih =>
      intro k σ S e q
      obtain ⟨b, hb⟩ := hl k σ S q
      have hk : k < xs.length := by omega
      have g : xs[k]? = some xs[k] := List.getElem?_eq_getElem hk
      have w := hs Inv (fun _ _ _ z => z) k _ σ S g q
      rw [wq]
      simp only [loopI, Wk.get, hb, if_true, g]
      show wp (SM.bind (step xs[k] σ) fun σ' => loopI (.lst i xs.length) step m (k + 1) σ') S K
      rw [wp_sb]
      refine wp_mono w fun r S' q => ?_
      rcases r with σ' | d | ⟨c, fs, σ'⟩
      · exact ih (k + 1) σ' S' (by omega) q
      · exact q
      · exact q
  exact H _ _ _ _ (by simp) h0
theorem wp_loopCL {i : Nat} {xs : List D} {step : D → M Unit} {S : Sto} {K : R Unit → Sto → Prop} (Inv : Nat → Sto → Prop)
    (h0 : Inv 0 S) (hl : ∀ k S, Inv k S → ∃ b, S[i]? = some (.lst xs b))
    (hs : ∀ I : Nat → Sto → Prop, (∀ j S, Inv j S → I j S) → ∀ k d S, xs[k]? = some d → Inv k S → wp (step d) S (nk fun _ S' => I (k + 1) S')) (he : ∀ S, Inv xs.length S → K (.ok ()) S) :
    wp (loopC (.lst i xs.length) step xs.length 0) S K := by
  have H : ∀ m k S, k + m = xs.length → Inv k S → wp (loopC (.lst i xs.length) step m k) S K := by
    intro m
    induction m with
    | zero =>
      intro k S e q
      obtain ⟨b, hb⟩ := hl k S q
      have : xs[k]? = none := by simp; omega
      rw [wq]
      simp only [loopC, Wk.get, hb, if_true, this]
      show K _ _
      exact he S (by rw [← e]; exact q)
    | succ m ih =>
      intro k S e q
      obtain ⟨b, hb⟩ := hl k S q
      have hk : k < xs.length := by omega
      have g : xs[k]? = some xs[k] := List.getElem?_eq_getElem hk
      have w := hs Inv (fun _ _ z => z) k _ S g q
      rw [wq]
      simp only [loopC, Wk.get, hb, if_true, g]
      show wp (M.bind (step xs[k]) fun _ => loopC (.lst i xs.length) step m (k + 1)) S K
      rw [wp_bind]
      refine wp_mono w fun r S' q => ?_
      rcases r with a | ⟨c, fs⟩
      · exact ih (k + 1) S' (by omega) q
      · exact q.elim
  exact H _ _ _ (by simp) h0
/-- a statement and what holds behind it -/
theorem seqc {pg : Pg} {cl : Nat → List D → M D} {N : Nat} {σ : En} {c : C} {T : Cs} {S : Sto} {K : Fl → Sto → Prop} (P : En → Sto → Prop)
    (h1 : ∀ T', (∀ σ' S', P σ' S' → wp (evCs pg cl N σ' T') S' K) → wp (evCs pg cl N σ (.cons c T')) S K) (h2 : ∀ σ' S', P σ' S' → wp (evCs pg cl N σ' T) S' K) : wp (evCs pg cl N σ (.cons c T)) S K := h1 T h2
/-! ### plain values -/
mutual
def plain : D → Bool
  | .obj _ => false
  | .tup xs => plains xs
  | _ => true
def plains : List D → Bool
  | [] => true
  | x :: r => plain x && plains r
end
mutual
def dpt : D → Nat
  | .tup xs => dpts xs + 1
  | _ => 1
def dpts : List D → Nat
  | [] => 1
  | x :: r => max (dpt x) (dpts r) + 1
end
mutual
def eqV : D → D → Bool
  | .non, .non => true
  | .bl a, .bl b => a == b
  | .int a, .int b => decide (a = b)
  | .bl a, .int b => decide (b2i a = b)
  | .int a, .bl b => decide (a = b2i b)
  | .str a, .str b => decide (a = b)
  | .tup a, .tup b => eqVs a b
  | _, _ => false
def eqVs : List D → List D → Bool
  | [], [] => true
  | x :: xs, y :: ys => eqV x y && eqVs xs ys
  | _, _ => false
end
mutual
theorem eqV_self : ∀ x : D, plain x = true → eqV x x = true
  | .non, _ => rfl
  | .bl a, _ => by simp [eqV]
  | .int a, _ => by simp [eqV]
  | .str a, _ => by simp [eqV]
  | .tup a, h => by
    have h' : plains a = true := h
    simp only [eqV]
    exact eqVs_self a h'
  | .obj i, h => by cases h
theorem eqVs_self : ∀ x : List D, plains x = true → eqVs x x = true
  | [], _ => rfl
  | x :: r, h => by
    have h' : (plain x && plains r) = true := h
    obtain ⟨h1, h2⟩ := Bool.and_eq_true_iff.mp h'
    simp only [eqVs, eqV_self x h1, eqVs_self r h2, Bool.and_self]
end
def eqVp : List D → List D → Bool
  | [], _ => true
  | _, [] => true
  | x :: xs, y :: ys => eqV x y && eqVp xs ys
theorem eqVs_eq : ∀ a b : List D, eqVs a b = (eqVp a b && a.length == b.length)
  | [], [] => rfl
  | _ :: _, [] => by simp [eqVs, eqVp]
  | [], _ :: _ => by simp [eqVs, eqVp]
  | x :: a, y :: b => by simp [eqVs, eqVp, eqVs_eq a b, Bool.and_assoc]
theorem eqVs_len : ∀ {a b : List D}, eqVs a b = true → a.length = b.length
  | [], [], _ => rfl
  | _ :: _, [], h => by cases h
  | [], _ :: _, h => by cases h
  | x :: a, y :: b, h => by
    have h' : (eqV x y && eqVs a b) = true := h
    have := eqVs_len (Bool.and_eq_true_iff.mp h').2
    simp [this]
mutual
theorem eqD_plain (S : Sto) : ∀ (n : Nat) (x y : D), plain x = true → plain y = true → dpt x ≤ n → eqD S n x y = some (eqV x y)
  | 0, x, _, _, _, h => by cases x <;> simp [dpt] at h
  | n + 1, .non, y, _, py, h => by cases y <;> first | rfl | cases py
  | n + 1, .bl a, y, _, py, h => by cases y <;> first | rfl | cases py
  | n + 1, .int a, y, _, py, h => by cases y <;> first | rfl | cases py
  | n + 1, .str a, y, _, py, h => by cases y <;> first | rfl | cases py
  | n + 1, .tup a, y, px, py, h => by
    cases y with
    | tup b =>
      have e := eqDs_plain S n a b px py (by simp [dpt] at h; omega)
      simp only [eqD, eqV, e, eqVs_eq]
    | obj i => cases py
    | _ => rfl
  | n + 1, .obj i, _, px, _, _ => by cases px
theorem eqDs_plain (S : Sto) : ∀ (n : Nat) (x y : List D), plains x = true → plains y = true → dpts x ≤ n → eqDs S n x y = some (eqVp x y)
  | 0, x, _, _, _, h => by cases x <;> simp [dpts] at h
  | n + 1, [], y, _, py, h => by cases y <;> rfl
  | n + 1, x :: xs, [], _, _, _ => rfl
  | n + 1, x :: xs, y :: ys, px, py, h => by
    obtain ⟨p1, p2⟩ := Bool.and_eq_true_iff.mp (show (plain x && plains xs) = true from px)
    obtain ⟨q1, q2⟩ := Bool.and_eq_true_iff.mp (show (plain y && plains ys) = true from py)
    have hh : max (dpt x) (dpts xs) + 1 ≤ n + 1 := h
    simp only [eqDs, eqD_plain S n x y p1 q1 (by omega), eqDs_plain S n xs ys p2 q2 (by omega)]
    rfl
end
end LA.Pu

/-! One step a form. -/
namespace LA.Pu

def wkM (d : D) : M (Wk × Option Nat) := fun S => match wkOf S d with
    | some w => some (.ok (w, none), S)
    | none => match d with
      | .obj i => (match S[i]? with
        | some (.dct kvs _) => M.bind (lockD i true) (fun _ => M.pure (.items (kvs.map fun kv => ofKy kv.1), some i)) S
        | _ => none)
      | _ => none
def itemsM (d : D) : M (Wk × Option Nat) := fun S => match d with
    | .obj i => (match S[i]? with
      | some (.dct kvs _) => M.bind (lockD i true) (fun _ => M.pure (.items (kvs.map fun kv => .tup [ofKy kv.1, kv.2]), some i)) S
      | _ => none)
    | _ => none
def enumM (d : D) : M (Wk × Option Nat) := fun S => match d with
    | .tup xs => some (.ok (.items (numD xs), none), S)
    | .obj i => (match S[i]? with
      | some (.lst xs _) => some (.ok (.enumL i xs.length, none), S)
      | _ => none)
    | _ => none
@[simp] theorem wk_tup {xs : List D} {S : Sto} {K : R (Wk × Option Nat) → Sto → Prop} : wp (wkM (.tup xs)) S K = K (.ok (.items xs, none)) S := rfl
@[simp] theorem wk_str {x : List Nat} {S : Sto} {K : R (Wk × Option Nat) → Sto → Prop} : wp (wkM (.str x)) S K = K (.ok (.items (x.map fun c => .str [c]), none)) S := rfl
theorem wk_lst {i : Nat} {xs : List D} {b : Bool} {S : Sto} {K : R (Wk × Option Nat) → Sto → Prop} (h : S[i]? = some (.lst xs b)) : wp (wkM (.obj i)) S K = K (.ok (.lst i xs.length, none)) S := by
  simp only [wq, wkM, wkOf, h, ap_some]
theorem wk_dct {i : Nat} {xs : List (Ky × D)} {S : Sto} {K : R (Wk × Option Nat) → Sto → Prop} (h : S[i]? = some (.dct xs false)) : wp (wkM (.obj i)) S K = K (.ok (.items (xs.map fun kv => ofKy kv.1), some i)) (S.set i (.dct xs true)) := by
  simp [wq, wkM, wkOf, h, M.bind, lockD]
theorem items_dct {i : Nat} {xs : List (Ky × D)} {S : Sto} {K : R (Wk × Option Nat) → Sto → Prop} (h : S[i]? = some (.dct xs false)) : wp (itemsM (.obj i)) S K = K (.ok (.items (xs.map fun kv => .tup [ofKy kv.1, kv.2]), some i)) (S.set i (.dct xs true)) := by
  simp [wq, itemsM, h, M.bind, lockD]
@[simp] theorem enum_tup {xs : List D} {S : Sto} {K : R (Wk × Option Nat) → Sto → Prop} : wp (enumM (.tup xs)) S K = K (.ok (.items (numD xs), none)) S := rfl

section
variable {pg : Pg} {cl : Nat → List D → M D} {σ : En} {S : Sto}
@[simp] theorem wE_con {d : D} {K : R D → Sto → Prop} : wp (evE pg cl σ (.con d)) S K = K (.ok d) S := by simp only [evE, wp_pure]
@[simp] theorem wE_loc {i : Nat} {K : R D → Sto → Prop} : wp (evE pg cl σ (.loc i)) S K = (match σ[i]? with | some (some d) => K (.ok d) S | _ => False) := by
  simp only [evE]
  cases σ[i]? with
  | none => rfl
  | some o => cases o <;> rfl
@[simp] theorem wE_tup {es : Es} {K : R D → Sto → Prop} : wp (evE pg cl σ (.tup es)) S K = wp (evEs pg cl σ es) S (bk (fun xs => if xs.length ≤ sizeL then M.pure (.tup xs) else M.stuck) K) := by simp only [evE, wp_bind, wp_noEx]; try rfl
@[simp] theorem wE_lst {es : Es} {K : R D → Sto → Prop} : wp (evE pg cl σ (.lst es)) S K = wp (evEs pg cl σ es) S (bk (fun xs => if xs.length ≤ sizeL then new (.lst xs false) else M.stuck) K) := by simp only [evE, wp_bind, wp_noEx]; try rfl
@[simp] theorem wE_dic {es : Es} {K : R D → Sto → Prop} : wp (evE pg cl σ (.dic es)) S K = wp (new (.dct [] false)) S (bk (fun r => M.bind (evEs pg cl σ es) fun xs => fillD r xs) K) := by simp only [evE, wp_bind, wp_noEx]; try rfl
@[simp] theorem wE_chk {e : E} {K : R D → Sto → Prop} : wp (evE pg cl σ (.chk e)) S K = wp (evE pg cl σ e) S (bk (fun d => match d with | .int i => M.pure (.int i) | _ => M.stuck) K) := by simp only [evE, wp_bind, wp_noEx]; try rfl
@[simp] theorem wE_fld {e : E} {a : Nat} {K : R D → Sto → Prop} : wp (evE pg cl σ (.fld e a)) S K = wp (evE pg cl σ e) S (bk (fun d => fldD pg cl d a) K) := by simp only [evE, wp_bind, wp_noEx]; try rfl
@[simp] theorem wE_idx {e i : E} {K : R D → Sto → Prop} : wp (evE pg cl σ (.idx e i)) S K = wp (evE pg cl σ e) S (bk (fun d => M.bind (evE pg cl σ i) fun i => idxD d i) K) := by simp only [evE, wp_bind, wp_noEx]; try rfl
@[simp] theorem wE_slc {e lo hi : E} {K : R D → Sto → Prop} : wp (evE pg cl σ (.slc e lo hi)) S K = wp (evE pg cl σ e) S (bk (fun d => M.bind (evE pg cl σ lo) fun lo => if okB lo then M.bind (evE pg cl σ hi) fun hi => if okB hi then slcD d lo hi else M.stuck else M.stuck) K) := by simp only [evE, wp_bind, wp_noEx]; try rfl
@[simp] theorem wE_rev {e : E} {K : R D → Sto → Prop} : wp (evE pg cl σ (.rev e)) S K = wp (evE pg cl σ e) S (bk (fun d => revD d) K) := by simp only [evE, wp_bind, wp_noEx]; try rfl
@[simp] theorem wE_bin {o : BO} {a b : E} {K : R D → Sto → Prop} : wp (evE pg cl σ (.bin o a b)) S K = wp (evE pg cl σ a) S (bk (fun a => M.bind (evE pg cl σ b) fun b => binD o a b) K) := by simp only [evE, wp_bind, wp_noEx]; try rfl
@[simp] theorem wE_cmp {o : CO} {a b : E} {K : R D → Sto → Prop} : wp (evE pg cl σ (.cmp o a b)) S K = wp (evE pg cl σ a) S (bk (fun a => M.bind (evE pg cl σ b) fun b => cmpD pg cl o a b) K) := by simp only [evE, wp_bind, wp_noEx]; try rfl
@[simp] theorem wE_cmp2 {o p : CO} {a b c : E} {K : R D → Sto → Prop} : wp (evE pg cl σ (.cmp2 o p a b c)) S K = wp (evE pg cl σ a) S (bk (fun a => M.bind (evE pg cl σ b) fun b => M.bind (cmpD pg cl o a b) fun r => match r with
    | .bl true => M.bind (evE pg cl σ c) fun c => cmpD pg cl p b c
    | .bl false => M.pure (.bl false)
    | _ => M.stuck) K) := by simp only [evE, wp_bind, wp_noEx]; try rfl
@[simp] theorem wE_and {a b : E} {K : R D → Sto → Prop} : wp (evE pg cl σ (.and a b)) S K = wp (evE pg cl σ a) S (bk (fun a => match a with
    | .bl true => evE pg cl σ b
    | .bl false => M.pure (.bl false)
    | _ => M.stuck) K) := by simp only [evE, wp_bind, wp_noEx]; try rfl
@[simp] theorem wE_or {a b : E} {K : R D → Sto → Prop} : wp (evE pg cl σ (.or a b)) S K = wp (evE pg cl σ a) S (bk (fun a => match a with
    | .bl true => M.pure (.bl true)
    | .bl false => evE pg cl σ b
    | _ => M.stuck) K) := by simp only [evE, wp_bind, wp_noEx]; try rfl
@[simp] theorem wE_not {a : E} {K : R D → Sto → Prop} : wp (evE pg cl σ (.not a)) S K = wp (evE pg cl σ a) S (bk (fun a => M.bind (truthM a) fun b => M.pure (.bl (!b))) K) := by simp only [evE, wp_bind, wp_noEx]; try rfl
@[simp] theorem wE_neg {a : E} {K : R D → Sto → Prop} : wp (evE pg cl σ (.neg a)) S K = wp (evE pg cl σ a) S (bk (fun a => match a with | .int i => M.pure (.int (-i)) | _ => M.stuck) K) := by simp only [evE, wp_bind, wp_noEx]; try rfl
@[simp] theorem wE_ite {c a b : E} {K : R D → Sto → Prop} : wp (evE pg cl σ (.ite c a b)) S K = wp (evE pg cl σ c) S (bk (fun c => M.bind (truthM c) fun t => if t then evE pg cl σ a else evE pg cl σ b) K) := by simp only [evE, wp_bind, wp_noEx]; try rfl
@[simp] theorem wE_call {f : Nat} {as : Es} {K : R D → Sto → Prop} : wp (evE pg cl σ (.call f as)) S K = wp (evEs pg cl σ as) S (bk (fun xs => cl f xs) K) := by simp only [evE, wp_bind, wp_noEx]; try rfl
@[simp] theorem wE_make {c : Nat} {as : Es} {K : R D → Sto → Prop} : wp (evE pg cl σ (.make c as)) S K = wp (evEs pg cl σ as) S (bk (fun xs => makeD pg cl c xs) K) := by simp only [evE, wp_bind, wp_noEx]; try rfl
@[simp] theorem wE_meth {o : E} {m : Nat} {as : Es} {K : R D → Sto → Prop} : wp (evE pg cl σ (.meth o m as)) S K = wp (evE pg cl σ o) S (bk (fun o => M.bind (methF pg o m) fun f => M.bind (evEs pg cl σ as) fun xs => cl f (o :: xs)) K) := by simp only [evE, wp_bind, wp_noEx]; try rfl
@[simp] theorem wE_bm {o : E} {m : BM} {as : Es} {K : R D → Sto → Prop} : wp (evE pg cl σ (.bm o m as)) S K = wp (evE pg cl σ o) S (bk (fun o => M.bind (recvD o m) fun _ => M.bind (evEs pg cl σ as) fun xs => bmD o m xs) K) := by simp only [evE, wp_bind, wp_noEx]; try rfl
@[simp] theorem wE_bi {b : BI} {as : Es} {K : R D → Sto → Prop} : wp (evE pg cl σ (.bi b as)) S K = wp (evEs pg cl σ as) S (bk (fun xs => biD b xs) K) := by simp only [evE, wp_bind, wp_noEx]; try rfl
@[simp] theorem wE_isin {e : E} {t : Ty} {K : R D → Sto → Prop} : wp (evE pg cl σ (.isin e t)) S K = wp (evE pg cl σ e) S (bk (fun d => isM pg d t) K) := by simp only [evE, wp_bind, wp_noEx]; try rfl
@[simp] theorem wE_lc {elt : E} {t : Tg} {it : I} {c : E} {vs : List Nat} {K : R D → Sto → Prop} : wp (evE pg cl σ (.lc elt t it c vs)) S K = wp (evI pg cl σ it) S (bk (fun w => M.bind (new (.lst [] false)) fun r => M.bind (loopC w.1 (fun d => M.bind (tgM t d (wipe σ vs)) fun σ' =>
      M.bind (evE pg cl σ' c) fun b => M.bind (truthM b) fun b => if b then M.bind (evE pg cl σ' elt) fun y => appO r y else M.pure ()) w.1.len 0) fun _ => M.bind (unlk w.2) fun _ => M.pure r) (nk K)) := by simp only [evE, wp_bind, wp_noEx]; try rfl
@[simp] theorem wE_lc2 {elt : E} {t : Tg} {it : I} {t2 : Tg} {it2 : I} {vs vs1 : List Nat} {K : R D → Sto → Prop} : wp (evE pg cl σ (.lc2 elt t it t2 it2 vs vs1)) S K = wp (evI pg cl σ it) S (bk (fun w => M.bind (new (.lst [] false)) fun r => M.bind (loopC w.1 (fun d => M.bind (tgM t d (wipe σ vs)) fun σ' =>
      M.bind (evI pg cl σ' it2) fun w2 => if w2.2.isNone then loopC w2.1 (fun d2 => M.bind (tgM t2 d2 (wipe σ' vs1)) fun σ2 => M.bind (evE pg cl σ2 elt) fun y => appO r y) w2.1.len 0 else M.stuck) w.1.len 0) fun _ => M.bind (unlk w.2) fun _ => M.pure r) (nk K)) := by simp only [evE, wp_bind, wp_noEx]; try rfl
@[simp] theorem wE_dc {k v : E} {t : Tg} {it : I} {vs : List Nat} {K : R D → Sto → Prop} : wp (evE pg cl σ (.dc k v t it vs)) S K = wp (evI pg cl σ it) S (bk (fun w => M.bind (new (.dct [] false)) fun r => M.bind (loopC w.1 (fun d => M.bind (tgM t d (wipe σ vs)) fun σ' =>
      M.bind (evE pg cl σ' k) fun k => M.bind (evE pg cl σ' v) fun v => putO r k v) w.1.len 0) fun _ => M.bind (unlk w.2) fun _ => M.pure r) (nk K)) := by simp only [evE, wp_bind, wp_noEx]; try rfl
@[simp] theorem wE_fstr {es : Es} {K : R D → Sto → Prop} : wp (evE pg cl σ (.fstr es)) S K = wp (evEs pg cl σ es) S (bk (fun xs => match allStr xs with
    | some z => if z.length ≤ sizeL then M.pure (.str z) else M.stuck
    | none => M.stuck) (nk K)) := by simp only [evE, wp_bind, wp_noEx]; try rfl
@[simp] theorem wEs_nil {K : R (List D) → Sto → Prop} : wp (evEs pg cl σ .nil) S K = K (.ok []) S := by simp only [evEs, wp_pure]
@[simp] theorem wEs_cons {e : E} {r : Es} {K : R (List D) → Sto → Prop} : wp (evEs pg cl σ (.cons false e r)) S K = wp (evE pg cl σ e) S (bk (fun d => M.bind (evEs pg cl σ r) fun ys => M.pure (d :: ys)) K) := by
  simp only [evEs, wp_bind]; rfl
@[simp] theorem wEs_star {e : E} {r : Es} {K : R (List D) → Sto → Prop} : wp (evEs pg cl σ (.cons true e r)) S K = wp (evE pg cl σ e) S (bk (fun d => M.bind (seqM d) fun xs => M.bind (evEs pg cl σ r) fun ys => M.pure (xs ++ ys)) K) := by
  simp only [evEs, wp_bind]; rfl
@[simp] theorem wI_ex {e : E} {K : R (Wk × Option Nat) → Sto → Prop} : wp (evI pg cl σ (.ex e)) S K = wp (evE pg cl σ e) S (bk wkM K) := by
  simp only [evI, wp_bind]; rfl
@[simp] theorem wI_range {e : E} {K : R (Wk × Option Nat) → Sto → Prop} : wp (evI pg cl σ (.range e)) S K = wp (evE pg cl σ e) S (bk (fun d => match d with
    | .int n => if -1000000 < n ∧ n < 1000000 then M.pure (.items (rangeD 0 n), none) else M.stuck
    | _ => M.stuck) K) := by
  simp only [evI, wp_bind]; try rfl
@[simp] theorem wI_items {e : E} {K : R (Wk × Option Nat) → Sto → Prop} : wp (evI pg cl σ (.items e)) S K = wp (evE pg cl σ e) S (bk itemsM K) := by
  simp only [evI, wp_bind]; rfl
@[simp] theorem wI_enum {e : E} {K : R (Wk × Option Nat) → Sto → Prop} : wp (evI pg cl σ (.enum e)) S K = wp (evE pg cl σ e) S (bk enumM K) := by
  simp only [evI, wp_bind]; rfl
@[simp] theorem wI_zip {a b : E} {K : R (Wk × Option Nat) → Sto → Prop} : wp (evI pg cl σ (.zip a b)) S K = wp (evE pg cl σ a) S (bk (fun a => M.bind (evE pg cl σ b) fun b => match a, b with
    | .tup xs, .tup ys => M.pure (.items (zipD xs ys), none)
    | _, _ => M.stuck) K) := by
  simp only [evI, wp_bind]; try rfl
variable {N : Nat} {K : Fl → Sto → Prop}
@[simp] theorem wCs_nil : wp (evCs pg cl N σ .nil) S K = K (.nx σ) S := by simp only [evCs]; rfl
@[simp] theorem wCs_cons {c : C} {r : Cs} : wp (evCs pg cl N σ (.cons c r)) S K = wp (evC pg cl N σ c) S (sk (fun σ' => evCs pg cl N σ' r) K) := by simp only [evCs, wp_sb]
@[simp] theorem wC_asg {t : Tg} {e : E} : wp (evC pg cl N σ (.asg t e)) S K = wp (evE pg cl σ e) S (ik σ (fun d => M.inS σ (tgM t d σ) fun σ' => fun S => some (.nx σ', S)) K) := by simp only [evC, wp_inS]
@[simp] theorem wC_asgF {o e : E} {a : Nat} : wp (evC pg cl N σ (.asgF o a e)) S K = wp (evE pg cl σ e) S (ik σ (fun v => M.inS σ (evE pg cl σ o) fun o => M.inS σ (setF pg o a v) fun _ => fun S => some (.nx σ, S)) K) := by simp only [evC, wp_inS]
@[simp] theorem wC_asgI {o i e : E} : wp (evC pg cl N σ (.asgI o i e)) S K = wp (evE pg cl σ e) S (ik σ (fun v => M.inS σ (evE pg cl σ o) fun o => M.inS σ (evE pg cl σ i) fun i => M.inS σ (setI o i v) fun _ => fun S => some (.nx σ, S)) K) := by simp only [evC, wp_inS]
@[simp] theorem wC_augF {o e : E} {a : Nat} : wp (evC pg cl N σ (.augF o a e)) S K = wp (evE pg cl σ o) S (ik σ (fun o => M.inS σ (clsM o) fun c0 => M.inS σ (getF pg o a) fun x => M.inS σ (evE pg cl σ e) fun y => M.inS σ (clsM o) fun c1 => M.inS σ (addI x y) fun z =>
      if c0 = c1 then M.inS σ (setF pg o a z) fun _ => fun S => some (.nx σ, S) else fun _ => none) K) := by simp only [evC, wp_inS]
@[simp] theorem wC_ex {e : E} : wp (evC pg cl N σ (.ex e)) S K = wp (evE pg cl σ e) S (ik σ (fun _ => fun S => some (.nx σ, S)) K) := by simp only [evC, wp_inS]
@[simp] theorem wC_ret {e : E} : wp (evC pg cl N σ (.ret e)) S K = wp (evE pg cl σ e) S (ik σ (fun d => fun S => some (.rt d, S)) K) := by simp only [evC, wp_inS]
@[simp] theorem wC_ite {c : E} {a b : Cs} : wp (evC pg cl N σ (.ite c a b)) S K = wp (evE pg cl σ c) S (ik σ (fun d => M.inS σ (truthM d) fun t => if t then evCs pg cl N σ a else evCs pg cl N σ b) K) := by simp only [evC, wp_inS]
@[simp] theorem wC_pass : wp (evC pg cl N σ .pass) S K = K (.nx σ) S := by simp only [evC]; rfl
@[simp] theorem wC_whl {c : E} {b : Cs} : wp (evC pg cl N σ (.whl c b)) S K = wp (whileI (fun σ => M.bind (evE pg cl σ c) truthM) (fun σ => evCs pg cl N σ b) N σ) S K := by simp only [evC]
/-- a for loop's end -/
def lkk (i : Nat) (K : Fl → Sto → Prop) : Fl → Sto → Prop := fun r S' => match r with
  | .nx σ' => wp (lockD i false) S' (nk fun _ S'' => K (.nx σ') S'')
  | .rt d => wp (lockD i false) S' (nk fun _ S'' => K (.rt d) S'')
  | r => K r S'
def forL (i : Nat) (m : SM) : SM := fun S => match m S with
      | some (.nx σ', S') => (match lockD i false S' with
        | some (.ok _, S'') => some (.nx σ', S'')
        | _ => none)
      | some (.rt d, S') => (match lockD i false S' with
        | some (.ok _, S'') => some (.rt d, S'')
        | _ => none)
      | r => r
@[simp] theorem wC_for {t : Tg} {it : I} {b : Cs} : wp (evC pg cl N σ (.for_ t it b)) S K = wp (evI pg cl σ it) S (ik σ (fun w => match w.2 with
    | none => loopI w.1 (fun d σ => M.inS σ (tgM t d σ) fun σ' => evCs pg cl N σ' b) w.1.len 0 σ
    | some i => forL i (loopI w.1 (fun d σ => M.inS σ (tgM t d σ) fun σ' => evCs pg cl N σ' b) w.1.len 0 σ)) K) := by simp only [evC, wp_inS]; rfl
@[simp] theorem wp_forL {m : SM} {i : Nat} : wp (forL i m) S K = wp m S (lkk i K) := by
  unfold wp ap forL lkk nk
  rcases m S with _ | ⟨σ' | d | ⟨c, fs, σ'⟩, S'⟩
  · rfl
  · show ap (match lockD i false S' with | some (.ok _, S'') => some (Fl.nx σ', S'') | _ => none) K = wp (lockD i false) S' _
    unfold wp
    rcases lockD i false S' with _ | ⟨a | ⟨c, fs⟩, S''⟩ <;> rfl
  · show ap (match lockD i false S' with | some (.ok _, S'') => some (Fl.rt d, S'') | _ => none) K = wp (lockD i false) S' _
    unfold wp
    rcases lockD i false S' with _ | ⟨a | ⟨c, fs⟩, S''⟩ <;> rfl
  · rfl
def raiseM (pg : Pg) (σ : En) (c : Nat) (xs : List D) : SM := fun S => match pg.exs[c]? with
    | some ci => (match ci.exf with
      | some m => (match exFs xs m with
        | some fs => some (.ex c fs σ, S)
        | none => none)
      | none => none)
    | none => none
@[simp] theorem wC_raise {c : Nat} {as : Es} : wp (evC pg cl N σ (.raise c as)) S K = wp (evEs pg cl σ as) S (ik σ (fun xs => raiseM pg σ c xs) K) := by simp only [evC, wp_inS]; rfl
theorem wp_raise {c : Nat} {xs : List D} {ci : ExI} {m : Nat × List (Nat × Nat)} {fs : List (Nat × D)} (h1 : pg.exs[c]? = some ci) (h2 : ci.exf = some m) (h3 : exFs xs m = some fs) : wp (raiseM pg σ c xs) S K = K (.ex c fs σ) S := by
  simp only [wq, raiseM, h1, h2, h3, ap_some]
/-- behind a try's suite -/
def tk (pg : Pg) (hs : List (Nat × Option Nat × Nat × SX)) (K : Fl → Sto → Prop) : Fl → Sto → Prop := fun r S' => match r with
  | .ex c fs σ' => wp (evH pg σ' c fs hs) S' K
  | r => K r S'
@[simp] theorem tk_nx {hs} {σ' : En} : tk pg hs K (.nx σ') S = K (.nx σ') S := rfl
@[simp] theorem tk_rt {hs} {d : D} : tk pg hs K (.rt d) S = K (.rt d) S := rfl
@[simp] theorem tk_ex {hs} {c fs} {σ' : En} : tk pg hs K (.ex c fs σ') S = wp (evH pg σ' c fs hs) S K := rfl
@[simp] theorem wC_try {b : Cs} {hs} : wp (evC pg cl N σ (.try_ b hs)) S K = wp (evCs pg cl N σ b) S (tk pg hs K) := by
  unfold wp ap tk
  simp only [evC]
  rcases evCs pg cl N σ b S with _ | ⟨σ' | d | ⟨c, fs, σ'⟩, S'⟩ <;> rfl
end
end LA.Pu

/-! Operations on plain values. -/
namespace LA.Pu
section
variable {pg : Pg} {cl : Nat → List D → M D} {S : Sto} {K : R D → Sto → Prop}
@[simp] theorem truth_bl {b : Bool} : truth S (.bl b) = some b := rfl
@[simp] theorem truth_non : truth S .non = some false := rfl
@[simp] theorem truth_int {i : Int} : truth S (.int i) = some (decide (i ≠ 0)) := rfl
@[simp] theorem truth_tup {xs : List D} : truth S (.tup xs) = some (!xs.isEmpty) := rfl
@[simp] theorem isTy_int {i : Int} {t : Ty} : isTy pg S (.int i) t = some (decide (t = .int)) := rfl
@[simp] theorem isTy_bl {i : Bool} {t : Ty} : isTy pg S (.bl i) t = some (decide (t = .int ∨ t = .bool)) := rfl
@[simp] theorem isTy_str {i : List Nat} {t : Ty} : isTy pg S (.str i) t = some (decide (t = .str)) := rfl
@[simp] theorem isTy_tup {i : List D} {t : Ty} : isTy pg S (.tup i) t = some (decide (t = .tuple)) := rfl
@[simp] theorem isTy_non {t : Ty} : isTy pg S .non t = some false := rfl
theorem isTy_dct {i : Nat} {kvs : List (Ky × D)} {lk : Bool} {t : Ty} (h : S[i]? = some (.dct kvs lk)) : isTy pg S (.obj i) t = some (decide (t = .dict)) := by simp [isTy, h]
theorem isTy_lst {i : Nat} {xs : List D} {t : Ty} (h : S[i]? = some (.lst xs false)) : isTy pg S (.obj i) t = some (decide (t = .list)) := by simp [isTy, h]
@[simp] theorem eqD_ii {a b : Int} : eqD S deep (.int a) (.int b) = some (decide (a = b)) := rfl
@[simp] theorem eqD_ss {a b : List Nat} : eqD S deep (.str a) (.str b) = some (decide (a = b)) := rfl
@[simp] theorem eqD_si {a : List Nat} {b : Int} : eqD S deep (.str a) (.int b) = some false := rfl
@[simp] theorem eqD_is {a : List Nat} {b : Int} : eqD S deep (.int b) (.str a) = some false := rfl
@[simp] theorem eqD_tt {a b : List D} : eqD S deep (.tup a) (.tup b) = (match eqDs S 99 a b with | some r => some (r && a.length == b.length) | none => none) := rfl
@[simp] theorem cmp_eq_ii {a b : Int} : wp (cmpD pg cl .eq (.int a) (.int b)) S K = K (.ok (.bl (decide (a = b)))) S := rfl
@[simp] theorem cmp_eq_ss {a b : List Nat} : wp (cmpD pg cl .eq (.str a) (.str b)) S K = K (.ok (.bl (decide (a = b)))) S := rfl
@[simp] theorem cmp_eq_si {a : List Nat} {b : Int} : wp (cmpD pg cl .eq (.str a) (.int b)) S K = K (.ok (.bl false)) S := rfl
@[simp] theorem cmp_eq_is {a : List Nat} {b : Int} : wp (cmpD pg cl .eq (.int b) (.str a)) S K = K (.ok (.bl false)) S := rfl
@[simp] theorem cmp_ne_ii {a b : Int} : wp (cmpD pg cl .ne (.int a) (.int b)) S K = K (.ok (.bl (!decide (a = b)))) S := rfl
@[simp] theorem cmp_ne_ss {a b : List Nat} : wp (cmpD pg cl .ne (.str a) (.str b)) S K = K (.ok (.bl (!decide (a = b)))) S := rfl
@[simp] theorem cmp_ne_is {a : List Nat} {b : Int} : wp (cmpD pg cl .ne (.int b) (.str a)) S K = K (.ok (.bl true)) S := rfl
@[simp] theorem cmp_lt {i j : Int} : wp (cmpD pg cl .lt (.int i) (.int j)) S K = K (.ok (.bl (decide (i < j)))) S := rfl
@[simp] theorem cmp_le {i j : Int} : wp (cmpD pg cl .le (.int i) (.int j)) S K = K (.ok (.bl (decide (i ≤ j)))) S := rfl
@[simp] theorem cmp_gt {i j : Int} : wp (cmpD pg cl .gt (.int i) (.int j)) S K = K (.ok (.bl (decide (j < i)))) S := rfl
@[simp] theorem cmp_ge {i j : Int} : wp (cmpD pg cl .ge (.int i) (.int j)) S K = K (.ok (.bl (decide (j ≤ i)))) S := rfl
@[simp] theorem cmp_lts {i j : List Nat} : wp (cmpD pg cl .lt (.str i) (.str j)) S K = K (.ok (.bl (ltL i j))) S := rfl
@[simp] theorem cmp_isN {a : D} : wp (cmpD pg cl .isN a .non) S K = K (.ok (.bl (isNonD a))) S := rfl
@[simp] theorem cmp_notN {a : D} : wp (cmpD pg cl .notN a .non) S K = K (.ok (.bl (!isNonD a))) S := rfl
@[simp] theorem cmp_in_tup {a : D} {ys : List D} : wp (cmpD pg cl .in_ a (.tup ys)) S K = (match inSeq S a ys with | some r => K (.ok (.bl r)) S | none => False) := by
  show ap (match inSeq S a ys with | some r => some (.ok (.bl r), S) | none => none) K = _
  cases inSeq S a ys <;> rfl
@[simp] theorem cmp_eq_nil {x : D} {xs : List D} : wp (cmpD pg cl .eq (.tup (x :: xs)) (.tup [])) S K = K (.ok (.bl false)) S := rfl
@[simp] theorem cmp_ne_nil {x : D} {xs : List D} : wp (cmpD pg cl .ne (.tup (x :: xs)) (.tup [])) S K = K (.ok (.bl true)) S := rfl
@[simp] theorem cmp_eq_nn : wp (cmpD pg cl .eq (.tup []) (.tup [])) S K = K (.ok (.bl true)) S := rfl
@[simp] theorem cmp_ne_nn : wp (cmpD pg cl .ne (.tup []) (.tup [])) S K = K (.ok (.bl false)) S := rfl
@[simp] theorem slc_tail {xs : List D} : wp (slcD (.tup xs) (.int 1) .non) S K = K (.ok (.tup xs.tail)) S := by
  have e : cut xs (.int 1) .non = some xs.tail := by
    cases xs with
    | nil => rfl
    | cons a r => simp [cut, sIx]
  simp only [wq, slcD, e, ap_some]
theorem slc_upto {n : Nat} {xs : List D} (hn : n ≤ xs.length) : wp (slcD (.tup xs) .non (.int n)) S K = K (.ok (.tup (xs.take n))) S := by
  simp [wq, slcD, cut, sIx, Nat.min_eq_left hn, show ¬ ((n : Int) < 0) by omega]
theorem cmp_in_lst {a : D} {j : Nat} {ys : List D} {b : Bool} (h : S[j]? = some (.lst ys b)) : wp (cmpD pg cl .in_ a (.obj j)) S K = (match inSeq S a ys with | some r => K (.ok (.bl r)) S | none => False) := by
  show ap (cmpD.inD a (.obj j) S) K = _
  unfold cmpD.inD
  simp only [h]
  cases inSeq S a ys <;> rfl
theorem cmp_in_dct {a : D} {k : Ky} {j : Nat} {ys : List (Ky × D)} {b : Bool} (h : S[j]? = some (.dct ys b)) (hk : toKy a = some k) : wp (cmpD pg cl .in_ a (.obj j)) S K = K (.ok (.bl (lookK k ys).isSome)) S := by
  show ap (cmpD.inD a (.obj j) S) K = _
  unfold cmpD.inD
  simp only [h, hk, ap_some]
theorem cmp_nin_dct {a : D} {k : Ky} {j : Nat} {ys : List (Ky × D)} {b : Bool} (h : S[j]? = some (.dct ys b)) (hk : toKy a = some k) : wp (cmpD pg cl .nin a (.obj j)) S K = K (.ok (.bl (!(lookK k ys).isSome))) S := by
  show wp (M.bind (cmpD.inD a (.obj j)) _) S K = _
  rw [wp_bind]
  show ap (cmpD.inD a (.obj j) S) _ = _
  unfold cmpD.inD
  simp only [h, hk, ap_some]
  rfl
@[simp] theorem cmp_nin_tup {a : D} {ys : List D} : wp (cmpD pg cl .nin a (.tup ys)) S K = (match inSeq S a ys with | some r => K (.ok (.bl (!r))) S | none => False) := by
  show wp (M.bind (cmpD.inD a (.tup ys)) _) S K = _
  rw [wp_bind]
  show ap (cmpD.inD a (.tup ys) S) _ = _
  unfold cmpD.inD
  simp only
  cases inSeq S a ys <;> rfl
@[simp] theorem cmp_in_str {c : Nat} {y : List Nat} : wp (cmpD pg cl .in_ (.str [c]) (.str y)) S K = K (.ok (.bl (decide (c ∈ y)))) S := rfl
/-- plain values -/
theorem cmp_eq_p {a b : D} (ha : plain a = true) (hb : plain b = true) (hd : dpt a ≤ 100) : wp (cmpD pg cl .eq a b) S K = K (.ok (.bl (eqV a b))) S := by
  have e := eqD_plain S 100 a b ha hb hd
  have e' : eqD S deep a b = some (eqV a b) := e
  have o : ownF pg (·.eqf) a S = none := by cases a <;> first | rfl | cases ha
  have t : eqT S a b = some (eqV a b) := by cases a <;> first | exact e | cases ha
  show ap (cmpD pg cl .eq a b S) K = _
  unfold cmpD
  simp only [o, t, ap_some]
theorem cmp_ne_p {a b : D} (ha : plain a = true) (hb : plain b = true) (hd : dpt a ≤ 100) : wp (cmpD pg cl .ne a b) S K = K (.ok (.bl (!eqV a b))) S := by
  have e := eqD_plain S 100 a b ha hb hd
  have e' : eqD S deep a b = some (eqV a b) := e
  have o : ownF pg (·.eqf) a S = none := by cases a <;> first | rfl | cases ha
  show ap (cmpD pg cl .ne a b S) K = _
  unfold cmpD
  simp only [o, e', ap_some]
@[simp] theorem inSeq_nil {x : D} : inSeq S x [] = some false := rfl
theorem inSeq_p {x : D} (hx : plain x = true) : ∀ {ys : List D}, plains ys = true → (∀ y ∈ ys, dpt y ≤ 100) → inSeq S x ys = some (ys.any fun y => eqV y x)
  | [], _, _ => rfl
  | y :: r, h, hd => by
    obtain ⟨h1, h2⟩ := Bool.and_eq_true_iff.mp (show (plain y && plains r) = true from h)
    have e := eqD_plain S 100 y x h1 hx (hd y (by simp))
    have e' : eqD S deep y x = some (eqV y x) := e
    simp only [inSeq, e', inSeq_p hx h2 (fun y m => hd y (by simp [m])), List.any_cons]
/-! ints -/
@[simp] theorem bin_add_ii {i j : Int} : wp (binD .add (.int i) (.int j)) S K = K (.ok (.int (i + j))) S := rfl
@[simp] theorem bin_sub_ii {i j : Int} : wp (binD .sub (.int i) (.int j)) S K = K (.ok (.int (i - j))) S := rfl
theorem bin_mod {i j : Int} (h : 0 < j) : wp (binD .mod (.int i) (.int j)) S K = K (.ok (.int (i % j))) S := by simp [wq, binD, h]
theorem bin_fdiv {i j : Int} (h : 0 < j) (h2 : j < 1073741824) : wp (binD .fdiv (.int i) (.int j)) S K = K (.ok (.int (i / j))) S := by simp [wq, binD, h, h2]
@[simp] theorem mul_l {i : Int} : wp (binD .mul (.int i) (.int 48271)) S K = K (.ok (.int (i * 48271))) S := by simp [wq, binD]
@[simp] theorem mul_r {i : Int} : wp (binD .mul (.int i) (.int 69621)) S K = K (.ok (.int (i * 69621))) S := by simp [wq, binD]
@[simp] theorem mul_s {i : Int} : wp (binD .mul (.int i) (.int 16807)) S K = K (.ok (.int (i * 16807))) S := by simp [wq, binD]
@[simp] theorem pow_c : wp (binD .pow (.int 10) (.int 18)) S K = K (.ok (.int 1000000000000000000)) S := rfl
@[simp] theorem bi_int {i : Int} : wp (biD .int [.int i]) S K = K (.ok (.int i)) S := rfl
@[simp] theorem bi_intb {b : Bool} : wp (biD .int [.bl b]) S K = K (.ok (.int (b2i b))) S := rfl
@[simp] theorem bi_strs {x : List Nat} : wp (biD .str [.str x]) S K = K (.ok (.str x)) S := rfl
@[simp] theorem bi_max {i j : Int} : wp (biD .max [.int i, .int j]) S K = K (.ok (.int (if j > i then j else i))) S := rfl
@[simp] theorem bi_min {i j : Int} : wp (biD .min [.int i, .int j]) S K = K (.ok (.int (if j < i then j else i))) S := rfl
@[simp] theorem bi_lent {xs : List D} : wp (biD .len [.tup xs]) S K = K (.ok (.int xs.length)) S := rfl
theorem bi_lens {x : List Nat} (h : x.length ≤ sizeL) : wp (biD .len [.str x]) S K = K (.ok (.int x.length)) S := by simp [wq, biD, h]
theorem bi_lenl {i : Nat} {xs : List D} {b : Bool} (h : S[i]? = some (.lst xs b)) : wp (biD .len [.obj i]) S K = K (.ok (.int xs.length)) S := by simp [wq, biD, h]
theorem bi_lend {i : Nat} {xs : List (Ky × D)} (h : S[i]? = some (.dct xs false)) : wp (biD .len [.obj i]) S K = K (.ok (.int xs.length)) S := by simp [wq, biD, h]
@[simp] theorem bi_tupt {xs : List D} : wp (biD .tuple [.tup xs]) S K = K (.ok (.tup xs)) S := rfl
theorem bi_tupl {i : Nat} {xs : List D} {b : Bool} (h : S[i]? = some (.lst xs b)) : wp (biD .tuple [.obj i]) S K = K (.ok (.tup xs)) S := by simp [wq, biD, seqOf, h]
@[simp] theorem bi_listt {xs : List D} : wp (biD .list [.tup xs]) S K = K (.ok (.obj S.length)) (S ++ [.lst xs false]) := rfl
theorem bi_listl {i : Nat} {xs : List D} {b : Bool} (h : S[i]? = some (.lst xs b)) : wp (biD .list [.obj i]) S K = K (.ok (.obj S.length)) (S ++ [.lst xs false]) := by simp [wq, biD, seqOf, h, new]
theorem bi_listd {i : Nat} {xs : List (Ky × D)} {b : Bool} (h : S[i]? = some (.dct xs b)) : wp (biD .list [.obj i]) S K = K (.ok (.obj S.length)) (S ++ [.lst (xs.map fun kv => ofKy kv.1) false]) := by simp [wq, biD, seqOf, h, new]
theorem bi_dict {i : Nat} {xs : List (Ky × D)} {b : Bool} (h : S[i]? = some (.dct xs b)) : wp (biD .dict [.obj i]) S K = K (.ok (.obj S.length)) (S ++ [.dct xs false]) := by simp [wq, biD, h, new]
theorem bi_sortl {i : Nat} {xs ys : List D} {b : Bool} (h : S[i]? = some (.lst xs b)) (g : sortD xs = some ys) : wp (biD .sorted [.obj i]) S K = K (.ok (.obj S.length)) (S ++ [.lst ys false]) := by simp [wq, biD, h, g, new]
theorem bi_sortd {i : Nat} {xs : List (Ky × D)} {ys : List D} {b : Bool} (h : S[i]? = some (.dct xs b)) (g : sortD (xs.map fun kv => ofKy kv.1) = some ys) : wp (biD .sorted [.obj i]) S K = K (.ok (.obj S.length)) (S ++ [.lst ys false]) := by simp only [wq, biD, h, g]; rfl
theorem bin_add_tt {x y : List D} (h : x.length + y.length ≤ sizeL) : wp (binD .add (.tup x) (.tup y)) S K = K (.ok (.tup (x ++ y))) S := by simp [wq, binD, h]
theorem bin_add_ss {x y : List Nat} (h : x.length + y.length ≤ sizeL) : wp (binD .add (.str x) (.str y)) S K = K (.ok (.str (x ++ y))) S := by simp [wq, binD, h]
theorem bin_add_ll {i j : Nat} {x y : List D} (h1 : S[i]? = some (.lst x false)) (h2 : S[j]? = some (.lst y false)) (h : x.length + y.length ≤ sizeL) : wp (binD .add (.obj i) (.obj j)) S K = K (.ok (.obj S.length)) (S ++ [.lst (x ++ y) false]) := by simp [wq, binD, h1, h2, h, new]
theorem fillD_at {i : Nat} {xs : List D} {kvs : List (Ky × D)} (h : S[i]? = some (.dct [] false)) (g : dicD xs [] = some kvs) (hl : xs.length ≤ 30) : ap (fillD (.obj i) xs S) K = K (.ok (.obj i)) (S.set i (.dct kvs false)) := by simp [fillD, h, g, hl]
@[simp] theorem okB_non : okB .non = true := rfl
@[simp] theorem okB_int {i : Int} : okB (.int i) = true := rfl
theorem slc_take {j n : Nat} {xs : List D} {b : Bool} (h : S[j]? = some (.lst xs b)) (hn : n ≤ xs.length) : wp (slcD (.obj j) .non (.int n)) S K = K (.ok (.obj S.length)) (S ++ [.lst (xs.take n) false]) := by
  simp [wq, slcD, h, cut, sIx, new, Nat.min_eq_left hn, show ¬ ((n : Int) < 0) by omega]
theorem setI_dct {K : R Unit → Sto → Prop} {j : Nat} {kvs : List (Ky × D)} {a v : D} {k : Ky} (h : S[j]? = some (.dct kvs false)) (hk : toKy a = some k) (hl : kvs.length < 1000) : ap (setI (.obj j) a v S) K = K (.ok ()) (S.set j (.dct (putK k v kvs) false)) := by simp [setI, h, hk, hl]
/-- every item a bool -/
theorem allB_map {l : List Bool} : biD.allB (l.map D.bl) S = some (.ok (.bl (l.all id)), S) := by
  induction l with
  | nil => rfl
  | cons b r ih =>
    show biD.allB (.bl b :: r.map D.bl) S = _
    unfold biD.allB
    rw [ih]
    cases b <;> simp
theorem bi_all {i : Nat} {l : List Bool} {b : Bool} (h : S[i]? = some (.lst (l.map D.bl) b)) : wp (biD .all [.obj i]) S K = K (.ok (.bl (l.all id))) S := by
  simp [wq, biD, h, allB_map]
theorem bi_allM {α : Type} {i : Nat} {l : List α} {f : α → Bool} {b c : Bool} (h : S[i]? = some (.lst (l.map fun a => .bl (f a)) b)) (hc : l.all f = c) : wp (biD .all [.obj i]) S K = K (.ok (.bl c)) S := by
  have e : (l.map fun a => D.bl (f a)) = (l.map f).map D.bl := by rw [List.map_map]; rfl
  rw [e] at h
  rw [bi_all h, ← hc]
  simp
@[simp] theorem idx_t0 {a : D} {r : List D} : wp (idxD (.tup (a :: r)) (.int 0)) S K = K (.ok a) S := by simp [wq, idxD, atI, ixN]
@[simp] theorem idx_t1 {a b : D} {r : List D} : wp (idxD (.tup (a :: b :: r)) (.int 1)) S K = K (.ok b) S := by
  have : (1 : Int) < ((a :: b :: r).length : Int) := by simp; omega
  simp only [wq, idxD, atI, ixN, this]; rfl
@[simp] theorem idx_t2 {a b c : D} {r : List D} : wp (idxD (.tup (a :: b :: c :: r)) (.int 2)) S K = K (.ok c) S := by
  have : (2 : Int) < ((a :: b :: c :: r).length : Int) := by simp; omega
  simp only [wq, idxD, atI, ixN, this]; rfl
@[simp] theorem idx_t3 {a b c d : D} {r : List D} : wp (idxD (.tup (a :: b :: c :: d :: r)) (.int 3)) S K = K (.ok d) S := by
  have : (3 : Int) < ((a :: b :: c :: d :: r).length : Int) := by simp; omega
  simp only [wq, idxD, atI, ixN, this]; rfl
theorem atI_nat {α : Type} {xs : List α} {j : Nat} (g : j < xs.length) : atI xs (j : Int) = some xs[j] := by
  have e : (0 : Int) ≤ ((j : Nat) : Int) ∧ ((j : Nat) : Int) < xs.length := by omega
  simp [atI, ixN, e.1, e.2, g]
theorem atI_lt {α : Type} {xs : List α} {a : Int} (h : 0 ≤ a) (h2 : a < xs.length) : ∃ j : Nat, ∃ g : j < xs.length, a = (j : Int) ∧ atI xs a = some xs[j] := by
  obtain ⟨j, rfl⟩ := Int.eq_ofNat_of_zero_le h
  have g : j < xs.length := by omega
  exact ⟨j, g, rfl, atI_nat g⟩
theorem idx_lst {i : Nat} {xs : List D} {b : Bool} {a : Int} {d : D} (h : S[i]? = some (.lst xs b)) (g : atI xs a = some d) : wp (idxD (.obj i) (.int a)) S K = K (.ok d) S := by simp [wq, idxD, h, g]
theorem idx_tup {xs : List D} {a : Int} {d : D} (g : atI xs a = some d) : wp (idxD (.tup xs) (.int a)) S K = K (.ok d) S := by simp [wq, idxD, g]
theorem idx_dct {i : Nat} {xs : List (Ky × D)} {b : Bool} {a d : D} {k : Ky} (h : S[i]? = some (.dct xs b)) (hk : toKy a = some k) (g : lookK k xs = some d) : wp (idxD (.obj i) a) S K = K (.ok d) S := by simp [wq, idxD, h, hk, g]
/-- behind an __init__ -/
def mk (i : Nat) (K : R D → Sto → Prop) : R D → Sto → Prop := fun r S' => match r with
  | .ok .non => K (.ok (.obj i)) S'
  | .ok _ => False
  | .ex c fs => K (.ex c fs) S'
@[simp] theorem mk_non {i : Nat} : mk i K (.ok .non) S = K (.ok (.obj i)) S := rfl
@[simp] theorem mk_ex {i c : Nat} {fs} : mk i K (.ex c fs) S = K (.ex c fs) S := rfl
theorem wp_make {c f : Nat} {k : ClI} {as : List D} (h1 : pg.cls[c]? = some k) (h2 : k.exf = none) (h3 : k.init = some f) : wp (makeD pg cl c as) S K = wp (cl f (.obj S.length :: as)) (S ++ [.ins c []]) (mk S.length K) := by
  rw [wq]
  unfold makeD
  simp only [h1, h2, h3]
  show wp (M.bind _ _) _ _ = _
  rw [wp_bind]
  unfold wp
  generalize cl f (.obj S.length :: as) (S ++ [.ins c []]) = x
  rcases x with _ | ⟨a | ⟨c, fs⟩, S'⟩
  · rfl
  · cases a <;> rfl
  · rfl
theorem setF_at {i a c : Nat} {k : ClI} {v : D} {fs : List (Nat × D)} {K : R Unit → Sto → Prop} (h : S[i]? = some (.ins c fs)) (h1 : pg.cls[c]? = some k) (h2 : a ∈ k.flds) (h3 : fs.length < 900) : ap (setF pg (.obj i) a v S) K = K (.ok ()) (S.set i (.ins c (putA a v fs))) := by
  simp [setF, h, h1, h2, h3]
theorem putO_at {r : Nat} {kvs : List (Ky × D)} {a v : D} {k : Ky} {K : R Unit → Sto → Prop} (h : S[r]? = some (.dct kvs false)) (hk : toKy a = some k) (hl : kvs.length < 1000) : ap (putO (.obj r) a v S) K = K (.ok ()) (S.set r (.dct (putK k v kvs) false)) := by simp [putO, h, hk, hl]
theorem fld_at {i a c : Nat} {k : ClI} {v : D} {fs : List (Nat × D)} (h : S[i]? = some (.ins c fs)) (h1 : pg.cls[c]? = some k) (h2 : lookA a k.props = none) (h3 : a ∈ k.flds) (h4 : lookA a fs = some v) : wp (fldD pg cl (.obj i) a) S K = K (.ok v) S := by
  simp [wq, fldD, h, h1, h2, h3, h4]
theorem getF_at {i a c : Nat} {k : ClI} {v : D} {fs : List (Nat × D)} (h : S[i]? = some (.ins c fs)) (h1 : pg.cls[c]? = some k) (h3 : a ∈ k.flds) (h4 : lookA a fs = some v) : ap (getF pg (.obj i) a S) K = K (.ok v) S := by
  simp [getF, h, h1, h3, h4]
theorem clsM_at {i c : Nat} {fs : List (Nat × D)} {K : R Nat → Sto → Prop} (h : S[i]? = some (.ins c fs)) : ap (clsM (.obj i) S) K = K (.ok c) S := by simp [clsM, h]
theorem methF_at {i m c f : Nat} {k : ClI} {fs : List (Nat × D)} {K : R Nat → Sto → Prop} (h : S[i]? = some (.ins c fs)) (h1 : pg.cls[c]? = some k) (h2 : lookA m k.meths = some f) (h3 : lookA m fs = none) : ap (methF pg (.obj i) m S) K = K (.ok f) S := by
  simp [methF, h, h1, h2, h3]
theorem bm_ext {i j : Nat} {xs ys : List D} (h : S[i]? = some (.lst xs false)) (g : S[j]? = some (.lst ys false)) (hl : xs.length + ys.length ≤ sizeL) : ap (bmD (.obj i) .extend [.obj j] S) K = K (.ok .non) (S.set i (.lst (xs ++ ys) false)) := by simp [bmD, h, g, hl]
theorem bm_app {i : Nat} {xs : List D} {v : D} (h : S[i]? = some (.lst xs false)) (hl : xs.length < sizeL) : ap (bmD (.obj i) .append [v] S) K = K (.ok .non) (S.set i (.lst (xs ++ [v]) false)) := by simp [bmD, h, hl]
theorem recv_l {i : Nat} {xs : List D} {b : Bool} {m : BM} {K : R Unit → Sto → Prop} (h : S[i]? = some (.lst xs b)) (hm : m = .append ∨ m = .extend ∨ m = .pop ∨ m = .clear) : ap (recvD (.obj i) m S) K = K (.ok ()) S := by
  rcases hm with rfl | rfl | rfl | rfl <;> simp [recvD, h]
theorem recv_ext {i : Nat} {xs : List D} {b : Bool} {K : R Unit → Sto → Prop} (h : S[i]? = some (.lst xs b)) : ap (recvD (.obj i) .extend S) K = K (.ok ()) S := by simp [recvD, h]
theorem recv_app {i : Nat} {xs : List D} {b : Bool} {K : R Unit → Sto → Prop} (h : S[i]? = some (.lst xs b)) : ap (recvD (.obj i) .append S) K = K (.ok ()) S := by simp [recvD, h]
@[simp] theorem recv_join {x : List Nat} {K : R Unit → Sto → Prop} : ap (recvD (.str x) .join S) K = K (.ok ()) S := rfl
@[simp] theorem recv_split {x : List Nat} {K : R Unit → Sto → Prop} : ap (recvD (.str x) .split S) K = K (.ok ()) S := rfl
@[simp] theorem recv_strip {x : List Nat} {K : R Unit → Sto → Prop} : ap (recvD (.str x) .strip S) K = K (.ok ()) S := rfl
theorem strsL_map : ∀ ws : List (List Nat), strsL (ws.map .str) = some ws
  | [] => rfl
  | w :: ws => by show (match strsL (ws.map D.str) with | some l => some (w :: l) | none => none) = _; rw [strsL_map ws]
theorem bm_join {i : Nat} {sep : List Nat} {ws : List (List Nat)} {b : Bool} (h : S[i]? = some (.lst (ws.map .str) b)) (hl : (ws.map (·.length)).sum + ws.length * sep.length ≤ sizeL) : ap (bmD (.str sep) .join [.obj i] S) K = K (.ok (.str (joinL sep ws))) S := by
  simp only [bmD, seqOf, h, strsL_map, hl, if_true, ap_some]
theorem bi_stri {i : Int} (h : 0 ≤ i ∧ i < 1000000) : wp (biD .str [.int i]) S K = K (.ok (.str (strI i))) S := by simp [wq, biD, h]
theorem seq_l {i : Nat} {xs : List D} {b : Bool} (h : S[i]? = some (.lst xs b)) : seqOf S (.obj i) = some xs := by simp [seqOf, h]
@[simp] theorem seq_t {xs : List D} : seqOf S (.tup xs) = some xs := rfl
theorem bin_mul_lb {i : Nat} {x : List D} {b : Bool} (h : S[i]? = some (.lst x false)) (hl : x.length ≤ sizeL) : wp (binD .mul (.obj i) (.int (b2i b))) S K = K (.ok (.obj S.length)) (S ++ [.lst (if b then x else []) false]) := by
  cases b <;> simp [wq, binD, h, b2i, hl, new]
theorem get2a {a b : Ob} : (S ++ [a, b])[S.length]? = some a := by simp
theorem get2b {a b : Ob} : (S ++ [a, b])[S.length + 1]? = some b := by rw [List.getElem?_append_right (by omega)]; simp
theorem get3c {a b c : Ob} : (S ++ [a, b, c])[S.length + 2]? = some c := by rw [List.getElem?_append_right (by omega)]; simp
end
end LA.Pu

namespace LA.Pu
abbrev n_is_integer : Nat := 0
/-- is_integer: 0=value -/
def b_is_integer : Cs :=
  (.cons (.ret (.and (.isin (.loc 0) .int) (.not (.isin (.loc 0) .bool))))
  .nil)
abbrev n_is_below : Nat := 1
/-- is_below: 0=value 1=most -/
def b_is_below : Cs :=
  (.cons (.ret (.and (.call 0 (.cons false (.loc 0) .nil)) (.cmp2 .le .lt (.con (.int 0)) (.loc 0) (.loc 1))))
  .nil)
abbrev n_is_name : Nat := 2
/-- is_name: 0=value 1=letter -/
def b_is_name : Cs :=
  (.cons (.ite (.or (.not (.isin (.loc 0) .str)) (.or (.not (.cmp2 .le .le (.con (.int 1)) (.bi .len (.cons false (.loc 0) .nil)) (.con (.int 8)))) (.cmp .eq (.loc 0) (.con (.str [100, 111, 101, 115]))))) (.cons (.ret (.con (.bl false)))
  .nil) .nil)
  (.cons (.ret (.bi .all (.cons false (.lc (.cmp .in_ (.loc 1) (.con (.str [97, 98, 99, 100, 101, 102, 103, 104, 105, 106, 107, 108, 109, 110, 111, 112, 113, 114, 115, 116, 117, 118, 119, 120, 121, 122]))) (.name 1) (.ex (.loc 0)) (.con (.bl true)) [1]) .nil)))
  .nil))
abbrev n_is_size : Nat := 3
/-- is_size: 0=value -/
def b_is_size : Cs :=
  (.cons (.ret (.and (.call 0 (.cons false (.loc 0) .nil)) (.cmp2 .le .le (.con (.int 1)) (.loc 0) (.con (.int 2)))))
  .nil)
abbrev n_is_step : Nat := 4
/-- is_step: 0=places 1=top 2=value 3=word 4=where 5=number -/
def b_is_step : Cs :=
  (.cons (.ite (.or (.not (.isin (.loc 2) .tuple)) (.or (.cmp .ne (.bi .len (.cons false (.loc 2) .nil)) (.con (.int 3))) (.not (.isin (.idx (.loc 2) (.con (.int 0))) .str)))) (.cons (.ret (.con (.bl false)))
  .nil) .nil)
  (.cons (.asg (.cons (.name 3) (.cons (.name 4) (.cons (.name 5) .nil))) (.loc 2))
  (.cons (.ite (.isin (.loc 4) .str) (.cons (.ite (.cmp .ne (.loc 4) (.con (.str [97, 105, 109]))) (.cons (.ret (.con (.bl false)))
  .nil) .nil)
  .nil) (.cons (.ite (.not (.call 1 (.cons false (.loc 4) (.cons false (.loc 0) .nil)))) (.cons (.ret (.con (.bl false)))
  .nil) .nil)
  .nil))
  (.cons (.ite (.cmp .in_ (.loc 3) (.tup (.cons false (.con (.str [117, 112])) (.cons false (.con (.str [100, 111, 119, 110])) .nil)))) (.cons (.ret (.and (.call 0 (.cons false (.loc 5) .nil)) (.cmp .eq (.loc 5) (.con (.int 0)))))
  .nil) .nil)
  (.cons (.ret (.and (.cmp .eq (.loc 3) (.con (.str [115, 101, 116]))) (.call 1 (.cons false (.loc 5) (.cons false (.bin .add (.loc 1) (.con (.int 1))) .nil)))))
  .nil)))))
abbrev n_is_act : Nat := 5
/-- is_act: 0=places 1=top 2=value 3=step -/
def b_is_act : Cs :=
  (.cons (.ite (.or (.not (.isin (.loc 2) .tuple)) (.or (.cmp .eq (.loc 2) (.tup .nil)) (.not (.isin (.idx (.loc 2) (.con (.int 0))) .str)))) (.cons (.ret (.con (.bl false)))
  .nil) .nil)
  (.cons (.ite (.cmp .in_ (.idx (.loc 2) (.con (.int 0))) (.tup (.cons false (.con (.str [111, 102, 102])) (.cons false (.con (.str [99, 111, 112, 121])) .nil)))) (.cons (.ret (.cmp .eq (.bi .len (.cons false (.loc 2) .nil)) (.con (.int 1))))
  .nil) .nil)
  (.cons (.ite (.cmp .ne (.bi .len (.cons false (.loc 2) .nil)) (.con (.int 2))) (.cons (.ret (.con (.bl false)))
  .nil) .nil)
  (.cons (.ite (.cmp .eq (.idx (.loc 2) (.con (.int 0))) (.con (.str [116, 117, 114, 110]))) (.cons (.ret (.call 1 (.cons false (.idx (.loc 2) (.con (.int 1))) (.cons false (.loc 0) .nil))))
  .nil) .nil)
  (.cons (.ite (.or (.cmp .ne (.idx (.loc 2) (.con (.int 0))) (.con (.str [109, 111, 118, 101]))) (.or (.not (.isin (.idx (.loc 2) (.con (.int 1))) .tuple)) (.not (.cmp2 .le .le (.con (.int 1)) (.bi .len (.cons false (.idx (.loc 2) (.con (.int 1))) .nil)) (.con (.int 3)))))) (.cons (.ret (.con (.bl false)))
  .nil) .nil)
  (.cons (.ret (.bi .all (.cons false (.lc (.call 4 (.cons false (.loc 0) (.cons false (.loc 1) (.cons false (.loc 3) .nil)))) (.name 3) (.ex (.idx (.loc 2) (.con (.int 1)))) (.con (.bl true)) [3]) .nil)))
  .nil))))))
abbrev n_is_test : Nat := 6
/-- is_test: 0=places 1=top 2=value -/
def b_is_test : Cs :=
  (.cons (.ite (.cmp .isN (.loc 2) (.con .non)) (.cons (.ret (.con (.bl true)))
  .nil) .nil)
  (.cons (.ite (.or (.not (.isin (.loc 2) .tuple)) (.cmp .ne (.bi .len (.cons false (.loc 2) .nil)) (.con (.int 2)))) (.cons (.ret (.con (.bl false)))
  .nil) .nil)
  (.cons (.ret (.and (.call 1 (.cons false (.idx (.loc 2) (.con (.int 0))) (.cons false (.loc 0) .nil))) (.call 1 (.cons false (.idx (.loc 2) (.con (.int 1))) (.cons false (.bin .add (.loc 1) (.con (.int 1))) .nil)))))
  .nil)))
abbrev n_are_answers : Nat := 7
/-- are_answers: 0=names 1=value 2=one 3=other 4=name -/
def b_are_answers : Cs :=
  (.cons (.ite (.or (.not (.isin (.loc 1) .tuple)) (.not (.bi .all (.cons false (.lc (.and (.isin (.loc 4) .str) (.cmp .in_ (.loc 4) (.loc 0))) (.name 4) (.ex (.loc 1)) (.con (.bl true)) [4]) .nil)))) (.cons (.ret (.con (.bl false)))
  .nil) .nil)
  (.cons (.ret (.bi .all (.cons false (.lc (.cmp .lt (.loc 2) (.loc 3)) (.cons (.name 2) (.cons (.name 3) .nil)) (.zip (.loc 1) (.slc (.loc 1) (.chk (.con (.int 1))) (.con .non))) (.con (.bl true)) [2, 3]) .nil)))
  .nil))
abbrev n_is_kind : Nat := 8
/-- is_kind: 0=places 1=top 2=names 3=value -/
def b_is_kind : Cs :=
  (.cons (.ite (.or (.not (.isin (.loc 3) .tuple)) (.or (.cmp .ne (.bi .len (.cons false (.loc 3) .nil)) (.con (.int 4))) (.not (.isin (.idx (.loc 3) (.con (.int 1))) .bool)))) (.cons (.ret (.con (.bl false)))
  .nil) .nil)
  (.cons (.ite (.or (.not (.call 6 (.cons false (.loc 0) (.cons false (.loc 1) (.cons false (.idx (.loc 3) (.con (.int 0))) .nil))))) (.not (.call 7 (.cons false (.loc 2) (.cons false (.idx (.loc 3) (.con (.int 2))) .nil))))) (.cons (.ret (.con (.bl false)))
  .nil) .nil)
  (.cons (.ret (.call 5 (.cons false (.loc 0) (.cons false (.loc 1) (.cons false (.idx (.loc 3) (.con (.int 3))) .nil)))))
  .nil)))
abbrev n_check_kinds : Nat := 9
/-- check_kinds: 0=places 1=top 2=kinds 3=name -/
def b_check_kinds : Cs :=
  (.cons (.ite (.or (.not (.isin (.loc 2) .dict)) (.or (.not (.cmp2 .le .le (.con (.int 1)) (.bi .len (.cons false (.loc 2) .nil)) (.con (.int 4)))) (.not (.bi .all (.cons false (.lc (.call 2 (.cons false (.loc 3) .nil)) (.name 3) (.ex (.loc 2)) (.con (.bl true)) [3]) .nil))))) (.cons (.raise 2 (.cons false (.con (.str [])) .nil))
  .nil) .nil)
  (.cons (.for_ (.name 3) (.ex (.bi .sorted (.cons false (.loc 2) .nil))) (.cons (.ite (.not (.call 8 (.cons false (.loc 0) (.cons false (.loc 1) (.cons false (.loc 2) (.cons false (.idx (.loc 2) (.loc 3)) .nil)))))) (.cons (.raise 2 (.cons false (.loc 3) .nil))
  .nil) .nil)
  .nil))
  .nil))
abbrev n_is_effect_of : Nat := 10
/-- is_effect_of: 0=places 1=names 2=kind 3=aim -/
def b_is_effect_of : Cs :=
  (.cons (.ret (.and (.isin (.loc 2) .str) (.and (.cmp .in_ (.loc 2) (.loc 1)) (.call 1 (.cons false (.loc 3) (.cons false (.loc 0) .nil))))))
  .nil)
abbrev n_is_off : Nat := 11
/-- is_off: 0=places 1=top 2=names 3=value -/
def b_is_off : Cs :=
  (.cons (.ite (.or (.not (.isin (.loc 3) .tuple)) (.or (.cmp .ne (.bi .len (.cons false (.loc 3) .nil)) (.con (.int 4))) (.not (.call 1 (.cons false (.idx (.loc 3) (.con (.int 0))) (.cons false (.loc 0) .nil)))))) (.cons (.ret (.con (.bl false)))
  .nil) .nil)
  (.cons (.ret (.and (.call 1 (.cons false (.idx (.loc 3) (.con (.int 1))) (.cons false (.bin .add (.loc 1) (.con (.int 1))) .nil))) (.call 10 (.cons false (.loc 0) (.cons false (.loc 2) (.cons false (.idx (.loc 3) (.con (.int 2))) (.cons false (.idx (.loc 3) (.con (.int 3))) .nil)))))))
  .nil))
abbrev n_check_offs : Nat := 12
/-- check_offs: 0=places 1=top 2=names 3=offs 4=index 5=off -/
def b_check_offs : Cs :=
  (.cons (.ite (.or (.not (.isin (.loc 3) .tuple)) (.cmp .gt (.bi .len (.cons false (.loc 3) .nil)) (.con (.int 4)))) (.cons (.raise 3 (.cons false (.neg (.con (.int 1))) .nil))
  .nil) .nil)
  (.cons (.for_ (.cons (.name 4) (.cons (.name 5) .nil)) (.enum (.loc 3)) (.cons (.ite (.or (.not (.call 11 (.cons false (.loc 0) (.cons false (.loc 1) (.cons false (.loc 2) (.cons false (.loc 5) .nil)))))) (.cmp .in_ (.loc 5) (.slc (.loc 3) (.con .non) (.chk (.loc 4))))) (.cons (.raise 3 (.cons false (.loc 4) .nil))
  .nil) .nil)
  .nil))
  .nil))
abbrev n_is_table_of : Nat := 13
/-- is_table_of: 0=places 1=top 2=value 3=number -/
def b_is_table_of : Cs :=
  (.cons (.ite (.or (.not (.isin (.loc 2) .tuple)) (.cmp .ne (.bi .len (.cons false (.loc 2) .nil)) (.loc 0))) (.cons (.ret (.con (.bl false)))
  .nil) .nil)
  (.cons (.ret (.bi .all (.cons false (.lc (.call 1 (.cons false (.loc 3) (.cons false (.bin .add (.loc 1) (.con (.int 1))) .nil))) (.name 3) (.ex (.loc 2)) (.con (.bl true)) [3]) .nil)))
  .nil))
abbrev n_turned : Nat := 14
/-- turned: 0=effect 1=place -/
def b_turned : Cs :=
  (.cons (.ret (.ite (.cmp .isN (.loc 0) (.con .non)) (.con .non) (.tup (.cons false (.idx (.loc 0) (.con (.int 0))) (.cons false (.loc 1) .nil)))))
  .nil)
abbrev n_resolved : Nat := 15
/-- resolved: 0=game 1=table 2=pile 3=act 4=effect 5=rest 6=later 7=laid -/
def b_resolved : Cs :=
  (.cons (.asg (.cons (.name 4) (.cons (.name 5) .nil)) (.tup (.cons false (.idx (.loc 2) (.neg (.con (.int 1)))) (.cons false (.slc (.loc 2) (.con .non) (.chk (.neg (.con (.int 1))))) .nil))))
  (.cons (.asg (.name 3) (.idx (.idx (.fld (.loc 0) 3) (.idx (.loc 4) (.con (.int 0)))) (.con (.int 3))))
  (.cons (.ite (.cmp .eq (.idx (.loc 3) (.con (.int 0))) (.con (.str [109, 111, 118, 101]))) (.cons (.asg (.cons (.name 6) (.cons (.name 7) .nil)) (.meth (.loc 0) 10 (.cons false (.loc 1) (.cons false (.loc 4) .nil))))
  (.cons (.ret (.tup (.cons false (.loc 6) (.cons false (.bin .add (.loc 5) (.loc 7)) .nil))))
  .nil)) .nil)
  (.cons (.ite (.or (.cmp .eq (.loc 5) (.lst .nil)) (.cmp .eq (.idx (.loc 3) (.con (.int 0))) (.con (.str [111, 102, 102])))) (.cons (.ret (.tup (.cons false (.loc 1) (.cons false (.slc (.loc 5) (.con .non) (.chk (.neg (.con (.int 1))))) .nil))))
  .nil) .nil)
  (.cons (.ite (.cmp .eq (.idx (.loc 3) (.con (.int 0))) (.con (.str [99, 111, 112, 121]))) (.cons (.ret (.tup (.cons false (.loc 1) (.cons false (.lst (.cons true (.loc 5) (.cons false (.idx (.loc 5) (.neg (.con (.int 1)))) .nil))) .nil))))
  .nil) .nil)
  (.cons (.ret (.tup (.cons false (.loc 1) (.cons false (.lst (.cons true (.slc (.loc 5) (.con .non) (.chk (.neg (.con (.int 1))))) (.cons false (.call 14 (.cons false (.idx (.loc 5) (.neg (.con (.int 1)))) (.cons false (.idx (.loc 3) (.con (.int 1))) .nil))) .nil))) .nil))))
  .nil))))))
abbrev n_is_deed : Nat := 16
/-- is_deed: 0=game 1=value -/
def b_is_deed : Cs :=
  (.cons (.ite (.or (.not (.isin (.loc 1) .tuple)) (.or (.cmp .eq (.loc 1) (.tup .nil)) (.not (.isin (.idx (.loc 1) (.con (.int 0))) .str)))) (.cons (.ret (.con (.bl false)))
  .nil) .nil)
  (.cons (.ret (.or (.cmp .eq (.loc 1) (.tup (.cons false (.con (.str [114, 101, 115, 111, 108, 118, 101])) .nil))) (.and (.cmp .eq (.idx (.loc 1) (.con (.int 0))) (.con (.str [108, 97, 121]))) (.meth (.loc 0) 12 (.cons false (.slc (.loc 1) (.chk (.con (.int 1))) (.con .non)) .nil)))))
  .nil))
abbrev n_behind : Nat := 17
/-- behind: 0=game 1=table 2=pile 3=deed 4=effect -/
def b_behind : Cs :=
  (.cons (.ite (.cmp .eq (.idx (.loc 3) (.con (.int 0))) (.con (.str [114, 101, 115, 111, 108, 118, 101]))) (.cons (.ret (.ite (.cmp .ne (.loc 2) (.lst .nil)) (.call 15 (.cons false (.loc 0) (.cons false (.loc 1) (.cons false (.loc 2) .nil)))) (.con .non)))
  .nil) .nil)
  (.cons (.asg (.name 4) (.tup (.cons false (.idx (.loc 3) (.con (.int 1))) (.cons false (.idx (.loc 3) (.con (.int 2))) .nil))))
  (.cons (.ite (.not (.meth (.loc 0) 11 (.cons false (.loc 1) (.cons false (.ite (.cmp .ne (.loc 2) (.lst .nil)) (.idx (.loc 2) (.neg (.con (.int 1)))) (.con .non)) (.cons false (.loc 4) .nil))))) (.cons (.ret (.con .non))
  .nil) .nil)
  (.cons (.ret (.tup (.cons false (.loc 1) (.cons false (.lst (.cons true (.loc 2) (.cons false (.loc 4) .nil))) .nil))))
  .nil))))
abbrev n_replay : Nat := 18
/-- replay: 0=game 1=deeds 2=table 3=pile 4=tables 5=done 6=index 7=deed 8=found -/
def b_replay : Cs :=
  (.cons (.asg (.cons (.name 2) (.cons (.name 3) (.cons (.name 4) (.cons (.name 5) .nil)))) (.tup (.cons false (.fld (.loc 0) 5) (.cons false (.lst .nil) (.cons false (.lst (.cons false (.fld (.loc 0) 5) .nil)) (.cons false (.lst .nil) .nil))))))
  (.cons (.for_ (.cons (.name 6) (.cons (.name 7) .nil)) (.enum (.loc 1)) (.cons (.asg (.name 8) (.ite (.call 16 (.cons false (.loc 0) (.cons false (.loc 7) .nil))) (.call 17 (.cons false (.loc 0) (.cons false (.loc 2) (.cons false (.loc 3) (.cons false (.loc 7) .nil))))) (.con .non)))
  (.cons (.ite (.cmp .isN (.loc 8) (.con .non)) (.cons (.raise 5 (.cons false (.loc 6) .nil))
  .nil) .nil)
  (.cons (.asg (.cons (.name 2) (.cons (.name 3) .nil)) (.loc 8))
  (.cons (.ex (.bm (.loc 5) .append (.cons false (.loc 7) .nil)))
  (.cons (.ite (.cmp .eq (.loc 3) (.lst .nil)) (.cons (.ex (.bm (.loc 4) .append (.cons false (.loc 2) .nil)))
  .nil) .nil)
  .nil))))))
  (.cons (.ret (.make 1 (.cons false (.loc 2) (.cons false (.loc 3) (.cons false (.loc 4) (.cons false (.loc 5) .nil))))))
  .nil)))
abbrev n_law_draws : Nat := 19
/-- _law_draws: 0=script -/
def b_law_draws : Cs :=
  (.cons (.ret (.lst (.cons false (.bi .list (.cons false (.loc 0) .nil)) (.cons false (.con (.int 0)) (.cons false (.con (.int 0)) (.cons false (.con (.int 7)) .nil))))))
  .nil)
abbrev n_law_pick : Nat := 20
/-- _law_pick: 0=row 1=many 2=found 3=cell -/
def b_law_pick : Cs :=
  (.cons (.ite (.cmp .eq (.idx (.loc 0) (.con (.int 2))) (.con (.int 0))) (.cons (.ite (.cmp .lt (.idx (.loc 0) (.con (.int 1))) (.bi .len (.cons false (.idx (.loc 0) (.con (.int 0))) .nil))) (.cons (.asg (.name 3) (.idx (.idx (.loc 0) (.con (.int 0))) (.idx (.loc 0) (.con (.int 1)))))
  (.cons (.asgI (.loc 0) (.con (.int 1)) (.bin .add (.idx (.loc 0) (.con (.int 1))) (.con (.int 1))))
  (.cons (.ite (.cmp .ge (.loc 3) (.bin .pow (.con (.int 10)) (.con (.int 18)))) (.cons (.asgI (.loc 0) (.con (.int 2)) (.loc 3))
  .nil) (.cons (.asgI (.loc 0) (.con (.int 3)) (.bin .mod (.bi .int (.cons false (.bin .add (.bin .add (.bin .mul (.idx (.loc 0) (.con (.int 3))) (.con (.int 48271))) (.bin .mul (.loc 3) (.con (.int 69621)))) (.con (.int 11))) .nil)) (.con (.int 2147483647))))
  .nil))
  .nil))) (.cons (.asgI (.loc 0) (.con (.int 3)) (.bin .mod (.bi .int (.cons false (.bin .add (.bin .mul (.idx (.loc 0) (.con (.int 3))) (.con (.int 48271))) (.con (.int 7))) .nil)) (.con (.int 2147483647))))
  .nil))
  .nil) .nil)
  (.cons (.ite (.cmp .gt (.idx (.loc 0) (.con (.int 2))) (.con (.int 0))) (.cons (.asg (.name 2) (.bin .mod (.bi .int (.cons false (.idx (.loc 0) (.con (.int 2))) .nil)) (.loc 1)))
  (.cons (.asgI (.loc 0) (.con (.int 2)) (.bin .fdiv (.idx (.loc 0) (.con (.int 2))) (.loc 1)))
  (.cons (.ret (.loc 2))
  .nil))) .nil)
  (.cons (.ret (.bin .mod (.bin .mod (.bi .int (.cons false (.bin .mul (.idx (.loc 0) (.con (.int 3))) (.con (.int 16807))) .nil)) (.con (.int 2147483629))) (.loc 1)))
  .nil)))
abbrev n_law_step : Nat := 21
/-- _law_step: 0=row 1=d 2=word 3=where -/
def b_law_step : Cs :=
  (.cons (.asg (.name 2) (.idx (.lst (.cons false (.con (.str [117, 112])) (.cons false (.con (.str [100, 111, 119, 110])) (.cons false (.con (.str [115, 101, 116])) .nil)))) (.call 20 (.cons false (.loc 0) (.cons false (.con (.int 3)) .nil)))))
  (.cons (.asg (.name 3) (.idx (.lst (.cons false (.con (.str [97, 105, 109])) (.cons false (.con (.str [97, 105, 109])) (.cons false (.con (.int 0)) (.cons false (.bin .sub (.idx (.loc 1) (.con (.str [112, 108, 97, 99, 101, 115]))) (.con (.int 1))) .nil))))) (.call 20 (.cons false (.loc 0) (.cons false (.con (.int 4)) .nil)))))
  (.cons (.ret (.tup (.cons false (.loc 2) (.cons false (.loc 3) (.cons false (.ite (.cmp .eq (.loc 2) (.con (.str [115, 101, 116]))) (.call 20 (.cons false (.loc 0) (.cons false (.bin .add (.idx (.loc 1) (.con (.str [116, 111, 112]))) (.con (.int 1))) .nil))) (.con (.int 0))) .nil)))))
  .nil)))
abbrev n_law_act : Nat := 22
/-- _law_act: 0=row 1=d 2=turn_of 3=k -/
def b_law_act : Cs :=
  (.cons (.asg (.name 2) (.call 20 (.cons false (.loc 0) (.cons false (.con (.int 6)) .nil))))
  (.cons (.ite (.cmp .eq (.loc 2) (.con (.int 0))) (.cons (.ret (.tup (.cons false (.con (.str [111, 102, 102])) .nil)))
  .nil) .nil)
  (.cons (.ite (.cmp .eq (.loc 2) (.con (.int 1))) (.cons (.ret (.tup (.cons false (.con (.str [99, 111, 112, 121])) .nil)))
  .nil) .nil)
  (.cons (.ite (.cmp .eq (.loc 2) (.con (.int 2))) (.cons (.ret (.tup (.cons false (.con (.str [116, 117, 114, 110])) (.cons false (.call 20 (.cons false (.loc 0) (.cons false (.idx (.loc 1) (.con (.str [112, 108, 97, 99, 101, 115]))) .nil))) .nil))))
  .nil) .nil)
  (.cons (.ret (.tup (.cons false (.con (.str [109, 111, 118, 101])) (.cons false (.bi .tuple (.cons false (.lc (.call 21 (.cons false (.loc 0) (.cons false (.loc 1) .nil))) (.name 3) (.range (.bin .add (.con (.int 1)) (.call 20 (.cons false (.loc 0) (.cons false (.con (.int 2)) .nil))))) (.con (.bl true)) [3]) .nil)) .nil))))
  .nil)))))
abbrev n_law_kind : Nat := 23
/-- _law_kind: 0=row 1=d 2=names 3=test 4=answers 5=name -/
def b_law_kind : Cs :=
  (.cons (.asg (.name 3) (.con .non))
  (.cons (.ite (.cmp .eq (.call 20 (.cons false (.loc 0) (.cons false (.con (.int 4)) .nil))) (.con (.int 0))) (.cons (.asg (.name 3) (.tup (.cons false (.call 20 (.cons false (.loc 0) (.cons false (.idx (.loc 1) (.con (.str [112, 108, 97, 99, 101, 115]))) .nil))) (.cons false (.call 20 (.cons false (.loc 0) (.cons false (.bin .add (.idx (.loc 1) (.con (.str [116, 111, 112]))) (.con (.int 1))) .nil))) .nil))))
  .nil) .nil)
  (.cons (.asg (.name 4) (.bi .tuple (.cons false (.lc (.loc 5) (.name 5) (.ex (.loc 2)) (.cmp .eq (.call 20 (.cons false (.loc 0) (.cons false (.con (.int 3)) .nil))) (.con (.int 0))) [5]) .nil)))
  (.cons (.ret (.tup (.cons false (.loc 3) (.cons false (.cmp .gt (.call 20 (.cons false (.loc 0) (.cons false (.con (.int 3)) .nil))) (.con (.int 0))) (.cons false (.loc 4) (.cons false (.call 22 (.cons false (.loc 0) (.cons false (.loc 1) .nil))) .nil))))))
  .nil))))
abbrev n_law_off : Nat := 24
/-- _law_off: 0=row 1=d 2=names 3=number -/
def b_law_off : Cs :=
  (.cons (.asg (.name 2) (.bi .sorted (.cons false (.bi .list (.cons false (.idx (.loc 1) (.con (.str [107, 105, 110, 100, 115]))) .nil)) .nil)))
  (.cons (.asg (.name 3) (.call 20 (.cons false (.loc 0) (.cons false (.bin .add (.idx (.loc 1) (.con (.str [116, 111, 112]))) (.con (.int 1))) .nil))))
  (.cons (.ret (.tup (.cons false (.call 20 (.cons false (.loc 0) (.cons false (.idx (.loc 1) (.con (.str [112, 108, 97, 99, 101, 115]))) .nil))) (.cons false (.loc 3) (.cons false (.idx (.loc 2) (.call 20 (.cons false (.loc 0) (.cons false (.bi .len (.cons false (.loc 2) .nil)) .nil)))) (.cons false (.call 20 (.cons false (.loc 0) (.cons false (.idx (.loc 1) (.con (.str [112, 108, 97, 99, 101, 115]))) .nil))) .nil))))))
  .nil)))
abbrev n_law_drawn : Nat := 25
/-- _law_drawn: 0=row 1=most 2=top 3=d 4=names 5=name 6=k 7=off_here -/
def b_law_drawn : Cs :=
  (.cons (.asg (.name 3) (.dic (.cons false (.con (.str [112, 108, 97, 99, 101, 115])) (.cons false (.bin .add (.con (.int 1)) (.call 20 (.cons false (.loc 0) (.cons false (.con (.int 2)) .nil)))) (.cons false (.con (.str [116, 111, 112])) (.cons false (.bin .add (.con (.int 1)) (.call 20 (.cons false (.loc 0) (.cons false (.loc 2) .nil)))) (.cons false (.con (.str [107, 105, 110, 100, 115])) (.cons false (.dic .nil) (.cons false (.con (.str [111, 102, 102, 115])) (.cons false (.tup .nil) .nil))))))))))
  (.cons (.asg (.name 4) (.slc (.lst (.cons false (.con (.str [97])) (.cons false (.con (.str [98, 98])) (.cons false (.con (.str [99, 97])) (.cons false (.con (.str [100])) .nil))))) (.con .non) (.chk (.bin .add (.con (.int 1)) (.call 20 (.cons false (.loc 0) (.cons false (.loc 1) .nil)))))))
  (.cons (.for_ (.name 5) (.ex (.loc 4)) (.cons (.asgI (.idx (.loc 3) (.con (.str [107, 105, 110, 100, 115]))) (.loc 5) (.call 23 (.cons false (.loc 0) (.cons false (.loc 3) (.cons false (.loc 4) .nil)))))
  .nil))
  (.cons (.for_ (.name 6) (.range (.call 20 (.cons false (.loc 0) (.cons false (.con (.int 4)) .nil)))) (.cons (.asg (.name 7) (.call 24 (.cons false (.loc 0) (.cons false (.loc 3) .nil))))
  (.cons (.ite (.cmp .nin (.loc 7) (.idx (.loc 3) (.con (.str [111, 102, 102, 115])))) (.cons (.asgI (.loc 3) (.con (.str [111, 102, 102, 115])) (.bin .add (.idx (.loc 3) (.con (.str [111, 102, 102, 115]))) (.tup (.cons false (.loc 7) .nil))))
  .nil) .nil)
  .nil)))
  (.cons (.asgI (.loc 3) (.con (.str [115, 116, 97, 114, 116])) (.bi .tuple (.cons false (.lc (.call 20 (.cons false (.loc 0) (.cons false (.bin .add (.idx (.loc 3) (.con (.str [116, 111, 112]))) (.con (.int 1))) .nil))) (.name 6) (.range (.idx (.loc 3) (.con (.str [112, 108, 97, 99, 101, 115])))) (.con (.bl true)) [6]) .nil)))
  (.cons (.ret (.loc 3))
  .nil))))))
abbrev n_law_made : Nat := 26
/-- _law_made: 0=d -/
def b_law_made : Cs :=
  (.cons (.ret (.make 0 (.cons false (.idx (.loc 0) (.con (.str [112, 108, 97, 99, 101, 115]))) (.cons false (.idx (.loc 0) (.con (.str [116, 111, 112]))) (.cons false (.idx (.loc 0) (.con (.str [107, 105, 110, 100, 115]))) (.cons false (.idx (.loc 0) (.con (.str [111, 102, 102, 115]))) (.cons false (.idx (.loc 0) (.con (.str [115, 116, 97, 114, 116]))) .nil)))))))
  .nil)
abbrev n_law_effects : Nat := 27
/-- _law_effects: 0=d 1=found 2=name 3=aim -/
def b_law_effects : Cs :=
  (.cons (.asg (.name 1) (.lst .nil))
  (.cons (.for_ (.name 2) (.ex (.bi .sorted (.cons false (.bi .list (.cons false (.idx (.loc 0) (.con (.str [107, 105, 110, 100, 115]))) .nil)) .nil))) (.cons (.asg (.name 1) (.bin .add (.loc 1) (.lc (.tup (.cons false (.loc 2) (.cons false (.loc 3) .nil))) (.name 3) (.range (.idx (.loc 0) (.con (.str [112, 108, 97, 99, 101, 115])))) (.con (.bl true)) [3])))
  .nil))
  (.cons (.ret (.loc 1))
  .nil)))
abbrev n_law_can_lay : Nat := 28
/-- _law_can_lay: 0=d 1=table 2=beneath 3=effect 4=test 5=opens 6=answers 7=act_here -/
def b_law_can_lay : Cs :=
  (.cons (.asg (.cons (.name 4) (.cons (.name 5) (.cons (.name 6) (.cons (.name 7) .nil)))) (.idx (.idx (.loc 0) (.con (.str [107, 105, 110, 100, 115]))) (.idx (.loc 3) (.con (.int 0)))))
  (.cons (.ite (.and (.cmp .notN (.loc 4) (.con .non)) (.cmp .ne (.idx (.loc 1) (.idx (.loc 4) (.con (.int 0)))) (.idx (.loc 4) (.con (.int 1))))) (.cons (.ret (.con (.bl false)))
  .nil) .nil)
  (.cons (.ret (.ite (.cmp .isN (.loc 2) (.con .non)) (.loc 5) (.cmp .in_ (.idx (.loc 2) (.con (.int 0))) (.loc 6))))
  .nil)))
abbrev n_law_moved : Nat := 29
/-- _law_moved: 0=d 1=table 2=effect 3=numbers 4=laid 5=word 6=where 7=number 8=place 9=old 10=at 11=what 12=kind_here 13=aim -/
def b_law_moved : Cs :=
  (.cons (.asg (.cons (.name 3) (.cons (.name 4) .nil)) (.tup (.cons false (.bi .list (.cons false (.loc 1) .nil)) (.cons false (.lst .nil) .nil))))
  (.cons (.for_ (.cons (.name 5) (.cons (.name 6) (.cons (.name 7) .nil))) (.ex (.idx (.idx (.idx (.idx (.loc 0) (.con (.str [107, 105, 110, 100, 115]))) (.idx (.loc 2) (.con (.int 0)))) (.con (.int 3))) (.con (.int 1)))) (.cons (.asg (.name 8) (.ite (.cmp .eq (.loc 6) (.con (.str [97, 105, 109]))) (.idx (.loc 2) (.con (.int 1))) (.loc 6)))
  (.cons (.asg (.name 9) (.idx (.loc 3) (.loc 8)))
  (.cons (.ite (.cmp .eq (.loc 5) (.con (.str [115, 101, 116]))) (.cons (.asgI (.loc 3) (.loc 8) (.loc 7))
  .nil) (.cons (.ite (.and (.cmp .eq (.loc 5) (.con (.str [117, 112]))) (.cmp .lt (.loc 9) (.idx (.loc 0) (.con (.str [116, 111, 112]))))) (.cons (.asgI (.loc 3) (.loc 8) (.bin .add (.loc 9) (.con (.int 1))))
  .nil) (.cons (.ite (.and (.cmp .eq (.loc 5) (.con (.str [100, 111, 119, 110]))) (.cmp .gt (.loc 9) (.con (.int 0)))) (.cons (.asgI (.loc 3) (.loc 8) (.bin .sub (.loc 9) (.con (.int 1))))
  .nil) .nil)
  .nil))
  .nil))
  (.cons (.ite (.cmp .ne (.idx (.loc 3) (.loc 8)) (.loc 9)) (.cons (.for_ (.cons (.name 10) (.cons (.name 11) (.cons (.name 12) (.cons (.name 13) .nil)))) (.ex (.idx (.loc 0) (.con (.str [111, 102, 102, 115])))) (.cons (.ite (.and (.cmp .eq (.loc 10) (.loc 8)) (.cmp .eq (.loc 11) (.idx (.loc 3) (.loc 8)))) (.cons (.ex (.bm (.loc 4) .append (.cons false (.tup (.cons false (.loc 12) (.cons false (.loc 13) .nil))) .nil)))
  .nil) .nil)
  .nil))
  .nil) .nil)
  .nil)))))
  (.cons (.ret (.tup (.cons false (.bi .tuple (.cons false (.loc 3) .nil)) (.cons false (.bi .tuple (.cons false (.loc 4) .nil)) .nil))))
  .nil)))
abbrev n_law_resolved : Nat := 30
/-- _law_resolved: 0=d 1=table 2=pile 3=act_here 4=effect 5=rest 6=later 7=laid -/
def b_law_resolved : Cs :=
  (.cons (.asg (.cons (.name 4) (.cons (.name 5) .nil)) (.tup (.cons false (.idx (.loc 2) (.neg (.con (.int 1)))) (.cons false (.slc (.loc 2) (.con .non) (.chk (.neg (.con (.int 1))))) .nil))))
  (.cons (.asg (.name 3) (.idx (.idx (.idx (.loc 0) (.con (.str [107, 105, 110, 100, 115]))) (.idx (.loc 4) (.con (.int 0)))) (.con (.int 3))))
  (.cons (.ite (.cmp .eq (.idx (.loc 3) (.con (.int 0))) (.con (.str [109, 111, 118, 101]))) (.cons (.asg (.cons (.name 6) (.cons (.name 7) .nil)) (.call 29 (.cons false (.loc 0) (.cons false (.loc 1) (.cons false (.loc 4) .nil)))))
  (.cons (.ret (.tup (.cons false (.loc 6) (.cons false (.bin .add (.loc 5) (.loc 7)) .nil))))
  .nil)) .nil)
  (.cons (.ite (.cmp .eq (.loc 5) (.tup .nil)) (.cons (.ret (.tup (.cons false (.loc 1) (.cons false (.tup .nil) .nil))))
  .nil) .nil)
  (.cons (.ite (.cmp .eq (.idx (.loc 3) (.con (.int 0))) (.con (.str [111, 102, 102]))) (.cons (.ret (.tup (.cons false (.loc 1) (.cons false (.slc (.loc 5) (.con .non) (.chk (.neg (.con (.int 1))))) .nil))))
  .nil) .nil)
  (.cons (.ite (.cmp .eq (.idx (.loc 3) (.con (.int 0))) (.con (.str [99, 111, 112, 121]))) (.cons (.ret (.tup (.cons false (.loc 1) (.cons false (.bin .add (.loc 5) (.slc (.loc 5) (.chk (.neg (.con (.int 1)))) (.con .non))) .nil))))
  .nil) .nil)
  (.cons (.ret (.tup (.cons false (.loc 1) (.cons false (.bin .add (.slc (.loc 5) (.con .non) (.chk (.neg (.con (.int 1))))) (.tup (.cons false (.tup (.cons false (.idx (.idx (.loc 5) (.neg (.con (.int 1)))) (.con (.int 0))) (.cons false (.idx (.loc 3) (.con (.int 1))) .nil))) .nil))) .nil))))
  .nil)))))))
abbrev n_law_told : Nat := 31
/-- _law_told: 0=game 1=deeds 2=told_here 3=e -/
def b_law_told : Cs :=
  (.cons (.asg (.name 2) (.con .non))
  (.cons (.try_ (.cons (.ex (.call 18 (.cons false (.loc 0) (.cons false (.loc 1) .nil))))
  .nil) [(5, (some 3), 2, (.ite (.isin 0) (.fld 22) (.con (.str [97, 110, 111, 116, 104, 101, 114]))))])
  (.cons (.ret (.loc 2))
  .nil)))
abbrev n_law : Nat := 32
/-- law: 0=script 1=row 2=turn 3=d 4=k 5=beneath 6=odd 7=effect 8=bad 9=game 10=table 11=pile 12=deeds 13=some -/
def b_law : Cs :=
  (.cons (.asg (.name 1) (.call 19 (.cons false (.loc 0) .nil)))
  (.cons (.for_ (.name 2) (.range (.con (.int 5))) (.cons (.asg (.name 3) (.call 25 (.cons false (.loc 1) (.cons false (.con (.int 3)) (.cons false (.con (.int 2)) .nil)))))
  (.cons (.asg (.cons (.name 9) (.cons (.name 10) (.cons (.name 11) (.cons (.name 12) .nil)))) (.tup (.cons false (.call 26 (.cons false (.loc 3) .nil)) (.cons false (.idx (.loc 3) (.con (.str [115, 116, 97, 114, 116]))) (.cons false (.tup .nil) (.cons false (.lst .nil) .nil))))))
  (.cons (.for_ (.name 4) (.range (.call 20 (.cons false (.loc 1) (.cons false (.con (.int 9)) .nil)))) (.cons (.asg (.name 5) (.ite (.cmp .ne (.loc 11) (.tup .nil)) (.idx (.loc 11) (.neg (.con (.int 1)))) (.con .non)))
  (.cons (.asg (.name 13) (.lc (.loc 7) (.name 7) (.ex (.call 27 (.cons false (.loc 3) .nil))) (.call 28 (.cons false (.loc 3) (.cons false (.loc 10) (.cons false (.loc 5) (.cons false (.loc 7) .nil))))) [7]))
  (.cons (.ite (.and (.cmp .ne (.loc 13) (.lst .nil)) (.cmp .eq (.call 20 (.cons false (.loc 1) (.cons false (.con (.int 2)) .nil))) (.con (.int 0)))) (.cons (.asg (.name 7) (.idx (.loc 13) (.call 20 (.cons false (.loc 1) (.cons false (.bi .len (.cons false (.loc 13) .nil)) .nil)))))
  (.cons (.ex (.bm (.loc 12) .append (.cons false (.tup (.cons false (.con (.str [108, 97, 121])) (.cons false (.idx (.loc 7) (.con (.int 0))) (.cons false (.idx (.loc 7) (.con (.int 1))) .nil)))) .nil)))
  (.cons (.asg (.name 11) (.bin .add (.loc 11) (.tup (.cons false (.loc 7) .nil))))
  .nil))) (.cons (.ite (.cmp .ne (.loc 11) (.tup .nil)) (.cons (.ex (.bm (.loc 12) .append (.cons false (.tup (.cons false (.con (.str [114, 101, 115, 111, 108, 118, 101])) .nil)) .nil)))
  (.cons (.asg (.cons (.name 10) (.cons (.name 11) .nil)) (.call 30 (.cons false (.loc 3) (.cons false (.loc 10) (.cons false (.loc 11) .nil)))))
  .nil)) .nil)
  .nil))
  .nil))))
  (.cons (.asg (.name 5) (.ite (.cmp .ne (.loc 11) (.tup .nil)) (.idx (.loc 11) (.neg (.con (.int 1)))) (.con .non)))
  (.cons (.asg (.name 6) (.lst (.cons false (.con .non) (.cons false (.tup (.cons false (.con (.str [108, 97, 121])) .nil)) (.cons false (.tup (.cons false (.con (.str [108, 97, 121])) (.cons false (.con (.str [108, 111, 115, 116])) (.cons false (.con (.int 0)) .nil)))) (.cons false (.tup (.cons false (.con (.str [108, 97, 121])) (.cons false (.con (.str [97])) (.cons false (.con (.int 2)) .nil)))) (.cons false (.tup (.cons false (.con (.str [108, 97, 121])) (.cons false (.con (.str [97])) (.cons false (.con (.bl true)) .nil)))) (.cons false (.lst (.cons false (.con (.str [114, 101, 115, 111, 108, 118, 101])) .nil)) (.cons false (.con (.str [114, 101, 115, 111, 108, 118, 101])) (.cons false (.tup .nil) .nil))))))))))
  (.cons (.asg (.name 6) (.bin .add (.loc 6) (.lst (.cons false (.tup (.cons false (.con (.str [114, 101, 115, 111, 108, 118, 101])) (.cons false (.con (.int 0)) .nil))) (.cons false (.tup (.cons false (.con (.str [112, 97, 115, 115])) .nil)) (.cons false (.tup (.cons false (.con (.str [108, 97, 121])) (.cons false (.con (.str [97])) (.cons false (.con (.int 0)) (.cons false (.con (.int 0)) .nil))))) (.cons false (.tup (.cons false (.con (.int 1)) .nil)) (.cons false (.tup (.cons false (.con (.str [108, 97, 121])) (.cons false (.con .non) (.cons false (.con (.int 0)) .nil)))) .nil))))))))
  (.cons (.ite (.cmp .eq (.loc 11) (.tup .nil)) (.cons (.ex (.bm (.loc 6) .append (.cons false (.tup (.cons false (.con (.str [114, 101, 115, 111, 108, 118, 101])) .nil)) .nil)))
  .nil) .nil)
  (.cons (.for_ (.name 7) (.ex (.call 27 (.cons false (.loc 3) .nil))) (.cons (.ite (.not (.call 28 (.cons false (.loc 3) (.cons false (.loc 10) (.cons false (.loc 5) (.cons false (.loc 7) .nil)))))) (.cons (.ex (.bm (.loc 6) .append (.cons false (.tup (.cons false (.con (.str [108, 97, 121])) (.cons false (.idx (.loc 7) (.con (.int 0))) (.cons false (.idx (.loc 7) (.con (.int 1))) .nil)))) .nil)))
  .nil) .nil)
  .nil))
  (.cons (.asg (.name 8) (.idx (.loc 6) (.call 20 (.cons false (.loc 1) (.cons false (.bi .len (.cons false (.loc 6) .nil)) .nil)))))
  (.cons (.ite (.or (.cmp .ne (.call 31 (.cons false (.loc 9) (.cons false (.bin .add (.bin .add (.bin .add (.loc 12) (.lst (.cons false (.loc 8) .nil))) (.loc 12)) (.lst (.cons false (.con .non) .nil))) .nil))) (.bi .len (.cons false (.loc 12) .nil))) (.cmp .notN (.call 31 (.cons false (.loc 9) (.cons false (.bi .tuple (.cons false (.loc 12) .nil)) .nil))) (.con .non))) (.cons (.ret (.con (.bl false)))
  .nil) .nil)
  .nil)))))))))))
  (.cons (.ret (.con (.bl true)))
  .nil)))
abbrev n_Game_init : Nat := 33
/-- Game.__init__: 0=self 1=places 2=top 3=kinds 4=offs 5=start 6=name -/
def b_Game_init : Cs :=
  (.cons (.ite (.or (.not (.call 3 (.cons false (.loc 1) .nil))) (.not (.call 3 (.cons false (.loc 2) .nil)))) (.cons (.raise 1 .nil)
  .nil) .nil)
  (.cons (.ex (.call 9 (.cons false (.loc 1) (.cons false (.loc 2) (.cons false (.loc 3) .nil)))))
  (.cons (.ex (.call 12 (.cons false (.loc 1) (.cons false (.loc 2) (.cons false (.loc 3) (.cons false (.loc 4) .nil))))))
  (.cons (.ite (.not (.call 13 (.cons false (.loc 1) (.cons false (.loc 2) (.cons false (.loc 5) .nil))))) (.cons (.raise 4 .nil)
  .nil) .nil)
  (.cons (.asgF (.loc 0) 1 (.loc 1))
  (.cons (.asgF (.loc 0) 2 (.loc 2))
  (.cons (.asgF (.loc 0) 3 (.dc (.loc 6) (.idx (.loc 3) (.loc 6)) (.name 6) (.ex (.bi .sorted (.cons false (.loc 3) .nil))) [6]))
  (.cons (.asgF (.loc 0) 4 (.loc 4))
  (.cons (.asgF (.loc 0) 5 (.loc 5))
  .nil)))))))))
abbrev n_Game_places : Nat := 34
/-- Game.places: 0=self -/
def b_Game_places : Cs :=
  (.cons (.ret (.fld (.loc 0) 1))
  .nil)
abbrev n_Game_top : Nat := 35
/-- Game.top: 0=self -/
def b_Game_top : Cs :=
  (.cons (.ret (.fld (.loc 0) 2))
  .nil)
abbrev n_Game_kinds : Nat := 36
/-- Game.kinds: 0=self -/
def b_Game_kinds : Cs :=
  (.cons (.ret (.bi .dict (.cons false (.fld (.loc 0) 3) .nil)))
  .nil)
abbrev n_Game_offs : Nat := 37
/-- Game.offs: 0=self -/
def b_Game_offs : Cs :=
  (.cons (.ret (.fld (.loc 0) 4))
  .nil)
abbrev n_Game_start : Nat := 38
/-- Game.start: 0=self -/
def b_Game_start : Cs :=
  (.cons (.ret (.fld (.loc 0) 5))
  .nil)
abbrev n_Game_len : Nat := 39
/-- Game.__len__: 0=self -/
def b_Game_len : Cs :=
  (.cons (.ret (.bi .len (.cons false (.fld (.loc 0) 3) .nil)))
  .nil)
abbrev n_Game_eq : Nat := 40
/-- Game.__eq__: 0=self 1=other -/
def b_Game_eq : Cs :=
  (.cons (.ite (.or (.not (.isin (.loc 1) (.own 0))) (.cmp .ne (.tup (.cons false (.fld (.loc 0) 1) (.cons false (.fld (.loc 0) 2) .nil))) (.tup (.cons false (.fld (.loc 1) 1) (.cons false (.fld (.loc 1) 2) .nil))))) (.cons (.ret (.con (.bl false)))
  .nil) .nil)
  (.cons (.ret (.and (.cmp .eq (.fld (.loc 0) 3) (.fld (.loc 1) 3)) (.and (.cmp .eq (.fld (.loc 0) 4) (.fld (.loc 1) 4)) (.cmp .eq (.fld (.loc 0) 5) (.fld (.loc 1) 5)))))
  .nil))
abbrev n_Game_effects : Nat := 41
/-- Game.effects: 0=self 1=name 2=aim -/
def b_Game_effects : Cs :=
  (.cons (.ret (.lc2 (.tup (.cons false (.loc 1) (.cons false (.loc 2) .nil))) (.name 1) (.ex (.fld (.loc 0) 3)) (.name 2) (.range (.fld (.loc 0) 1)) [1, 2] [2]))
  .nil)
abbrev n_Game_tables : Nat := 42
/-- Game.tables: 0=self 1=found 2=place 3=table 4=number -/
def b_Game_tables : Cs :=
  (.cons (.asg (.name 1) (.lst (.cons false (.tup .nil) .nil)))
  (.cons (.for_ (.name 2) (.range (.fld (.loc 0) 1)) (.cons (.asg (.name 1) (.lc2 (.tup (.cons true (.loc 3) (.cons false (.loc 4) .nil))) (.name 3) (.ex (.loc 1)) (.name 4) (.range (.bin .add (.fld (.loc 0) 2) (.con (.int 1)))) [3, 4] [4]))
  .nil))
  (.cons (.ret (.loc 1))
  .nil)))
abbrev n_Game_is_effect : Nat := 43
/-- Game.is_effect: 0=self 1=value -/
def b_Game_is_effect : Cs :=
  (.cons (.ite (.or (.not (.isin (.loc 1) .tuple)) (.cmp .ne (.bi .len (.cons false (.loc 1) .nil)) (.con (.int 2)))) (.cons (.ret (.con (.bl false)))
  .nil) .nil)
  (.cons (.ret (.call 10 (.cons false (.fld (.loc 0) 1) (.cons false (.fld (.loc 0) 3) (.cons false (.idx (.loc 1) (.con (.int 0))) (.cons false (.idx (.loc 1) (.con (.int 1))) .nil))))))
  .nil))
abbrev n_Game_can_lay : Nat := 44
/-- Game.can_lay: 0=self 1=table 2=top 3=effect 4=test 5=opens 6=answers 7=act -/
def b_Game_can_lay : Cs :=
  (.cons (.asg (.cons (.name 4) (.cons (.name 5) (.cons (.name 6) (.cons (.name 7) .nil)))) (.idx (.fld (.loc 0) 3) (.idx (.loc 3) (.con (.int 0)))))
  (.cons (.ite (.and (.cmp .notN (.loc 4) (.con .non)) (.cmp .ne (.idx (.loc 1) (.idx (.loc 4) (.con (.int 0)))) (.idx (.loc 4) (.con (.int 1))))) (.cons (.ret (.con (.bl false)))
  .nil) .nil)
  (.cons (.ret (.ite (.cmp .isN (.loc 2) (.con .non)) (.loc 5) (.cmp .in_ (.idx (.loc 2) (.con (.int 0))) (.loc 6))))
  .nil)))
abbrev n_Game_moved : Nat := 45
/-- Game.moved: 0=self 1=table 2=effect 3=found 4=laid 5=word 6=where 7=number 8=place 9=before 10=off -/
def b_Game_moved : Cs :=
  (.cons (.asg (.cons (.name 3) (.cons (.name 4) .nil)) (.tup (.cons false (.bi .list (.cons false (.loc 1) .nil)) (.cons false (.lst .nil) .nil))))
  (.cons (.for_ (.cons (.name 5) (.cons (.name 6) (.cons (.name 7) .nil))) (.ex (.idx (.idx (.idx (.fld (.loc 0) 3) (.idx (.loc 2) (.con (.int 0)))) (.con (.int 3))) (.con (.int 1)))) (.cons (.asg (.name 8) (.ite (.cmp .eq (.loc 6) (.con (.str [97, 105, 109]))) (.idx (.loc 2) (.con (.int 1))) (.loc 6)))
  (.cons (.asg (.name 9) (.idx (.loc 3) (.loc 8)))
  (.cons (.ite (.cmp .eq (.loc 5) (.con (.str [115, 101, 116]))) (.cons (.asgI (.loc 3) (.loc 8) (.loc 7))
  .nil) (.cons (.asgI (.loc 3) (.loc 8) (.bi .max (.cons false (.con (.int 0)) (.cons false (.bi .min (.cons false (.fld (.loc 0) 2) (.cons false (.bin .add (.loc 9) (.ite (.cmp .eq (.loc 5) (.con (.str [117, 112]))) (.con (.int 1)) (.neg (.con (.int 1))))) .nil))) .nil))))
  .nil))
  (.cons (.ite (.cmp .ne (.idx (.loc 3) (.loc 8)) (.loc 9)) (.cons (.ex (.bm (.loc 4) .extend (.cons false (.lc (.tup (.cons false (.idx (.loc 10) (.con (.int 2))) (.cons false (.idx (.loc 10) (.con (.int 3))) .nil))) (.name 10) (.ex (.fld (.loc 0) 4)) (.cmp .eq (.slc (.loc 10) (.con .non) (.chk (.con (.int 2)))) (.tup (.cons false (.loc 8) (.cons false (.idx (.loc 3) (.loc 8)) .nil)))) [10]) .nil)))
  .nil) .nil)
  .nil)))))
  (.cons (.ret (.tup (.cons false (.bi .tuple (.cons false (.loc 3) .nil)) (.cons false (.loc 4) .nil))))
  .nil)))
abbrev n_Record_init : Nat := 46
/-- Record.__init__: 0=self 1=table 2=pile 3=tables 4=done -/
def b_Record_init : Cs :=
  (.cons (.asgF (.loc 0) 6 (.loc 1))
  (.cons (.asgF (.loc 0) 7 (.loc 2))
  (.cons (.asgF (.loc 0) 8 (.loc 3))
  (.cons (.asgF (.loc 0) 9 (.loc 4))
  .nil))))
abbrev n_Record_table : Nat := 47
/-- Record.table: 0=self -/
def b_Record_table : Cs :=
  (.cons (.ret (.fld (.loc 0) 6))
  .nil)
abbrev n_Record_pile : Nat := 48
/-- Record.pile: 0=self -/
def b_Record_pile : Cs :=
  (.cons (.ret (.bi .list (.cons false (.fld (.loc 0) 7) .nil)))
  .nil)
abbrev n_Record_len : Nat := 49
/-- Record.__len__: 0=self -/
def b_Record_len : Cs :=
  (.cons (.ret (.bi .len (.cons false (.fld (.loc 0) 9) .nil)))
  .nil)
abbrev n_Record_eq : Nat := 50
/-- Record.__eq__: 0=self 1=other -/
def b_Record_eq : Cs :=
  (.cons (.ite (.or (.not (.isin (.loc 1) (.own 1))) (.or (.cmp .ne (.fld (.loc 0) 6) (.fld (.loc 1) 6)) (.cmp .ne (.bi .len (.cons false (.loc 0) .nil)) (.bi .len (.cons false (.loc 1) .nil))))) (.cons (.ret (.con (.bl false)))
  .nil) .nil)
  (.cons (.ret (.and (.cmp .eq (.fld (.loc 0) 7) (.fld (.loc 1) 7)) (.cmp .eq (.fld (.loc 0) 8) (.fld (.loc 1) 8))))
  .nil))
def fnsL : List FnI := [⟨1, 1, b_is_integer⟩, ⟨2, 2, b_is_below⟩, ⟨1, 2, b_is_name⟩, ⟨1, 1, b_is_size⟩, ⟨3, 6, b_is_step⟩, ⟨3, 4, b_is_act⟩, ⟨3, 3, b_is_test⟩, ⟨2, 5, b_are_answers⟩, ⟨4, 4, b_is_kind⟩, ⟨3, 4, b_check_kinds⟩, ⟨4, 4, b_is_effect_of⟩, ⟨4, 4, b_is_off⟩, ⟨4, 6, b_check_offs⟩, ⟨3, 4, b_is_table_of⟩, ⟨2, 2, b_turned⟩, ⟨3, 8, b_resolved⟩, ⟨2, 2, b_is_deed⟩, ⟨4, 5, b_behind⟩, ⟨2, 9, b_replay⟩, ⟨1, 1, b_law_draws⟩, ⟨2, 4, b_law_pick⟩, ⟨2, 4, b_law_step⟩, ⟨2, 4, b_law_act⟩, ⟨3, 6, b_law_kind⟩, ⟨2, 4, b_law_off⟩, ⟨3, 8, b_law_drawn⟩, ⟨1, 1, b_law_made⟩, ⟨1, 4, b_law_effects⟩, ⟨4, 8, b_law_can_lay⟩, ⟨3, 14, b_law_moved⟩, ⟨3, 8, b_law_resolved⟩, ⟨2, 4, b_law_told⟩, ⟨1, 14, b_law⟩, ⟨6, 7, b_Game_init⟩, ⟨1, 1, b_Game_places⟩, ⟨1, 1, b_Game_top⟩, ⟨1, 1, b_Game_kinds⟩, ⟨1, 1, b_Game_offs⟩, ⟨1, 1, b_Game_start⟩, ⟨1, 1, b_Game_len⟩, ⟨2, 2, b_Game_eq⟩, ⟨1, 3, b_Game_effects⟩, ⟨1, 5, b_Game_tables⟩, ⟨2, 2, b_Game_is_effect⟩, ⟨4, 8, b_Game_can_lay⟩, ⟨3, 11, b_Game_moved⟩, ⟨5, 5, b_Record_init⟩, ⟨1, 1, b_Record_table⟩, ⟨1, 1, b_Record_pile⟩, ⟨1, 1, b_Record_len⟩, ⟨2, 2, b_Record_eq⟩]
abbrev a_name : Nat := 0
abbrev a_many : Nat := 1
abbrev a_most : Nat := 2
abbrev a_cards : Nat := 3
abbrev a_sets : Nat := 4
abbrev a_first : Nat := 5
abbrev a_last_table : Nat := 6
abbrev a_last_pile : Nat := 7
abbrev a_empty_tables : Nat := 8
abbrev a_done : Nat := 9
abbrev a_moved : Nat := 10
abbrev a_can_lay : Nat := 11
abbrev a_is_effect : Nat := 12
abbrev a_places : Nat := 13
abbrev a_top : Nat := 14
abbrev a_kinds : Nat := 15
abbrev a_offs : Nat := 16
abbrev a_start : Nat := 17
abbrev a_effects : Nat := 18
abbrev a_tables : Nat := 19
abbrev a_table : Nat := 20
abbrev a_pile : Nat := 21
abbrev a_index : Nat := 22
abbrev c_Game : Nat := 0
abbrev c_Record : Nat := 1
abbrev e_PileError : Nat := 0
abbrev e_BadSize : Nat := 1
abbrev e_BadKind : Nat := 2
abbrev e_BadOff : Nat := 3
abbrev e_BadTable : Nat := 4
abbrev e_BadDeed : Nat := 5
def clsI : List ClI := [{ init := (some 33), meths := [(18, 41), (19, 42), (12, 43), (11, 44), (10, 45)], props := [(13, 34), (14, 35), (15, 36), (16, 37), (17, 38)], flds := [1, 2, 3, 4, 5], eqf := (some 40), lenf := (some 39), contf := none, getf := none, setf := none, up := [0] },
  { init := (some 46), meths := [], props := [(20, 47), (21, 48)], flds := [6, 7, 8, 9], eqf := (some 50), lenf := (some 49), contf := none, getf := none, setf := none, up := [1] }]
def exsI : List ExI := [{ exf := none, up := [0] },
  { exf := (some (0, [])), up := [1, 0] },
  { exf := (some (1, [(0, 0)])), up := [2, 0] },
  { exf := (some (1, [(22, 0)])), up := [3, 0] },
  { exf := (some (0, [])), up := [4, 0] },
  { exf := (some (1, [(22, 0)])), up := [5, 0] }]
def kinI : List (Nat × List (Option Nat)) := []
def pgL : Pg := ⟨fnsL, clsI, exsI, kinI, true⟩
end LA.Pu

namespace LA.Pu
/-- a row that is drawn from -/
def RowOk (S : Sto) (r : Nat) : Prop := ∃ (q : Nat) (ns : List Int) (a b c : Int) (k : Bool), S[r]? = some (.lst [.obj q, .int a, .int b, .int c] false) ∧ S[q]? = some (.lst (ns.map .int) k) ∧ q < r ∧ 0 ≤ a
theorem RowOk.set {S : Sto} {r : Nat} {q : Nat} {ns : List Int} {a b c : Int} {k : Bool} {a' b' c' : Int} (h : S[r]? = some (.lst [.obj q, .int a, .int b, .int c] false)) (hq : S[q]? = some (.lst (ns.map .int) k)) (lt : q < r) (ha : 0 ≤ a') :
    RowOk (S.set r (.lst [.obj q, .int a', .int b', .int c'] false)) r := ⟨q, ns, a', b', c', k, get_set h, by rw [get_setN (Nat.ne_of_gt lt)]; exact hq, lt, ha⟩
theorem RowOk.ext {S S' : Sto} {r : Nat} (h : RowOk S r) (e : Ext S S') : RowOk S' r := by
  obtain ⟨q, ns, a, b, c, k, h1, h2, h3, h4⟩ := h
  exact ⟨q, ns, a, b, c, k, e.get h1, e.get h2, h3, h4⟩
theorem RowOk.setN {S : Sto} {r i : Nat} {o : Ob} (h : RowOk S r) (lt : r < i) : RowOk (S.set i o) r := by
  obtain ⟨q, ns, a, b, c, k, h1, h2, h3, h4⟩ := h
  exact ⟨q, ns, a, b, c, k, by rw [get_setN (Nat.ne_of_gt lt)]; exact h1, by rw [get_setN (by omega)]; exact h2, h3, h4⟩
theorem get_pick : pgL.fns[n_law_pick]? = some ⟨2, 4, b_law_pick⟩ := rfl
def pickE : Cs := match b_law_pick with
  | .cons _ r => r
  | _ => .nil
/-- the second half of a pick -/
theorem pick_end {cl} {N : Nat} {S : Sto} {r q : Nat} {ns : List Int} {a b c : Int} {kk : Bool} {m : Int} {x : Option D} {K : R D → Sto → Prop} (hS : S[r]? = some (.lst [.obj q, .int a, .int b, .int c] false)) (hq : S[q]? = some (.lst (ns.map .int) kk)) (lt : q < r) (ha : 0 ≤ a) (hm : 0 < m) (hm2 : m < 1073741824)
    (h : ∀ v S', 0 ≤ v → v < m → ExR r S S' → RowOk S' r → S'.length = S.length → K (.ok (.int v)) S') : wp (evCs pgL cl N [some (.obj r), some (.int m), none, x] pickE) S (rk K) := by
  unfold pickE b_law_pick
  simp [hS, hq, wp_idx, idxD, atI, ixN]
  by_cases hb : 0 < b
  · simp [hb, truth, hS, wp_idx, idxD, atI, ixN, bin_mod hm, bin_fdiv hm hm2, setTg, setI]
    exact h _ _ (Int.emod_nonneg _ (by omega)) (Int.emod_lt_of_pos _ hm) (ExR.set _ _ _) (RowOk.set hS hq lt ha) (by simp)
  · simp [hb, truth, hS, wp_idx, idxD, atI, ixN, bin_mod hm, bin_mod (show (0 : Int) < 2147483629 by decide)]
    exact h _ _ (Int.emod_nonneg _ (by omega)) (Int.emod_lt_of_pos _ hm) (ExR.refl _) ⟨q, ns, a, b, c, kk, hS, hq, lt, ha⟩ rfl
theorem pick_spec {N k : Nat} {S : Sto} {r : Nat} {m : Int} {K : R D → Sto → Prop} (hr : RowOk S r) (hm : 0 < m) (hm2 : m < 1073741824)
    (h : ∀ v S', 0 ≤ v → v < m → ExR r S S' → RowOk S' r → S'.length = S.length → K (.ok (.int v)) S') : wp (call pgL N (k + 1) n_law_pick [.obj r, .int m]) S K := by
  obtain ⟨q, ns, a, b, c, kk, hS, hq, lt, ha⟩ := hr
  rw [wp_call get_pick ⟨rfl, by decide⟩]
  show wp (evCs _ _ _ _ b_law_pick) S _
  have e : b_law_pick = .cons (match b_law_pick with | .cons c _ => c | _ => .pass) pickE := rfl
  rw [e, wCs_cons]
  unfold b_law_pick
  have fin : ∀ (S' : Sto) (x : Option D) (a' b' c' : Int), S'[r]? = some (.lst [.obj q, .int a', .int b', .int c'] false) → S'[q]? = some (.lst (ns.map .int) kk) → 0 ≤ a' → ExR r S S' → S'.length = S.length → wp (evCs pgL (call pgL N k) N [some (.obj r), some (.int m), none, x] pickE) S' (rk K) := by
    intro S' x a' b' c' h1 h2 h3 h4 h5
    exact pick_end h1 h2 lt h3 hm hm2 fun v S2 v0 v1 e2 r2 l2 => h v S2 v0 v1 (h4.trans e2) r2 (by omega)
  simp [hS, hq, wp_idx, idxD, atI, ixN]
  by_cases hb : b = 0
  · simp [hb, truth, hS, hq, wp_idx, idxD, atI, ixN, bi_lenl hq]
    by_cases hl : a < (ns.length : Int)
    · obtain ⟨j, rfl⟩ := Int.eq_ofNat_of_zero_le ha
      have g : j < ns.length := by omega
      have ga : atI (ns.map D.int) (j : Int) = some (D.int ns[j]) := by rw [atI_nat (by simpa using g)]; simp
      simp [hl, truth, hS, wp_idx, idxD, ga, setTg, setI, List.getElem?_eq_getElem g]
      simp [hS, atI, ixN, hq, wp_idx, idxD, setI]
      have hS2 := get_set (o := .lst [.obj q, .int ((j : Int) + 1), .int b, .int c] false) hS
      have hq2 : (S.set r (.lst [.obj q, .int ((j : Int) + 1), .int b, .int c] false))[q]? = some (.lst (ns.map .int) kk) := by rw [get_setN (Nat.ne_of_gt lt)]; exact hq
      by_cases h18 : (1000000000000000000 : Int) ≤ ns[j]
      · simp [h18, truth, setI, hS, atI, ixN, hS2]
        exact fin _ _ _ _ _ (get_set hS) (by rw [get_setN (Nat.ne_of_gt lt)]; exact hq) (by omega) (ExR.set _ _ _) (by simp)
      · simp [h18, truth, setI, hS, wp_idx, idxD, atI, ixN, hS2, bin_mod (show (0 : Int) < 2147483647 by decide)]
        exact fin _ _ _ _ _ (get_set hS) (by rw [get_setN (Nat.ne_of_gt lt)]; exact hq) (by omega) (ExR.set _ _ _) (by simp)
    · simp [hl, truth, hS, wp_idx, idxD, atI, ixN, ha, setTg, setI, bin_mod (show (0 : Int) < 2147483647 by decide)]
      exact fin _ _ _ _ _ (get_set hS) (by rw [get_setN (Nat.ne_of_gt lt)]; exact hq) ha (ExR.set _ _ _) (by simp)
  · simp [hb, truth]
    exact fin _ _ _ _ _ hS hq ha (ExR.refl _) rfl
end LA.Pu

/-! Drawn games. -/
namespace LA.Pu
abbrev sUp : List Nat := [117, 112]
abbrev sDown : List Nat := [100, 111, 119, 110]
abbrev sSet : List Nat := [115, 101, 116]
abbrev sAim : List Nat := [97, 105, 109]
abbrev sOff : List Nat := [111, 102, 102]
abbrev sCopy : List Nat := [99, 111, 112, 121]
abbrev sTurn : List Nat := [116, 117, 114, 110]
abbrev sMove : List Nat := [109, 111, 118, 101]
abbrev kPlaces : Ky := .s [112, 108, 97, 99, 101, 115]
abbrev kTop : Ky := .s [116, 111, 112]
abbrev kKinds : Ky := .s [107, 105, 110, 100, 115]
abbrev kOffs : Ky := .s [111, 102, 102, 115]
abbrev kStart : Ky := .s [115, 116, 97, 114, 116]
inductive W3 where
  | up | down | set
  deriving DecidableEq
def W3.s : W3 → List Nat
  | .up => sUp
  | .down => sDown
  | .set => sSet
structure Stp where
  w : W3
  wh : Option Int
  n : Int
def Stp.whD (s : Stp) : D := match s.wh with
  | none => .str sAim
  | some p => .int p
def Stp.D (s : Stp) : D := .tup [.str s.w.s, s.whD, .int s.n]
structure Stp.ok (p t : Int) (s : Stp) : Prop where
  wh : ∀ x, s.wh = some x → 0 ≤ x ∧ x < p
  n0 : 0 ≤ s.n
  n1 : s.w = .set → s.n < t + 1
  n2 : s.w ≠ .set → s.n = 0
inductive Act where
  | off | copy | turn (q : Int) | move (l : List Stp)
def Act.D : Act → D
  | .off => .tup [.str sOff]
  | .copy => .tup [.str sCopy]
  | .turn q => .tup [.str sTurn, .int q]
  | .move l => .tup [.str sMove, .tup (l.map Stp.D)]
def Act.ok (p t : Int) : Act → Prop
  | .turn q => 0 ≤ q ∧ q < p
  | .move l => 1 ≤ l.length ∧ l.length ≤ 2 ∧ ∀ s ∈ l, s.ok p t
  | _ => True
structure Knd where
  test : Option (Int × Int)
  opens : Bool
  ans : List (List Nat)
  act : Act
def Knd.testD (k : Knd) : D := match k.test with
  | none => .non
  | some (a, b) => .tup [.int a, .int b]
def Knd.D (k : Knd) : D := .tup [k.testD, .bl k.opens, .tup (k.ans.map D.str), k.act.D]
structure Knd.ok (p t : Int) (names : List (List Nat)) (k : Knd) : Prop where
  test : ∀ a b, k.test = some (a, b) → (0 ≤ a ∧ a < p) ∧ 0 ≤ b ∧ b < t + 1
  ans : k.ans.Sublist names
  act : k.act.ok p t
structure Offr where
  pl : Int
  n : Int
  kd : List Nat
  aim : Int
  deriving DecidableEq
def Offr.D (o : Offr) : D := .tup [.int o.pl, .int o.n, .str o.kd, .int o.aim]
structure Offr.ok (p t : Int) (names : List (List Nat)) (o : Offr) : Prop where
  pl : 0 ≤ o.pl ∧ o.pl < p
  n : 0 ≤ o.n ∧ o.n < t + 1
  kd : o.kd ∈ names
  aim : 0 ≤ o.aim ∧ o.aim < p
def NM : List (List Nat) := [[97], [98, 98], [99, 97], [100]]
structure Gm where
  p : Int
  t : Int
  ks : List Knd
  offs : List Offr
  start : List Int
def Gm.names (g : Gm) : List (List Nat) := NM.take g.ks.length
def kindsL (ns : List (List Nat)) (ks : List Knd) : List (Ky × D) := (ns.zip ks).map fun q => (Ky.s q.1, q.2.D)
def Gm.kinds (g : Gm) : List (Ky × D) := kindsL g.names g.ks
structure Gm.ok (most top : Nat) (g : Gm) : Prop where
  p : 1 ≤ g.p ∧ g.p ≤ 2
  t : 1 ≤ g.t ∧ g.t ≤ top
  ks : 1 ≤ g.ks.length ∧ g.ks.length ≤ most
  kok : ∀ k ∈ g.ks, k.ok g.p g.t g.names
  offs : ∀ o ∈ g.offs, o.ok g.p g.t g.names
  offsN : g.offs.Nodup
  offsL : g.offs.length ≤ 3
  stL : (g.start.length : Int) = g.p
  st : ∀ x ∈ g.start, 0 ≤ x ∧ x < g.t + 1
/-- a dict of a drawn game that has places and top ahead -/
def HasPT (S : Sto) (d : Nat) (p t : Int) : Prop := ∃ r, S[d]? = some (.dct ((kPlaces, .int p) :: (kTop, .int t) :: r) false)
theorem HasPT.pl {S : Sto} {d : Nat} {p t : Int} {K : R D → Sto → Prop} (h : HasPT S d p t) : wp (idxD (.obj d) (.str [112, 108, 97, 99, 101, 115])) S K = K (.ok (.int p)) S := by
  obtain ⟨r, h⟩ := h
  exact idx_dct h rfl (by simp [lookK])
theorem HasPT.tp {S : Sto} {d : Nat} {p t : Int} {K : R D → Sto → Prop} (h : HasPT S d p t) : wp (idxD (.obj d) (.str [116, 111, 112])) S K = K (.ok (.int t)) S := by
  obtain ⟨r, h⟩ := h
  exact idx_dct h rfl (by simp [lookK])
theorem HasPT.exr {S S' : Sto} {d r : Nat} {p t : Int} (h : HasPT S d p t) (e : ExR r S S') (n : d ≠ r) : HasPT S' d p t := by
  obtain ⟨q, h⟩ := h
  exact ⟨q, e.get n h⟩
theorem ne_of_lt' {a b : Nat} (h : a < b) : a ≠ b := Nat.ne_of_lt h
theorem RowOk.lt {S : Sto} {r : Nat} (h : RowOk S r) : r < S.length := by
  obtain ⟨q, ns, a, b, c, k, h1, _⟩ := h
  exact lt_of_get h1
theorem HasPT.lt {S : Sto} {d : Nat} {p t : Int} (h : HasPT S d p t) : d < S.length := by
  obtain ⟨q, h⟩ := h
  exact lt_of_get h
theorem three {v : Int} (h0 : 0 ≤ v) (h1 : v < 3) : v = 0 ∨ v = 1 ∨ v = 2 := by omega
theorem four {v : Int} (h0 : 0 ≤ v) (h1 : v < 4) : v = 0 ∨ v = 1 ∨ v = 2 ∨ v = 3 := by omega
theorem get_step : pgL.fns[n_law_step]? = some ⟨2, 4, b_law_step⟩ := rfl
theorem step_spec {N k : Nat} {S : Sto} {r d : Nat} {p t : Int} {K : R D → Sto → Prop} (hr : RowOk S r) (hd : HasPT S d p t) (ne : d ≠ r) (hp : 1 ≤ p) (ht : 1 ≤ t ∧ t ≤ 2)
    (h : ∀ (s : Stp) S', s.ok p t → ExR r S S' → RowOk S' r → K (.ok s.D) S') : wp (call pgL N (k + 2) n_law_step [.obj r, .obj d]) S K := by
  rw [wp_call get_step ⟨rfl, by decide⟩]
  unfold b_law_step
  simp [sizeL]
  refine pick_spec (hr.ext (Ext.app _ _)) (by decide) (by decide) fun v S1 v0 v1 x1 r1 l1 => ?_
  have hn := hr.lt
  have hl := x1.get (by omega) (get_new S _)
  obtain ⟨w, hw⟩ : ∃ w : W3, atI [D.str sUp, .str sDown, .str sSet] v = some (.str w.s) := by
    rcases three v0 v1 with rfl | rfl | rfl
    · exact ⟨.up, rfl⟩
    · exact ⟨.down, rfl⟩
    · exact ⟨.set, rfl⟩
  have hd1 : HasPT S1 d p t := hd.exr ((Ext.app _ _).exr.trans x1) ne
  simp [idx_lst hl hw, setTg, hd1.pl, sizeL]
  refine pick_spec (r1.ext (Ext.app _ _)) (by decide) (by decide) fun v2 S2 v20 v21 x2 r2 l2 => ?_
  have hn1 := r1.lt
  have hl2 := x2.get (by omega) (get_new S1 _)
  obtain ⟨wh, hwh, wok⟩ : ∃ wh : Option Int, atI [D.str sAim, .str sAim, .int 0, .int (p - 1)] v2 = some (Stp.whD ⟨w, wh, 0⟩) ∧ ∀ x, wh = some x → 0 ≤ x ∧ x < p := by
    rcases four v20 v21 with rfl | rfl | rfl | rfl
    · exact ⟨none, rfl, fun x e => by cases e⟩
    · exact ⟨none, rfl, fun x e => by cases e⟩
    · exact ⟨some 0, rfl, fun x e => by cases e; omega⟩
    · exact ⟨some (p - 1), rfl, fun x e => by cases e; omega⟩
  have hd2 : HasPT S2 d p t := hd1.exr ((Ext.app _ _).exr.trans x2) ne
  have X2 : ExR r S S2 := ((Ext.app _ _).exr.trans x1).trans ((Ext.app _ _).exr.trans x2)
  simp [idx_lst hl2 hwh, setTg, truth, sizeL]
  by_cases hs : w = .set
  · subst hs
    simp [W3.s, hd2.tp, sizeL]
    refine pick_spec r2 (by omega) (by omega) fun v3 S3 v30 v31 x3 r3 l3 => ?_
    simp [sizeL]
    exact h ⟨.set, wh, v3⟩ S3 ⟨wok, v30, fun _ => v31, fun q => (q rfl).elim⟩ (X2.trans x3) r3
  · have hs' : w.s ≠ [115, 101, 116] := by cases w <;> first | exact (hs rfl).elim | decide
    simp [hs', sizeL]
    exact h ⟨w, wh, 0⟩ S2 ⟨wok, Int.le_refl _, fun q => (hs q).elim, fun _ => rfl⟩ X2 r2
theorem HasPT.ext {S S' : Sto} {d : Nat} {p t : Int} (h : HasPT S d p t) (e : Ext S S') : HasPT S' d p t := by
  obtain ⟨q, h⟩ := h
  exact ⟨q, e.get h⟩
theorem dig (b : Int) {v : Int} (h0 : 0 ≤ v) (h1 : v < b) : 0 ≤ v ∧ v < b := ⟨h0, h1⟩
theorem get_act : pgL.fns[n_law_act]? = some ⟨2, 4, b_law_act⟩ := rfl
theorem rangeD_get {n : Int} {k : Nat} {d : D} (h : (rangeD 0 n)[k]? = some d) : d = .int k := by
  unfold rangeD at h
  rw [List.getElem?_map] at h
  obtain ⟨j, h1, h2⟩ := Option.map_eq_some_iff.mp h
  rw [List.getElem?_range] at h1
  · cases h1; rw [← h2]; simp
  · by_cases q : k < (n - 0).toNat
    · exact q
    · rw [List.getElem?_eq_none (by simpa using q)] at h1; cases h1
theorem rangeD_len {n : Int} : (rangeD 0 n).length = n.toNat := by simp [rangeD]
theorem act_spec {N k : Nat} {S : Sto} {r d : Nat} {p t : Int} {K : R D → Sto → Prop} (hr : RowOk S r) (hd : HasPT S d p t) (ne : d ≠ r) (hp : 1 ≤ p ∧ p ≤ 2) (ht : 1 ≤ t ∧ t ≤ 2)
    (h : ∀ (a : Act) S', a.ok p t → ExR r S S' → RowOk S' r → K (.ok a.D) S') : wp (call pgL N (k + 3) n_law_act [.obj r, .obj d]) S K := by
  rw [wp_call get_act ⟨rfl, by decide⟩]
  unfold b_law_act
  simp
  refine pick_spec hr (by decide) (by decide) fun v S1 v0 v1 x1 r1 l1 => ?_
  have hd1 := hd.exr x1 ne
  simp [setTg]
  by_cases e0 : v = 0
  · simp [e0, truth, sizeL]
    exact h .off S1 trivial x1 r1
  by_cases e1 : v = 1
  · simp [e0, e1, truth, sizeL]
    exact h .copy S1 trivial x1 r1
  by_cases e2 : v = 2
  · simp [e0, e1, e2, truth, hd1.pl]
    refine pick_spec r1 (by omega) (by omega) fun v S2 v0 v1 x2 r2 l2 => ?_
    simp [sizeL]
    exact h (.turn v) S2 ⟨v0, v1⟩ (x1.trans x2) r2
  simp [e0, e1, e2, truth]
  refine pick_spec r1 (by decide) (by decide) fun v S2 v0 v1 x2 r2 l2 => ?_
  have hn : (1 + v).toNat ≤ 2 := by omega
  have hn1 : 1 ≤ (1 + v).toNat := by omega
  have hd2 := hd1.exr x2 ne
  have X2 := x1.trans x2
  simp [show -1000000 < 1 + v by omega, show 1 + v < 1000000 by omega]
  refine wp_loopC (fun j S' => ∃ l : List Stp, l.length = j ∧ (∀ s ∈ l, s.ok p t) ∧ S'[S2.length]? = some (.lst (l.map Stp.D) false) ∧ ExR r S2 S' ∧ RowOk S' r) ?_ ?_ ?_
  · exact ⟨[], rfl, by simp, get_new _ _, (Ext.app _ _).exr, r2.ext (Ext.app _ _)⟩
  · intro I hI j dd S3 hj ⟨l, hl, hok, hg, x3, r3⟩
    have hj2 : j < (1 + v).toNat := by
      have := (List.getElem?_eq_some_iff.mp hj).1
      rw [rangeD_len] at this
      exact this
    simp [setTg, wipe, truth]
    refine step_spec r3 (hd2.exr x3 ne) ne hp.1 ht fun s S4 sok x4 r4 => ?_
    have hg4 := x4.get (Nat.ne_of_gt r2.lt) hg
    have : l.length < sizeL := by unfold sizeL; omega
    simp [appO, hg4, this]
    refine hI _ _ ⟨l ++ [s], by simp [hl], fun q hq => ?_, by simpa using get_set hg4, (x3.trans x4).setN (Nat.le_refl _), r4.setN r2.lt⟩
    rcases List.mem_append.mp hq with q1 | q1
    · exact hok q q1
    · rw [List.mem_singleton.mp q1]; exact sok
  · intro S3 ⟨l, hl, hok, hg, x3, r3⟩
    rw [rangeD_len] at hl
    simp [bi_tupl hg, sizeL]
    exact h (.move l) S3 ⟨by omega, by omega, hok⟩ (X2.trans x3) r3
end LA.Pu

/-! Drawn games: kinds, set-offs, the whole. -/
namespace LA.Pu
theorem get_kind : pgL.fns[n_law_kind]? = some ⟨3, 6, b_law_kind⟩ := rfl
/-- the part behind the test -/
def kindE : Cs := match b_law_kind with
  | .cons _ (.cons _ r) => r
  | _ => .nil
theorem kind_end {N k : Nat} {S : Sto} {r d nl : Nat} {p t : Int} {ns : List (List Nat)} {td : D} {K : R D → Sto → Prop} (hr : RowOk S r) (hd : HasPT S d p t) (ne : d ≠ r) (hp : 1 ≤ p ∧ p ≤ 2) (ht : 1 ≤ t ∧ t ≤ 2) (hn : S[nl]? = some (.lst (ns.map .str) false)) (nn : nl ≠ r) (h4 : ns.length ≤ 4)
    (h : ∀ (o : Bool) (an : List (List Nat)) (a : Act) S', an.Sublist ns → a.ok p t → ExR r S S' → RowOk S' r → K (.ok (.tup [td, .bl o, .tup (an.map .str), a.D])) S') :
    wp (evCs pgL (call pgL N (k + 3)) N [some (.obj r), some (.obj d), some (.obj nl), some td, none, none] kindE) S (rk K) := by
  unfold kindE b_law_kind
  simp [wk_lst hn, Wk.len]
  rw [show ns.length = (ns.map D.str).length by simp]
  refine wp_loopCL (fun j S' => ∃ l : List (List Nat), l.Sublist (ns.take j) ∧ S'[S.length]? = some (.lst (l.map D.str) false) ∧ ExR r S S' ∧ RowOk S' r) ?_ ?_ ?_ ?_
  · exact ⟨[], by simp, get_new _ _, (Ext.app _ _).exr, hr.ext (Ext.app _ _)⟩
  · intro j S' ⟨l, _, _, x, _⟩
    exact ⟨false, x.get nn hn⟩
  · intro I hI j dd S1 hj ⟨l, hl, hg, x1, r1⟩
    rw [List.getElem?_map] at hj
    obtain ⟨nm, hnm, rfl⟩ := Option.map_eq_some_iff.mp hj
    have tk : ns.take (j + 1) = ns.take j ++ [nm] := by rw [List.take_succ, hnm]; rfl
    simp [setTg, wipe]
    refine pick_spec r1 (by decide) (by decide) fun v S2 v0 v1 x2 r2 l2 => ?_
    have hg2 := x2.get (Nat.ne_of_gt hr.lt) hg
    have hll : l.length < sizeL := by
      have := hl.length_le
      simp at this
      unfold sizeL; omega
    by_cases e : v = 0
    · simp [e, truth, appO, hg2, hll]
      refine hI _ _ ⟨l ++ [nm], ?_, by simpa using get_set hg2, (x1.trans x2).setN (Nat.le_refl _), r2.setN hr.lt⟩
      rw [tk]
      exact hl.append (List.Sublist.refl _)
    · simp [e, truth]
      refine hI _ _ ⟨l, ?_, hg2, x1.trans x2, r2⟩
      rw [tk]
      exact hl.trans (List.sublist_append_left _ _)
  · intro S1 ⟨l, hl, hg, x1, r1⟩
    have hl' : l.Sublist ns := by simpa using hl
    simp [bi_tupl hg, setTg]
    refine pick_spec r1 (by decide) (by decide) fun v S2 v0 v1 x2 r2 l2 => ?_
    simp
    refine act_spec r2 (hd.exr (x1.trans x2) ne) ne hp ht fun a S3 aok x3 r3 => ?_
    simp [sizeL]
    exact h _ l a S3 hl' aok ((x1.trans x2).trans x3) r3
theorem kind_spec {N k : Nat} {S : Sto} {r d nl : Nat} {p t : Int} {ns : List (List Nat)} {K : R D → Sto → Prop} (hr : RowOk S r) (hd : HasPT S d p t) (ne : d ≠ r) (hp : 1 ≤ p ∧ p ≤ 2) (ht : 1 ≤ t ∧ t ≤ 2) (hn : S[nl]? = some (.lst (ns.map .str) false)) (nn : nl ≠ r) (h4 : ns.length ≤ 4)
    (h : ∀ (q : Knd) S', q.ok p t ns → ExR r S S' → RowOk S' r → K (.ok q.D) S') : wp (call pgL N (k + 4) n_law_kind [.obj r, .obj d, .obj nl]) S K := by
  rw [wp_call get_kind ⟨rfl, by decide⟩]
  have e : b_law_kind = .cons (match b_law_kind with | .cons c _ => c | _ => .pass) (.cons (match b_law_kind with | .cons _ (.cons c _) => c | _ => .pass) kindE) := rfl
  show wp (evCs _ _ _ _ b_law_kind) _ _
  rw [e]
  unfold b_law_kind
  simp [setTg]
  refine pick_spec hr (by decide) (by decide) fun v S1 v0 v1 x1 r1 l1 => ?_
  have hd1 := hd.exr x1 ne
  have hn1 := x1.get nn hn
  by_cases e : v = 0
  · simp [e, truth, hd1.pl]
    refine pick_spec r1 (by omega) (by omega) fun a S2 a0 a1 x2 r2 l2 => ?_
    simp [(hd1.exr x2 ne).tp]
    refine pick_spec r2 (by omega) (by omega) fun b S3 b0 b1 x3 r3 l3 => ?_
    simp [sizeL, setTg]
    have X3 := x2.trans x3
    refine kind_end r3 (hd1.exr X3 ne) ne hp ht (X3.get nn hn1) nn h4 fun o an ac S4 sl aok x4 r4 => ?_
    exact h ⟨some (a, b), o, an, ac⟩ S4 ⟨fun a' b' q => by cases q; exact ⟨⟨a0, a1⟩, b0, b1⟩, sl, aok⟩ ((x1.trans X3).trans x4) r4
  · simp [e, truth]
    refine kind_end r1 hd1 ne hp ht hn1 nn h4 fun o an ac S4 sl aok x4 r4 => ?_
    exact h ⟨none, o, an, ac⟩ S4 ⟨(fun a' b' q => by cases q), sl, aok⟩ (x1.trans x4) r4
theorem NM_take_sorted (n : Nat) (h : n ≤ 4) : sortD ((NM.take n).map .str) = some ((NM.take n).map .str) := by
  have : n = 0 ∨ n = 1 ∨ n = 2 ∨ n = 3 ∨ n = 4 := by omega
  rcases this with rfl | rfl | rfl | rfl | rfl <;> rfl
theorem kindsL_keys : ∀ (ns : List (List Nat)) (ks : List Knd), ns.length = ks.length → (kindsL ns ks).map (fun kv => ofKy kv.1) = ns.map .str
  | [], [], _ => rfl
  | n :: ns, k :: ks, h => by
    show ofKy (Ky.s n) :: (kindsL ns ks).map (fun kv => ofKy kv.1) = _
    rw [kindsL_keys ns ks (by simpa using h)]; rfl
  | [], _ :: _, h => by cases h
  | _ :: _, [], h => by cases h
theorem NM_take_len {n : Nat} (h : n ≤ 4) : (NM.take n).length = n := by
  rw [List.length_take]
  show min n 4 = n
  omega
theorem get_off : pgL.fns[n_law_off]? = some ⟨2, 4, b_law_off⟩ := rfl
theorem off_spec {N k : Nat} {S : Sto} {r d kd : Nat} {p t : Int} {nm : List (List Nat)} {kvs rest : List (Ky × D)} {K : R D → Sto → Prop} (hr : RowOk S r)
    (hd : S[d]? = some (.dct ((kPlaces, .int p) :: (kTop, .int t) :: (kKinds, .obj kd) :: rest) false)) (hk : S[kd]? = some (.dct kvs false)) (hkeys : kvs.map (fun kv => ofKy kv.1) = nm.map .str) (hsort : sortD (nm.map .str) = some (nm.map .str))
    (ne : d ≠ r) (nk : kd ≠ r) (hp : 1 ≤ p ∧ p ≤ 2) (ht : 1 ≤ t ∧ t ≤ 2) (h4 : 1 ≤ nm.length ∧ nm.length ≤ 4)
    (h : ∀ (o : Offr) S', o.ok p t nm → ExR r S S' → RowOk S' r → K (.ok o.D) S') : wp (call pgL N (k + 2) n_law_off [.obj r, .obj d]) S K := by
  have hPT : HasPT S d p t := ⟨_, hd⟩
  rw [wp_call get_off ⟨rfl, by decide⟩]
  unfold b_law_off
  simp [idx_dct hd (a := .str [107, 105, 110, 100, 115]) rfl (by simp [lookK]; rfl), bi_listd hk]
  rw [hkeys]
  have g1 : (S ++ [Ob.lst (nm.map .str) false])[S.length]? = some (.lst (nm.map .str) false) := get_new _ _
  rw [bi_sortl g1 hsort]
  generalize hS1 : S ++ [Ob.lst (nm.map .str) false] = S1 at *
  have x1 : Ext S (S1 ++ [Ob.lst (nm.map .str) false]) := by subst hS1; exact (Ext.app _ _).trans (Ext.app _ _)
  have g2 : (S1 ++ [Ob.lst (nm.map .str) false])[S1.length]? = some (.lst (nm.map .str) false) := get_new _ _
  have lt1 : S.length < S1.length := by subst hS1; simp
  simp [setTg, (hPT.ext x1).tp]
  refine pick_spec (hr.ext x1) (by omega) (by omega) fun a S2 a0 a1 x2 r2 l2 => ?_
  have X2 := x1.exr.trans x2
  simp [setTg, (hPT.exr X2 ne).pl]
  refine pick_spec r2 (by omega) (by omega) fun b S3 b0 b1 x3 r3 l3 => ?_
  have X3 := X2.trans x3
  have nr : S1.length ≠ r := by have := hr.lt; omega
  have g3 := x3.get nr (x2.get nr g2)
  simp [bi_lenl g3]
  refine pick_spec r3 (by omega) (by omega) fun c S4 c0 c1 x4 r4 l4 => ?_
  have g4 := x4.get nr g3
  have X4 := X3.trans x4
  obtain ⟨nn, hnn, hmem⟩ : ∃ nn, atI (nm.map D.str) c = some (.str nn) ∧ nn ∈ nm := by
    obtain ⟨j, g, rfl, e⟩ := atI_lt (xs := nm.map D.str) c0 (by simpa using c1)
    exact ⟨nm[j]'(by simpa using g), by rw [e]; simp, List.getElem_mem _⟩
  simp [idx_lst g4 hnn, (hPT.exr X4 ne).pl]
  refine pick_spec r4 (by omega) (by omega) fun e S5 e0 e1 x5 r5 l5 => ?_
  simp [sizeL]
  exact h ⟨b, a, nn, e⟩ S5 ⟨⟨b0, b1⟩, ⟨a0, a1⟩, hmem, e0, e1⟩ (X4.trans x5) r5
theorem get_drawn : pgL.fns[n_law_drawn]? = some ⟨3, 8, b_law_drawn⟩ := rfl
/-- a drawn game's dict -/
def dEnt (g : Gm) (kd : Nat) : List (Ky × D) := [(kPlaces, .int g.p), (kTop, .int g.t), (kKinds, .obj kd), (kOffs, .tup (g.offs.map Offr.D)), (kStart, .tup (g.start.map D.int))]
def IsG (S : Sto) (d kd : Nat) (g : Gm) : Prop := S[d]? = some (.dct (dEnt g kd) false) ∧ S[kd]? = some (.dct g.kinds false)
theorem Offr.plain (o : Offr) : LA.Pu.plain o.D = true := rfl
theorem Offr.inj {a b : Offr} : eqV a.D b.D = decide (a = b) := by
  obtain ⟨a1, a2, a3, a4⟩ := a
  obtain ⟨b1, b2, b3, b4⟩ := b
  simp [Offr.D, eqV, eqVs, Bool.and_assoc]
theorem offs_plain : ∀ l : List Offr, plains (l.map Offr.D) = true
  | [] => rfl
  | o :: l => by show (LA.Pu.plain o.D && plains (l.map Offr.D)) = true; rw [offs_plain l]; rfl
theorem offs_dpt (o : Offr) : dpt o.D ≤ 100 := by show (6 : Nat) ≤ 100; decide
theorem offs_in {S : Sto} {o : Offr} {l : List Offr} : inSeq S o.D (l.map Offr.D) = some (decide (o ∈ l)) := by
  rw [inSeq_p o.plain (offs_plain l) (fun y hy => by obtain ⟨q, _, rfl⟩ := List.mem_map.mp hy; exact offs_dpt q)]
  congr 1
  induction l with
  | nil => rfl
  | cons a l ih =>
    simp only [List.map_cons, List.any_cons, ih, Offr.inj, List.mem_cons]
    by_cases h : a = o
    · simp [h]
    · simp [h, Ne.symm h]
theorem kinds_snoc {j : Nat} (hj : j < 4) {ks : List Knd} (hl : ks.length = j) {nm : List Nat} (hn : NM[j]? = some nm) (k : Knd) : putK (.s nm) k.D (kindsL (NM.take j) ks) = kindsL (NM.take (j + 1)) (ks ++ [k]) := by
  have : j = 0 ∨ j = 1 ∨ j = 2 ∨ j = 3 := by omega
  rcases this with rfl | rfl | rfl | rfl <;> cases hn
  · rcases ks with _ | _ <;> first | rfl | cases hl
  · rcases ks with _ | ⟨a, _ | _⟩ <;> first | rfl | cases hl
  · rcases ks with _ | ⟨a, _ | ⟨b, _ | _⟩⟩ <;> first | rfl | cases hl
  · rcases ks with _ | ⟨a, _ | ⟨b, _ | ⟨c, _ | _⟩⟩⟩ <;> first | rfl | cases hl
theorem kindsL_len {n : Nat} (h : n ≤ 4) {ks : List Knd} (e : ks.length = n) : (kindsL (NM.take n) ks).length = n := by
  simp [kindsL, e]; simp [NM]; omega
theorem drawn_spec {N k : Nat} {S : Sto} {r : Nat} {most top : Int} {K : R D → Sto → Prop} (hr : RowOk S r) (hm : 1 ≤ most ∧ most ≤ 4) (ht : 1 ≤ top ∧ top ≤ 2)
    (h : ∀ (g : Gm) d S', g.ok most.toNat top.toNat → IsG S' d (d + 1) g → S.length ≤ d → ExR r S S' → RowOk S' r → K (.ok (.obj d)) S') : wp (call pgL N (k + 5) n_law_drawn [.obj r, .int most, .int top]) S K := by
  rw [wp_call get_drawn ⟨rfl, by decide⟩]
  unfold b_law_drawn
  simp
  refine pick_spec (hr.ext (Ext.app _ _)) (by decide) (by decide) fun a S1 a0 a1 x1 r1 l1 => ?_
  simp
  refine pick_spec r1 (by omega) (by omega) fun b S2 b0 b1 x2 r2 l2 => ?_
  simp
  have k2 : S2.length = S.length + 1 := by rw [l2, l1]; simp
  have hrl := hr.lt
  rw [fillD_at (get_new _ _) rfl (by decide)]
  simp
  have d2 : S2[S.length]? = some (.dct [] false) := x2.get (by omega) (x1.get (by omega) (get_new _ _))
  have X2 : ExR r S S2 := (Ext.app _ _).exr.trans (x1.trans x2)
  have f1 : (S2 ++ [Ob.dct [] false])[S.length]? = some (.dct [] false) := get_app d2
  rw [fillD_at f1 rfl (by simp)]
  generalize hS3 : (S2 ++ [Ob.dct [] false]).set S.length _ = S3
  have d3 : S3[S.length]? = some (.dct [(kPlaces, .int (1 + a)), (kTop, .int (1 + b)), (kKinds, .obj (S.length + 1)), (kOffs, .tup [])] false) := by
    rw [← hS3, get_set f1]; simp [putK, k2]
  have k3 : S3[S.length + 1]? = some (.dct [] false) := by
    rw [← hS3, get_setN (by omega), ← k2]; exact get_new _ _
  have X3 : ExR r S S3 := by
    rw [← hS3]; exact (X2.trans (Ext.app _ _).exr).setN (Nat.le_refl _)
  have r3 : RowOk S3 r := by
    rw [← hS3]; exact (r2.ext (Ext.app _ _)).setN hrl
  clear hS3 f1
  simp [setTg, sizeL]
  refine pick_spec (r3.ext (Ext.app _ _)) (by omega) (by omega) fun c S4 c0 c1 x4 r4 l4 => ?_
  have hl3 : S.length + 2 ≤ S3.length := lt_of_get k3
  obtain ⟨n, hn⟩ : ∃ n : Nat, 1 + c = (n : Int) := ⟨(1 + c).toNat, by omega⟩
  have hn4 : 1 ≤ n ∧ n ≤ most.toNat := by omega
  have n4 : n ≤ 4 := by omega
  have g4 : S4[S3.length]? = some (.lst (NM.map D.str) false) := x4.get (by omega) (get_new _ _)
  simp [hn]
  rw [slc_take g4 (by simpa [NM] using n4)]
  have e4 : (NM.map D.str).take n = (NM.take n).map D.str := (List.map_take).symm
  rw [e4]
  have X5 : ExR r S3 (S4 ++ [Ob.lst ((NM.take n).map D.str) false]) := ((Ext.app _ _).exr.trans x4).trans (Ext.app _ _).exr
  have r5 := r4.ext (Ext.app S4 [Ob.lst ((NM.take n).map D.str) false])
  have g5 : (S4 ++ [Ob.lst ((NM.take n).map D.str) false])[S4.length]? = some (.lst ((NM.take n).map D.str) false) := get_new _ _
  have hl4 : S3.length < S4.length := by rw [l4]; simp
  generalize hnl : S4.length = nl at *
  generalize S4 ++ [Ob.lst ((NM.take n).map D.str) false] = S5 at *
  have d5 := X5.get (by omega) d3
  have k5 := X5.get (by omega) k3
  simp [setTg, wk_lst g5, Wk.len]
  have lenN : (NM.take n).length = n := NM_take_len n4
  rw [show min n NM.length = ((NM.take n).map D.str).length by simp]
  refine wp_loopL (fun j σ S' => ∃ (ks : List Knd) (x : Option D), σ = [some (.obj r), some (.int most), some (.int top), some (.obj S.length), some (.obj nl), x, none, none] ∧ ks.length = j ∧ j ≤ n ∧ (∀ q ∈ ks, q.ok (1 + a) (1 + b) (NM.take n)) ∧
      S'[S.length]? = some (.dct [(kPlaces, .int (1 + a)), (kTop, .int (1 + b)), (kKinds, .obj (S.length + 1)), (kOffs, .tup [])] false) ∧ S'[S.length + 1]? = some (.dct (kindsL (NM.take j) ks) false) ∧ S'[nl]? = some (.lst ((NM.take n).map D.str) false) ∧ ExR r S S' ∧ RowOk S' r) ?_ ?_ ?_ ?_
  · exact ⟨[], none, rfl, rfl, by omega, by simp, d5, k5, g5, X3.trans X5, r5⟩
  · intro j σ S' ⟨ks, x, _, _, _, _, _, _, z, _⟩
    exact ⟨false, z⟩
  · intro I hI j dd σ S6 hj ⟨ks, x, hσ, hks, hjn, hok, d6, k6, g6, x6, r6⟩
    subst hσ
    rw [List.getElem?_map] at hj
    obtain ⟨nm, hnm, rfl⟩ := Option.map_eq_some_iff.mp hj
    have hjl : j < n := by
      have := (List.getElem?_eq_some_iff.mp hnm).1
      omega
    have hNM : NM[j]? = some nm := by rw [List.getElem?_take_of_lt hjl] at hnm; exact hnm
    simp [setTg]
    refine kind_spec r6 ⟨_, d6⟩ (by omega) (by omega) (by omega) g6 (by omega) (by omega) fun q S7 qok x7 r7 => ?_
    have d7 := x7.get (by omega) d6
    have k7 := x7.get (by omega) k6
    have g7 := x7.get (by omega) g6
    simp [idx_dct d7 (a := .str [107, 105, 110, 100, 115]) rfl (by simp [lookK]; rfl)]
    rw [setI_dct k7 rfl (by rw [kindsL_len (by omega) hks]; omega), kinds_snoc (by omega) hks hNM]
    simp
    refine hI _ _ _ ⟨ks ++ [q], _, rfl, by simp [hks], by omega, fun z hz => ?_, by rw [get_setN (by omega)]; exact d7, get_set k7, by rw [get_setN (by omega)]; exact g7, (x6.trans x7).setN (by omega), r7.setN (by omega)⟩
    rcases List.mem_append.mp hz with h1 | h1
    · exact hok z h1
    · rw [List.mem_singleton.mp h1]; exact qok
  · intro σ S6 ⟨ks, x, hσ, hks, hjn, hok, d6, k6, g6, x6, r6⟩
    subst hσ
    have hkn : ks.length = n := by rw [hks]; simpa using lenN
    have k6' : S6[S.length + 1]? = some (.dct (kindsL (NM.take n) ks) false) := by
      rw [List.length_map, lenN] at k6; exact k6
    simp
    refine pick_spec r6 (by decide) (by decide) fun m S7 m0 m1 x7 r7 l7 => ?_
    have d7 := x7.get (by omega) d6
    have k7 := x7.get (by omega) k6'
    simp [show -1000000 < m by omega, show m < 1000000 by omega]
    have keys := kindsL_keys (NM.take n) ks (by rw [lenN, hkn])
    refine wp_loopI (fun j σ S' => ∃ (os : List Offr) (y z : Option D), σ = [some (.obj r), some (.int most), some (.int top), some (.obj S.length), some (.obj nl), x, y, z] ∧ os.length ≤ j ∧ j ≤ 3 ∧ (∀ o ∈ os, o.ok (1 + a) (1 + b) (NM.take n)) ∧ os.Nodup ∧
        S'[S.length]? = some (.dct [(kPlaces, .int (1 + a)), (kTop, .int (1 + b)), (kKinds, .obj (S.length + 1)), (kOffs, .tup (os.map Offr.D))] false) ∧ S'[S.length + 1]? = some (.dct (kindsL (NM.take n) ks) false) ∧ ExR r S S' ∧ RowOk S' r) ?_ ?_ ?_
    · exact ⟨[], none, none, rfl, by simp, by omega, by simp, by simp, d7, k7, x6.trans x7, r7⟩
    · intro I hI j dd σ S8 hj ⟨os, y, z, hσ, hos, hj3, hook, hnd, d8, k8, x8, r8⟩
      subst hσ
      have hjm : j < m.toNat := by
        have := (List.getElem?_eq_some_iff.mp hj).1
        rw [rangeD_len] at this
        exact this
      simp [setTg]
      refine off_spec r8 d8 k8 keys (NM_take_sorted n n4) (by omega) (by omega) (by omega) (by omega) (by omega) fun o S9 ook x9 r9 => ?_
      have d9 := x9.get (by omega) d8
      have k9 := x9.get (by omega) k8
      simp [setTg, idx_dct d9 (a := .str [111, 102, 102, 115]) rfl (by simp [lookK]; rfl), offs_in, truth]
      by_cases hin : o ∈ os
      · simp [hin]
        exact hI _ _ _ ⟨os, _, _, rfl, by omega, by omega, hook, hnd, d9, k9, x8.trans x9, r9⟩
      · simp [hin, idx_dct d9 (a := .str [111, 102, 102, 115]) rfl (by simp [lookK]; rfl), sizeL]
        rw [bin_add_tt (by simp [sizeL]; omega)]
        simp
        rw [setI_dct d9 rfl (by simp)]
        simp [putK]
        refine hI _ _ _ ⟨os ++ [o], _, _, rfl, by simp; omega, by omega, fun q hq => ?_, ?_, by simpa using get_set d9, by rw [get_setN (by omega)]; exact k9, (x8.trans x9).setN (by omega), r9.setN (by omega)⟩
        · rcases List.mem_append.mp hq with h1 | h1
          · exact hook q h1
          · rw [List.mem_singleton.mp h1]; exact ook
        · rw [List.nodup_append]
          exact ⟨hnd, by simp, fun p hp q hq => by rw [List.mem_singleton.mp hq]; intro e; exact hin (e ▸ hp)⟩
    · intro σ S8 ⟨os, y, z, hσ, hos, hj3, hook, hnd, d8, k8, x8, r8⟩
      subst hσ
      rw [rangeD_len] at hos hj3
      simp [HasPT.pl ⟨_, d8⟩, show -1000000 < 1 + a by omega, show 1 + a < 1000000 by omega]
      refine wp_loopC (fun j S' => ∃ l : List Int, l.length = j ∧ j ≤ 2 ∧ (∀ s ∈ l, 0 ≤ s ∧ s < 1 + b + 1) ∧ S'[S8.length]? = some (.lst (l.map D.int) false) ∧ ExR r S8 S' ∧ RowOk S' r) ?_ ?_ ?_
      · exact ⟨[], rfl, by omega, by simp, get_new _ _, (Ext.app _ _).exr, r8.ext (Ext.app _ _)⟩
      · intro I hI j dd S9 hj ⟨l, hl, hl2, hok9, g9, x9, r9⟩
        have hj2 : j < (1 + a).toNat := by
          have := (List.getElem?_eq_some_iff.mp hj).1
          rw [rangeD_len] at this
          exact this
        have d9 := x9.get (by omega) d8
        simp [setTg, wipe, truth, HasPT.tp ⟨_, d9⟩]
        refine pick_spec r9 (by omega) (by omega) fun v S10 v0 v1 x10 r10 l10 => ?_
        have g10 := x10.get (Nat.ne_of_gt r8.lt) g9
        have : l.length < sizeL := by unfold sizeL; omega
        simp [appO, g10, this]
        refine hI _ _ ⟨l ++ [v], by simp [hl], by omega, fun q hq => ?_, by simpa using get_set g10, (x9.trans x10).setN (Nat.le_refl _), r10.setN r8.lt⟩
        rcases List.mem_append.mp hq with q1 | q1
        · exact hok9 q q1
        · rw [List.mem_singleton.mp q1]; exact ⟨v0, v1⟩
      · intro S9 ⟨l, hl, hl2, hok9, g9, x9, r9⟩
        rw [rangeD_len] at hl
        have d9 := x9.get (by omega) d8
        have k9 := x9.get (by omega) k8
        simp [bi_tupl g9]
        rw [setI_dct d9 rfl (by simp)]
        simp [putK]
        refine h ⟨1 + a, 1 + b, ks, os, l⟩ S.length _ ⟨by constructor <;> simp <;> omega, by constructor <;> simp <;> omega, by constructor <;> simp <;> omega, ?_, ?_, hnd, by simp; omega, by simp; omega, hok9⟩ ⟨get_set d9, ?_⟩ (Nat.le_refl _) ((x8.trans x9).setN (Nat.le_refl _)) (r9.setN hrl)
        · intro q hq; have := hok q hq; simpa [Gm.names, hkn] using this
        · intro q hq; have := hook q hq; simpa [Gm.names, hkn] using this
        · rw [get_setN (by omega)]
          simpa [Gm.kinds, Gm.names, hkn] using k9
end LA.Pu

/-! What Game looks at. -/
namespace LA.Pu
/-- one turn of a comprehension that changes nothing else: what is put -/
def TurnI (step : D → M Unit) (S : Sto) (d : D) (o : Option D) : Prop := ∀ S' acc, Ext S S' → S'[S.length]? = some (.lst acc false) → acc.length < sizeL → ∀ K' : R Unit → Sto → Prop,
  (∀ S'' acc', Ext S' S'' ∨ (∃ T, Ext S' T ∧ S'' = T.set S.length (.lst acc' false)) → Ext S S'' → S''[S.length]? = some (.lst acc' false) → acc' = acc ++ o.toList → K' (.ok ()) S'') → wp (step d) S' K'
theorem turn_put {S S' T : Sto} {acc : List D} {y : D} {K' : R Unit → Sto → Prop} (x : Ext S S') (g : S'[S.length]? = some (.lst acc false)) (hl : acc.length < sizeL) (x2 : Ext S' T)
    (h : ∀ S'' acc', Ext S' S'' ∨ (∃ T, Ext S' T ∧ S'' = T.set S.length (.lst acc' false)) → Ext S S'' → S''[S.length]? = some (.lst acc' false) → acc' = acc ++ (some y).toList → K' (.ok ()) S'') : ap (appO (.obj S.length) y T) K' := by
  have g2 := x2.get g
  simp only [appO, g2, hl, if_true, ap_some]
  exact h _ _ (.inr ⟨T, x2, rfl⟩) ((x.trans x2).setN (Nat.le_refl _)) (get_set g2) rfl
theorem turn_skip {S S' T : Sto} {acc : List D} {K' : R Unit → Sto → Prop} (x : Ext S S') (g : S'[S.length]? = some (.lst acc false)) (x2 : Ext S' T)
    (h : ∀ S'' acc', Ext S' S'' ∨ (∃ T, Ext S' T ∧ S'' = T.set S.length (.lst acc' false)) → Ext S S'' → S''[S.length]? = some (.lst acc' false) → acc' = acc ++ (none : Option D).toList → K' (.ok ()) S'') : K' (.ok ()) T :=
  h _ _ (.inl x2) (x.trans x2) (x2.get g) (by simp)
theorem filterMap_take_succ {α β : Type} {f : α → Option β} {xs : List α} {k : Nat} {d : α} (h : xs[k]? = some d) : (xs.take (k + 1)).filterMap f = (xs.take k).filterMap f ++ (f d).toList := by
  rw [List.take_succ, h, List.filterMap_append]
  cases e : f d <;> simp [e]
theorem wp_lcI {α : Type} {l : List α} {g : α → D} {step : D → M Unit} {S : Sto} {K : R Unit → Sto → Prop} (f : α → Option D) (hn : l.length ≤ sizeL) (ht : ∀ a ∈ l, TurnI step S (g a) (f a))
    (h : ∀ S', Ext S S' → S'[S.length]? = some (.lst (l.filterMap f) false) → K (.ok ()) S') : wp (loopC (.items (l.map g)) step l.length 0) (S ++ [.lst [] false]) K := by
  rw [show l.length = (l.map g).length by simp]
  refine wp_loopC (fun j S' => Ext S S' ∧ S'[S.length]? = some (.lst ((l.take j).filterMap f) false)) ⟨Ext.app _ _, get_new _ _⟩ ?_ ?_
  · intro I hI k d S' hk ⟨x, gg⟩
    rw [List.getElem?_map] at hk
    obtain ⟨a, hka, rfl⟩ := Option.map_eq_some_iff.mp hk
    have hl : ((l.take k).filterMap f).length < sizeL := by
      have := List.length_filterMap_le f (l.take k)
      have h2 := (List.getElem?_eq_some_iff.mp hka).1
      simp at this
      omega
    refine ht a (List.mem_of_getElem? hka) S' _ x gg hl _ fun S'' acc' _ x2 g2 e => ?_
    refine hI _ _ ⟨x2, ?_⟩
    rw [g2, e, filterMap_take_succ hka]
  · intro S' ⟨x, gg⟩
    rw [List.length_map, List.take_length] at gg
    exact h S' x gg
theorem wp_lcL {α : Type} {l : List α} {g : α → D} {i : Nat} {b : Bool} {step : D → M Unit} {S : Sto} {K : R Unit → Sto → Prop} (hi : S[i]? = some (.lst (l.map g) b)) (f : α → Option D) (hn : l.length ≤ sizeL) (ht : ∀ a ∈ l, TurnI step S (g a) (f a))
    (h : ∀ S', Ext S S' → S'[S.length]? = some (.lst (l.filterMap f) false) → K (.ok ()) S') : wp (loopC (.lst i l.length) step l.length 0) (S ++ [.lst [] false]) K := by
  rw [show l.length = (l.map g).length by simp]
  refine wp_loopCL (fun j S' => Ext S S' ∧ S'[S.length]? = some (.lst ((l.take j).filterMap f) false)) ⟨Ext.app _ _, get_new _ _⟩ (fun k S' z => ⟨b, z.1.get hi⟩) ?_ ?_
  · intro I hI k d S' hk ⟨x, gg⟩
    rw [List.getElem?_map] at hk
    obtain ⟨a, hka, rfl⟩ := Option.map_eq_some_iff.mp hk
    have hl : ((l.take k).filterMap f).length < sizeL := by
      have := List.length_filterMap_le f (l.take k)
      have h2 := (List.getElem?_eq_some_iff.mp hka).1
      simp at this
      omega
    refine ht a (List.mem_of_getElem? hka) S' _ x gg hl _ fun S'' acc' _ x2 g2 e => ?_
    refine hI _ _ ⟨x2, ?_⟩
    rw [g2, e, filterMap_take_succ hka]
  · intro S' ⟨x, gg⟩
    rw [List.length_map, List.take_length] at gg
    exact h S' x gg
theorem fm_map {α : Type} {f : α → D} {xs : List α} : xs.filterMap (fun d => some (f d)) = xs.map f := by
  induction xs with
  | nil => rfl
  | cons a r ih => simp [ih]
def belowB (i m : Int) : Bool := decide (0 ≤ i) && decide (i < m)
section
variable {N k : Nat} {S : Sto} {K : R D → Sto → Prop}
@[simp] theorem is_integer_i {i : Int} : wp (call pgL N (k + 1) n_is_integer [.int i]) S K = K (.ok (.bl true)) S := by
  rw [wp_call (fi := ⟨1, 1, b_is_integer⟩) rfl ⟨rfl, by decide⟩]
  unfold b_is_integer
  simp [isTy, truth]
@[simp] theorem is_below_i {i m : Int} : wp (call pgL N (k + 2) n_is_below [.int i, .int m]) S K = K (.ok (.bl (belowB i m))) S := by
  rw [wp_call (fi := ⟨2, 2, b_is_below⟩) rfl ⟨rfl, by decide⟩]
  unfold b_is_below
  simp
  by_cases h : 0 ≤ i <;> simp [h, belowB]
@[simp] theorem is_size_i {i : Int} : wp (call pgL N (k + 2) n_is_size [.int i]) S K = K (.ok (.bl (decide (1 ≤ i) && decide (i ≤ 2)))) S := by
  rw [wp_call (fi := ⟨1, 1, b_is_size⟩) rfl ⟨rfl, by decide⟩]
  unfold b_is_size
  simp
  by_cases h : 1 ≤ i <;> simp [h]
end
def letters : List Nat := [97, 98, 99, 100, 101, 102, 103, 104, 105, 106, 107, 108, 109, 110, 111, 112, 113, 114, 115, 116, 117, 118, 119, 120, 121, 122]
abbrev sDoes : List Nat := [100, 111, 101, 115]
def isNameB (x : List Nat) : Bool := decide (1 ≤ x.length) && (decide (x.length ≤ 8) && (!decide (x = sDoes) && x.all fun c => decide (c ∈ letters)))
theorem is_name_s {N k : Nat} {S : Sto} {x : List Nat} {K : R D → Sto → Prop} (hl : x.length ≤ sizeL) (h : ∀ S', Ext S S' → K (.ok (.bl (isNameB x))) S') : wp (call pgL N (k + 1) n_is_name [.str x]) S K := by
  rw [wp_call (fi := ⟨1, 2, b_is_name⟩) rfl ⟨rfl, by decide⟩]
  unfold b_is_name
  rw [show ([97, 98, 99, 100, 101, 102, 103, 104, 105, 106, 107, 108, 109, 110, 111, 112, 113, 114, 115, 116, 117, 118, 119, 120, 121, 122] : List Nat) = letters from rfl]
  simp [isTy, truth, bi_lens hl]
  by_cases h1 : 1 ≤ x.length
  · simp [show (1 : Int) ≤ x.length by omega]
    by_cases h8 : x.length ≤ 8
    · simp [show (x.length : Int) ≤ 8 by omega]
      by_cases hd : x = sDoes
      · subst hd
        simp
        exact h S (Ext.refl _)
      · simp [hd, Wk.len]
        refine wp_lcI (fun c => some (.bl (decide (c ∈ letters)))) hl (fun c hd S' acc x2 g hl2 K' hK' => ?_) fun S' x2 g => ?_
        · simp [setTg, wipe]
          exact turn_put x2 g hl2 (Ext.refl _) hK'
        · rw [fm_map] at g
          have q := h S' x2
          have : isNameB x = x.all fun c => decide (c ∈ letters) := by
            simp [isNameB, h1, h8, hd]
          rw [this] at q
          cases hc : x.all fun c => decide (c ∈ letters) with
          | true => rw [hc] at q; simp [bi_allM g hc]; exact q
          | false => rw [hc] at q; simp [bi_allM g hc]; exact q
    · simp [show ¬ (x.length : Int) ≤ 8 by omega]
      have : isNameB x = false := by simp [isNameB, h8]
      have q := h S (Ext.refl _); rw [this] at q; exact q
  · simp [show ¬ (1 : Int) ≤ x.length by omega]
    have : isNameB x = false := by simp [isNameB, h1]
    have q := h S (Ext.refl _); rw [this] at q; exact q
def stepB (p t : Int) (s : Stp) : Bool := (match s.wh with | none => true | some x => belowB x p) && (match s.w with | .set => belowB s.n (t + 1) | _ => decide (s.n = 0))
def actB (p t : Int) : Act → Bool
  | .off => true
  | .copy => true
  | .turn q => belowB q p
  | .move l => decide (1 ≤ l.length) && (decide (l.length ≤ 3) && l.all (stepB p t))
def testB (p t : Int) : Option (Int × Int) → Bool
  | none => true
  | some (a, b) => belowB a p && belowB b (t + 1)
def ansB (kvs : List (Ky × D)) (ans : List (List Nat)) : Bool := (ans.all fun a => (lookK (.s a) kvs).isSome) && ((ans.zip ans.tail).all fun q => ltL q.1 q.2)
def kndB (kvs : List (Ky × D)) (p t : Int) (k : Knd) : Bool := testB p t k.test && (ansB kvs k.ans && actB p t k.act)
def offB (kvs : List (Ky × D)) (p t : Int) (o : Offr) : Bool := belowB o.pl p && (belowB o.n (t + 1) && ((lookK (.s o.kd) kvs).isSome && belowB o.aim p))
theorem is_step_spec {N k : Nat} {S : Sto} {p t : Int} {s : Stp} {K : R D → Sto → Prop} : wp (call pgL N (k + 3) n_is_step [.int p, .int t, s.D]) S K = K (.ok (.bl (stepB p t s))) S := by
  rw [wp_call (fi := ⟨3, 6, b_is_step⟩) rfl ⟨rfl, by decide⟩]
  unfold b_is_step
  obtain ⟨w, wh, n⟩ := s
  cases wh with
  | none =>
    simp [Stp.D, Stp.whD, setTg, setTg.setTgs, seqOf, stepB]
    cases w <;> simp [W3.s, inSeq, sizeL]
  | some x =>
    simp [Stp.D, Stp.whD, setTg, setTg.setTgs, seqOf, stepB]
    cases hb : belowB x p <;> cases w <;> simp [W3.s, inSeq, sizeL]
def isRes (S : Sto) (d : D) (K : R D → Sto → Prop) : Prop := ∀ S', Ext S S' → K (.ok d) S'
theorem is_act_spec {N k : Nat} {S : Sto} {p t : Int} {a : Act} {K : R D → Sto → Prop} (h3 : ∀ l, a = .move l → l.length ≤ 1000) (h : isRes S (.bl (actB p t a)) K) : wp (call pgL N (k + 4) n_is_act [.int p, .int t, a.D]) S K := by
  rw [wp_call (fi := ⟨3, 4, b_is_act⟩) rfl ⟨rfl, by decide⟩]
  unfold b_is_act
  cases a with
  | off =>
    simp [Act.D, inSeq, sizeL]
    exact h S (Ext.refl _)
  | copy =>
    simp [Act.D, inSeq, sizeL]
    exact h S (Ext.refl _)
  | turn q =>
    simp [Act.D, inSeq, sizeL]
    exact h S (Ext.refl _)
  | move l =>
    have hl := h3 l rfl
    simp [Act.D, inSeq, sizeL]
    have q := h S (Ext.refl _)
    by_cases e1 : 1 ≤ l.length
    · simp [show (1 : Int) ≤ l.length by omega]
      by_cases e3 : l.length ≤ 3
      · simp [show (l.length : Int) ≤ 3 by omega, show ¬ (3 : Int) < l.length by omega, Wk.len]
        refine wp_lcI (fun s => some (.bl (stepB p t s))) (by simp [sizeL]; omega) (fun s hd S' acc x2 g hl2 K' hK' => ?_) fun S' x2 g => ?_
        · simp [setTg, wipe]
          rw [is_step_spec]
          simp
          exact turn_put x2 g hl2 (Ext.refl _) hK'
        · rw [fm_map] at g
          have q := h S' x2
          have : actB p t (.move l) = l.all (stepB p t) := by simp [actB, e1, e3]
          rw [this] at q
          cases hc : l.all (stepB p t) with
          | true => rw [hc] at q; simp [bi_allM g hc]; exact q
          | false => rw [hc] at q; simp [bi_allM g hc]; exact q
      · simp [show ¬ (l.length : Int) ≤ 3 by omega, show (3 : Int) < l.length by omega]
        have : actB p t (.move l) = false := by simp [actB, e3]
        rw [this] at q; exact q
    · simp [show ¬ (1 : Int) ≤ l.length by omega]
      have : actB p t (.move l) = false := by simp [actB, e1]
      rw [this] at q; exact q
theorem is_test_spec {N k : Nat} {S : Sto} {p t : Int} {q : Knd} {K : R D → Sto → Prop} : wp (call pgL N (k + 3) n_is_test [.int p, .int t, q.testD]) S K = K (.ok (.bl (testB p t q.test))) S := by
  rw [wp_call (fi := ⟨3, 3, b_is_test⟩) rfl ⟨rfl, by decide⟩]
  unfold b_is_test
  obtain ⟨te, o, an, ac⟩ := q
  rcases te with _ | ⟨a, b⟩
  · simp [Knd.testD, testB, isNonD]
  · simp [Knd.testD, testB, isNonD]
    cases h : belowB a p <;> simp
theorem zip_tail {an : List (List Nat)} : zipD (an.map D.str) (an.map D.str).tail = (an.zip an.tail).map fun q => D.tup [.str q.1, .str q.2] := by
  unfold zipD
  rw [← List.map_tail, List.zip_map, List.map_map]
  rfl
theorem wkl {α : Type} {l : List α} {g : α → D} : (Wk.items (l.map g)).len = l.length := by simp [Wk.len]
theorem are_answers_spec {N k kd : Nat} {S : Sto} {kvs : List (Ky × D)} {lk : Bool} {an : List (List Nat)} {K : R D → Sto → Prop} (hk : S[kd]? = some (.dct kvs lk)) (hl : an.length ≤ 1000) (h : isRes S (.bl (ansB kvs an)) K) : wp (call pgL N (k + 1) n_are_answers [.obj kd, .tup (an.map .str)]) S K := by
  rw [wp_call (fi := ⟨2, 5, b_are_answers⟩) rfl ⟨rfl, by decide⟩]
  unfold b_are_answers
  simp [Wk.len]
  refine wp_lcI (fun a => some (.bl (lookK (.s a) kvs).isSome)) (by simp [sizeL]; omega) (fun a hd S' acc x2 g hl2 K' hK' => ?_) fun S1 x1 g1 => ?_
  · simp [setTg, wipe]
    rw [cmp_in_dct (x2.get hk) rfl]
    exact turn_put x2 g hl2 (Ext.refl _) hK'
  · rw [fm_map] at g1
    cases ha : (an.all fun a => (lookK (.s a) kvs).isSome) with
    | false =>
      have q := h S1 x1
      have e : ansB kvs an = false := by simp only [ansB, ha, Bool.false_and]
      rw [e] at q
      simp [bi_allM g1 ha]
      exact q
    | true =>
      simp [bi_allM g1 ha]
      rw [zip_tail, wkl]
      refine wp_lcI (fun q => some (.bl (ltL q.1 q.2))) (by simp [sizeL]; omega) (fun a hd S' acc x2 g hl2 K' hK' => ?_) fun S2 x2 g2 => ?_
      · simp [setTg, setTg.setTgs, seqOf, wipe]
        exact turn_put x2 g hl2 (Ext.refl _) hK'
      · rw [fm_map] at g2
        have q := h S2 (x1.trans x2)
        have e : ansB kvs an = (an.zip an.tail).all fun q => ltL q.1 q.2 := by simp only [ansB, ha, Bool.true_and]
        rw [e] at q
        cases hc : (an.zip an.tail).all fun q => ltL q.1 q.2 with
        | true => rw [hc] at q; simp [bi_allM g2 hc]; exact q
        | false => rw [hc] at q; simp [bi_allM g2 hc]; exact q
end LA.Pu

/-! Game. -/
namespace LA.Pu
def Knd.small (k : Knd) : Prop := k.ans.length ≤ 1000 ∧ ∀ l, k.act = .move l → l.length ≤ 1000
theorem is_kind_spec {N k kd : Nat} {S : Sto} {kvs : List (Ky × D)} {lk : Bool} {p t : Int} {q : Knd} {K : R D → Sto → Prop} (hk : S[kd]? = some (.dct kvs lk)) (hs : q.small) (h : isRes S (.bl (kndB kvs p t q)) K) : wp (call pgL N (k + 5) n_is_kind [.int p, .int t, .obj kd, q.D]) S K := by
  rw [wp_call (fi := ⟨4, 4, b_is_kind⟩) rfl ⟨rfl, by decide⟩]
  unfold b_is_kind
  simp [Knd.D]
  rw [is_test_spec]
  cases h1 : testB p t q.test with
  | false =>
    simp
    have z := h S (Ext.refl _)
    simp only [kndB, h1, Bool.false_and] at z
    exact z
  | true =>
    simp
    refine are_answers_spec hk hs.1 fun S1 x1 => ?_
    cases h2 : ansB kvs q.ans with
    | false =>
      simp
      have z := h S1 x1
      simp only [kndB, h1, h2, Bool.false_and, Bool.true_and] at z
      exact z
    | true =>
      simp
      refine is_act_spec hs.2 fun S2 x2 => ?_
      simp
      have z := h S2 (x1.trans x2)
      simp only [kndB, h1, h2, Bool.true_and] at z
      exact z
/-- a dict of kinds, its names in order -/
structure KD (S : Sto) (kd : Nat) (kvs : List (Ky × D)) (nm sn : List (List Nat)) (ks : List Knd) : Prop where
  at_ : S[kd]? = some (.dct kvs false)
  keys : kvs.map (fun kv => ofKy kv.1) = nm.map .str
  srt : sortD (nm.map .str) = some (sn.map .str)
  len : sn.length = ks.length
  look : ∀ (j : Nat) n k, sn[j]? = some n → ks[j]? = some k → lookK (.s n) kvs = some k.D
  c1 : 1 ≤ nm.length ∧ nm.length ≤ 4
  nam : ∀ n ∈ nm, isNameB n = true
  sml : ∀ k ∈ ks, k.small
theorem KD.ext {S S' : Sto} {kd : Nat} {kvs : List (Ky × D)} {nm sn : List (List Nat)} {ks : List Knd} (h : KD S kd kvs nm sn ks) (x : Ext S S') : KD S' kd kvs nm sn ks := ⟨x.get h.at_, h.keys, h.srt, h.len, h.look, h.c1, h.nam, h.sml⟩
theorem isNameB_len {x : List Nat} (h : isNameB x = true) : x.length ≤ 8 := by
  simp [isNameB] at h
  exact h.2.1
/-- behind a lock: all as it was -/
theorem ext_unlock {S T : Sto} {i : Nat} {o p : Ob} (h : S[i]? = some o) (x : Ext (S.set i p) T) : Ext S (T.set i o) := by
  refine ⟨by have := x.1; simpa using this, fun j q e => ?_⟩
  by_cases hj : j = i
  · subst hj
    rw [h] at e; cases e
    have : (S.set j p)[j]? = some p := get_set h
    exact get_set (x.get this)
  · rw [get_setN (Ne.symm hj)]
    exact x.get (by rw [get_setN (Ne.symm hj)]; exact e)
theorem check_kinds_ok {N k kd : Nat} {S : Sto} {kvs : List (Ky × D)} {nm sn : List (List Nat)} {ks : List Knd} {p t : Int} {K : R D → Sto → Prop} (hd : KD S kd kvs nm sn ks) (hok : ∀ q ∈ ks, kndB kvs p t q = true) (h : isRes S .non K) : wp (call pgL N (k + 6) n_check_kinds [.int p, .int t, .obj kd]) S K := by
  rw [wp_call (fi := ⟨3, 4, b_check_kinds⟩) rfl ⟨rfl, by decide⟩]
  unfold b_check_kinds
  have hlen : kvs.length = nm.length := by have := congrArg List.length hd.keys; simpa using this
  have := hd.c1
  simp [isTy_dct hd.at_, bi_lend hd.at_, show (1 : Int) ≤ kvs.length by omega, show (kvs.length : Int) ≤ 4 by omega, show ¬ (4 : Int) < kvs.length by omega, wk_dct hd.at_]
  have eI : (kvs.map fun kv => ofKy kv.1) = nm.map D.str := hd.keys
  rw [eI, wkl]
  have l1 : (S.set kd (.dct kvs true)).length = S.length := by simp
  generalize hS1 : S.set kd (.dct kvs true) = S1 at *
  rw [← l1]
  have k1 : S1[kd]? = some (.dct kvs true) := by rw [← hS1]; exact get_set hd.at_
  refine wp_lcI (fun n => some (.bl (isNameB n))) (by simp [sizeL]; omega) (fun n hn S' acc x2 g hl2 K' hK' => ?_) fun S2 x2 g2 => ?_
  · simp [setTg, wipe]
    refine is_name_s (by have := isNameB_len (hd.nam n hn); simp [sizeL]; omega) fun S3 x3 => ?_
    simp
    exact turn_put x2 g hl2 x3 hK'
  · rw [fm_map] at g2
    have k2 := x2.get k1
    have ne : kd ≠ S1.length := by rw [← hS1]; simp; have := lt_of_get hd.at_; omega
    have g3 : (S2.set kd (.dct kvs false))[S1.length]? = some (.lst (nm.map fun n => .bl (isNameB n)) false) := by rw [get_setN ne]; exact g2
    have x3 : Ext S (S2.set kd (.dct kvs false)) := by subst hS1; exact ext_unlock hd.at_ x2
    simp [lockD, k2]
    have hd3 := hd.ext x3
    generalize S2.set kd (.dct kvs false) = S3 at *
    simp [bi_allM g3 (List.all_eq_true.mpr hd.nam)]
    rw [bi_sortd hd3.at_ (by rw [hd3.keys]; exact hd3.srt)]
    have x4 : Ext S3 (S3 ++ [Ob.lst (sn.map D.str) false]) := Ext.app _ _
    have g4 : (S3 ++ [Ob.lst (sn.map D.str) false])[S3.length]? = some (.lst (sn.map D.str) false) := get_new _ _
    have hd4 := hd3.ext x4
    generalize S3 ++ [Ob.lst (sn.map D.str) false] = S4 at *
    simp [wk_lst g4, Wk.len]
    rw [show sn.length = (sn.map D.str).length by simp]
    refine wp_loopL (fun j σ S' => ∃ x, σ = [some (.int p), some (.int t), some (.obj kd), x] ∧ Ext S4 S') ?_ ?_ ?_ ?_
    · exact ⟨none, rfl, Ext.refl _⟩
    · intro j σ S' ⟨x, _, z⟩
      exact ⟨false, z.get g4⟩
    · intro I hI j dd σ S5 hj ⟨x, hσ, x5⟩
      subst hσ
      rw [List.getElem?_map] at hj
      obtain ⟨n, hn, rfl⟩ := Option.map_eq_some_iff.mp hj
      have hjl := (List.getElem?_eq_some_iff.mp hn).1
      have hjk : j < ks.length := by rw [← hd.len]; exact hjl
      have hkj : ks[j]? = some ks[j] := List.getElem?_eq_getElem hjk
      have hd5 := hd4.ext x5
      simp [setTg, idx_dct hd5.at_ (a := .str n) rfl (hd5.look j n _ hn hkj)]
      refine is_kind_spec hd5.at_ (hd.sml _ (List.getElem_mem _)) fun S6 x6 => ?_
      simp [hok _ (List.getElem_mem hjk)]
      exact hI _ _ _ ⟨_, rfl, x5.trans x6⟩
    · intro σ S5 ⟨x, hσ, x5⟩
      simp
      exact h S5 ((x3.trans x4).trans x5)
theorem is_off_spec {N k kd : Nat} {S : Sto} {kvs : List (Ky × D)} {lk : Bool} {p t : Int} {o : Offr} {K : R D → Sto → Prop} (hk : S[kd]? = some (.dct kvs lk)) : wp (call pgL N (k + 4) n_is_off [.int p, .int t, .obj kd, o.D]) S K = K (.ok (.bl (offB kvs p t o))) S := by
  rw [wp_call (fi := ⟨4, 4, b_is_off⟩) rfl ⟨rfl, by decide⟩]
  unfold b_is_off
  simp [Offr.D]
  cases h1 : belowB o.pl p with
  | false => simp [offB, h1]
  | true =>
    simp [offB, h1]
    cases h2 : belowB o.n (t + 1) with
    | false => simp
    | true =>
      simp
      rw [wp_call (fi := ⟨4, 4, b_is_effect_of⟩) rfl ⟨rfl, by decide⟩]
      unfold b_is_effect_of
      simp [cmp_in_dct hk (a := .str o.kd) rfl]
      cases h3 : (lookK (.s o.kd) kvs).isSome <;> simp
theorem check_offs_ok {N k kd : Nat} {S : Sto} {kvs : List (Ky × D)} {lk : Bool} {p t : Int} {os : List Offr} {K : R D → Sto → Prop} (hk : S[kd]? = some (.dct kvs lk)) (hl : os.length ≤ 4) (hn : os.Nodup) (hok : ∀ o ∈ os, offB kvs p t o = true) (h : K (.ok .non) S) :
    wp (call pgL N (k + 5) n_check_offs [.int p, .int t, .obj kd, .tup (os.map Offr.D)]) S K := by
  rw [wp_call (fi := ⟨4, 6, b_check_offs⟩) rfl ⟨rfl, by decide⟩]
  unfold b_check_offs
  simp [show ¬ (4 : Int) < os.length by omega, Wk.len]
  rw [show (numD (os.map Offr.D)).length = (numD (os.map Offr.D)).length from rfl]
  refine wp_loopI (fun j σ S' => ∃ x y, σ = [some (.int p), some (.int t), some (.obj kd), some (.tup (os.map Offr.D)), x, y] ∧ S' = S) ?_ ?_ ?_
  · exact ⟨none, none, rfl, rfl⟩
  · intro I hI j dd σ S5 hj ⟨x, y, hσ, hS⟩
    subst hσ hS
    unfold numD at hj
    rw [List.getElem?_map] at hj
    obtain ⟨q, hq, rfl⟩ := Option.map_eq_some_iff.mp hj
    rw [List.getElem?_zipIdx] at hq
    obtain ⟨z, hz, rfl⟩ := Option.map_eq_some_iff.mp hq
    rw [List.getElem?_map] at hz
    obtain ⟨o, ho, rfl⟩ := Option.map_eq_some_iff.mp hz
    have hjl := (List.getElem?_eq_some_iff.mp ho).1
    simp [setTg, setTg.setTgs, seqOf]
    rw [is_off_spec hk]
    simp [hok o (List.mem_of_getElem? ho)]
    rw [slc_upto (by simp; omega)]
    have e : (os.map Offr.D).take j = (os.take j).map Offr.D := (List.map_take).symm
    have ni : o ∉ os.take j := by
      intro hm
      obtain ⟨i, hi, e2⟩ := List.mem_iff_getElem.mp hm
      rw [List.getElem_take] at e2
      have hi' : i < j := by simp at hi; omega
      have q : os[i]'(by omega) = os[j] := by rw [e2]; exact (List.getElem?_eq_some_iff.mp ho).2.symm
      exact List.pairwise_iff_getElem.mp hn i j (by omega) hjl hi' q
    rw [e]
    simp only [bk_ok, cmp_in_tup, offs_in, ni, decide_false, ik_ok, wp_inS, wp_truthM, truth_bl, Bool.false_eq_true, if_false, wCs_nil, sk_nx]
    exact hI _ _ _ ⟨_, _, rfl, rfl⟩
  · intro σ S5 ⟨x, y, hσ, hS⟩
    subst hS
    simp
    exact h
theorem is_table_spec {N k : Nat} {S : Sto} {p t : Int} {xs : List Int} {K : R D → Sto → Prop} (hl : xs.length ≤ 1000) (h : isRes S (.bl (decide ((xs.length : Int) = p) && xs.all fun x => belowB x (t + 1))) K) :
    wp (call pgL N (k + 3) n_is_table_of [.int p, .int t, .tup (xs.map .int)]) S K := by
  rw [wp_call (fi := ⟨3, 4, b_is_table_of⟩) rfl ⟨rfl, by decide⟩]
  unfold b_is_table_of
  by_cases e : (xs.length : Int) = p
  · simp [e, Wk.len]
    refine wp_lcI (fun x => some (.bl (belowB x (t + 1)))) (by simp [sizeL]; omega) (fun n hn S' acc x2 g hl2 K' hK' => ?_) fun S2 x2 g2 => ?_
    · simp [setTg, wipe]
      exact turn_put x2 g hl2 (Ext.refl _) hK'
    · rw [fm_map] at g2
      have q := h S2 x2
      simp only [e, decide_true, Bool.true_and] at q
      cases hc : xs.all fun x => belowB x (t + 1) with
      | true => rw [hc] at q; simp [bi_allM g2 hc]; exact q
      | false => rw [hc] at q; simp [bi_allM g2 hc]; exact q
  · simp [e]
    have q := h S (Ext.refl _)
    simp only [e, decide_false, Bool.false_and] at q
    exact q
end LA.Pu

/-! A game made. -/
namespace LA.Pu
def gameFs (p t : Int) (cd : Nat) (os : List Offr) (st : List Int) : List (Nat × D) := [(a_many, .int p), (a_most, .int t), (a_cards, .obj cd), (a_sets, .tup (os.map Offr.D)), (a_first, .tup (st.map D.int))]
/-- a game -/
def IsGame (S : Sto) (o cd : Nat) (p t : Int) (sn : List (List Nat)) (ks : List Knd) (os : List Offr) (st : List Int) : Prop := S[o]? = some (.ins c_Game (gameFs p t cd os st)) ∧ S[cd]? = some (.dct (kindsL sn ks) false)
theorem IsGame.ext {S S' : Sto} {o cd : Nat} {p t : Int} {sn : List (List Nat)} {ks : List Knd} {os : List Offr} {st : List Int} (h : IsGame S o cd p t sn ks os st) (x : Ext S S') : IsGame S' o cd p t sn ks os st := ⟨x.get h.1, x.get h.2⟩
theorem putK_new {k : Ky} {v : D} {l : List (Ky × D)} (h : ∀ q ∈ l, q.1 ≠ k) : putK k v l = l ++ [(k, v)] := by
  unfold putK
  have : (l.any fun kv => decide (kv.1 = k)) = false := by
    rw [List.any_eq_false]
    intro q hq
    simpa using h q hq
  simp [this]
theorem kindsL_take {sn : List (List Nat)} {ks : List Knd} {j : Nat} {n : List Nat} {k : Knd} (hn : sn[j]? = some n) (hk : ks[j]? = some k) (nd : sn.Nodup) : putK (.s n) k.D (kindsL (sn.take j) (ks.take j)) = kindsL (sn.take (j + 1)) (ks.take (j + 1)) := by
  rw [putK_new]
  · have e1 : sn.take (j + 1) = sn.take j ++ [n] := by rw [List.take_succ, hn]; rfl
    have e2 : ks.take (j + 1) = ks.take j ++ [k] := by rw [List.take_succ, hk]; rfl
    have l1 := (List.getElem?_eq_some_iff.mp hn).1
    have l2 := (List.getElem?_eq_some_iff.mp hk).1
    rw [e1, e2]
    unfold kindsL
    rw [List.zip_append (by simp; omega)]
    simp
  · intro q hq
    unfold kindsL at hq
    obtain ⟨z, hz, rfl⟩ := List.mem_map.mp hq
    have hz1 := (List.of_mem_zip (show (z.1, z.2) ∈ (sn.take j).zip (ks.take j) from hz)).1
    intro e
    have e' : z.1 = n := by injection e
    rw [e'] at hz1
    obtain ⟨i, hi, e2⟩ := List.mem_iff_getElem.mp hz1
    rw [List.getElem_take] at e2
    have hi' : i < j := by simp at hi; omega
    have l1 := (List.getElem?_eq_some_iff.mp hn).1
    have q : sn[i]'(by omega) = sn[j] := by rw [e2]; exact (List.getElem?_eq_some_iff.mp hn).2.symm
    exact List.pairwise_iff_getElem.mp nd i j (by omega) l1 hi' q
theorem kindsL_le {sn : List (List Nat)} {ks : List Knd} : (kindsL sn ks).length ≤ ks.length := by unfold kindsL; simp; omega
structure GameOk (kvs : List (Ky × D)) (p t : Int) (ks : List Knd) (os : List Offr) (st : List Int) : Prop where
  hp : 1 ≤ p ∧ p ≤ 2
  ht : 1 ≤ t ∧ t ≤ 2
  k : ∀ q ∈ ks, kndB kvs p t q = true
  ol : os.length ≤ 4
  on : os.Nodup
  o : ∀ q ∈ os, offB kvs p t q = true
  sl : (st.length : Int) = p
  s : ∀ x ∈ st, belowB x (t + 1) = true
theorem game_spec {N k kd : Nat} {S : Sto} {kvs : List (Ky × D)} {nm sn : List (List Nat)} {ks : List Knd} {p t : Int} {os : List Offr} {st : List Int} {K : R D → Sto → Prop} (hd : KD S kd kvs nm sn ks) (nd : sn.Nodup) (hk4 : ks.length ≤ 4) (ok : GameOk kvs p t ks os st)
    (h : ∀ S' cd, Ext S S' → S.length ≤ cd → IsGame S' S.length cd p t sn ks os st → K (.ok (.obj S.length)) S') : wp (makeD pgL (call pgL N (k + 7)) c_Game [.int p, .int t, .obj kd, .tup (os.map Offr.D), .tup (st.map D.int)]) S K := by
  rw [wp_make (k := clsI[0]) rfl rfl rfl]
  rw [wp_call (fi := ⟨6, 7, b_Game_init⟩) rfl ⟨rfl, by decide⟩]
  have hs := lt_of_get hd.at_
  have x0 : Ext S (S ++ [Ob.ins c_Game []]) := Ext.app _ _
  have g0 : (S ++ [Ob.ins c_Game []])[S.length]? = some (.ins c_Game []) := get_new _ _
  have hd0 := hd.ext x0
  generalize S ++ [Ob.ins c_Game []] = S0 at *
  have := ok.hp
  have := ok.ht
  unfold b_Game_init
  simp [show (1 : Int) ≤ p by omega, show (1 : Int) ≤ t by omega, show p ≤ 2 by omega, show t ≤ 2 by omega, show ¬ (2 : Int) < p by omega, show ¬ (2 : Int) < t by omega]
  refine check_kinds_ok hd0 ok.k fun S1 x1 => ?_
  have hd1 := hd0.ext x1
  simp
  refine check_offs_ok hd1.at_ ok.ol ok.on ok.o ?_
  simp
  have := ok.sl
  refine is_table_spec (by omega) fun S2 x2 => ?_
  have hd2 := hd1.ext x2
  have g2 := x2.get (x1.get g0)
  have X2 : Ext S S2 := (x0.trans x1).trans x2
  have hall : (st.all fun x => belowB x (t + 1)) = true := List.all_eq_true.mpr ok.s
  rw [ok.sl, hall]
  simp
  rw [setF_at g2 rfl (by decide) (by decide)]
  simp
  have g3 := get_set (o := .ins c_Game [(a_many, .int p)]) g2
  have X3 : Ext S (S2.set S.length (.ins c_Game [(a_many, .int p)])) := X2.setN (Nat.le_refl _)
  have e3 : putA a_many (.int p) [] = [(a_many, D.int p)] := rfl
  rw [e3]
  generalize S2.set S.length (.ins c_Game [(a_many, .int p)]) = S3 at *
  rw [setF_at g3 rfl (by decide) (by simp)]
  simp
  have e4 : putA a_most (.int t) [(a_many, D.int p)] = [(a_many, D.int p), (a_most, .int t)] := rfl
  rw [e4]
  have g4 := get_set (o := .ins c_Game [(a_many, D.int p), (a_most, .int t)]) g3
  have X4 : Ext S (S3.set S.length (.ins c_Game [(a_many, D.int p), (a_most, .int t)])) := X3.setN (Nat.le_refl _)
  generalize S3.set S.length (.ins c_Game [(a_many, D.int p), (a_most, .int t)]) = S4 at *
  have hd4 := hd.ext X4
  rw [bi_sortd hd4.at_ (by rw [hd4.keys]; exact hd4.srt)]
  have X5 := X4.trans (Ext.app S4 [Ob.lst (sn.map D.str) false])
  have g5 := get_app (T := [Ob.lst (sn.map D.str) false]) g4
  have l5 : (S4 ++ [Ob.lst (sn.map D.str) false])[S4.length]? = some (.lst (sn.map D.str) false) := get_new _ _
  have hl5 : S.length < S4.length := lt_of_get g4
  have hd5 := hd.ext X5
  generalize S4 ++ [Ob.lst (sn.map D.str) false] = S5 at *
  simp [wk_lst l5, Wk.len]
  rw [show sn.length = (sn.map D.str).length by simp]
  refine wp_loopCL (fun j S' => Ext S5 S' ∧ S'[S5.length]? = some (.dct (kindsL (sn.take j) (ks.take j)) false)) ⟨Ext.app _ _, get_new _ _⟩ (fun j S' z => ⟨false, z.1.get l5⟩) ?_ ?_
  · intro I hI j dd S6 hj ⟨x6, k6⟩
    rw [List.getElem?_map] at hj
    obtain ⟨n, hn, rfl⟩ := Option.map_eq_some_iff.mp hj
    have hjl := (List.getElem?_eq_some_iff.mp hn).1
    have hjk : j < ks.length := by rw [← hd.len]; exact hjl
    have hkj : ks[j]? = some ks[j] := List.getElem?_eq_getElem hjk
    have hd6 := hd5.ext x6
    simp [setTg, wipe, idx_dct hd6.at_ (a := .str n) rfl (hd6.look j n _ hn hkj)]
    have hkl := kindsL_le (sn := sn.take j) (ks := ks.take j)
    rw [putO_at k6 rfl (by simp at hkl; omega)]
    simp only [nk_ok, kindsL_take hn hkj nd]
    exact hI _ _ ⟨x6.setN (Nat.le_refl _), get_set k6⟩
  · intro S6 ⟨x6, k6⟩
    have k6' : S6[S5.length]? = some (.dct (kindsL sn ks) false) := by
      have e : (sn.map D.str).length = ks.length := by rw [List.length_map, hd.len]
      rw [e] at k6
      have e1 : sn.take ks.length = sn := by rw [← hd.len]; exact List.take_length
      rw [e1, List.take_length] at k6
      exact k6
    simp
    have g6 := x6.get g5
    have hl6 := lt_of_get g5
    rw [setF_at g6 rfl (by decide) (by simp)]
    simp
    have X6 := X5.trans x6
    have e6 : putA a_cards (.obj S5.length) [(a_many, D.int p), (a_most, .int t)] = [(a_many, D.int p), (a_most, .int t), (a_cards, .obj S5.length)] := rfl
    rw [e6]
    have g7 := get_set (o := .ins c_Game [(a_many, D.int p), (a_most, .int t), (a_cards, .obj S5.length)]) g6
    have X7 : Ext S (S6.set S.length (.ins c_Game [(a_many, D.int p), (a_most, .int t), (a_cards, .obj S5.length)])) := X6.setN (Nat.le_refl _)
    have k7 : (S6.set S.length (.ins c_Game [(a_many, D.int p), (a_most, .int t), (a_cards, .obj S5.length)]))[S5.length]? = some (.dct (kindsL sn ks) false) := by rw [get_setN (by omega)]; exact k6'
    generalize S6.set S.length (.ins c_Game [(a_many, D.int p), (a_most, .int t), (a_cards, .obj S5.length)]) = S7 at *
    rw [setF_at g7 rfl (by decide) (by simp)]
    simp
    have e7 : putA a_sets (.tup (os.map Offr.D)) [(a_many, D.int p), (a_most, .int t), (a_cards, .obj S5.length)] = [(a_many, D.int p), (a_most, .int t), (a_cards, .obj S5.length), (a_sets, .tup (os.map Offr.D))] := rfl
    rw [e7]
    have g8 := get_set (o := .ins c_Game [(a_many, D.int p), (a_most, .int t), (a_cards, .obj S5.length), (a_sets, .tup (os.map Offr.D))]) g7
    have X8 : Ext S (S7.set S.length (.ins c_Game [(a_many, D.int p), (a_most, .int t), (a_cards, .obj S5.length), (a_sets, .tup (os.map Offr.D))])) := X7.setN (Nat.le_refl _)
    have k8 : (S7.set S.length (.ins c_Game [(a_many, D.int p), (a_most, .int t), (a_cards, .obj S5.length), (a_sets, .tup (os.map Offr.D))]))[S5.length]? = some (.dct (kindsL sn ks) false) := by rw [get_setN (by omega)]; exact k7
    generalize S7.set S.length (.ins c_Game [(a_many, D.int p), (a_most, .int t), (a_cards, .obj S5.length), (a_sets, .tup (os.map Offr.D))]) = S8 at *
    rw [setF_at g8 rfl (by decide) (by simp)]
    simp
    refine h _ S5.length (X8.setN (Nat.le_refl _)) (by omega) ⟨get_set g8, by rw [get_setN (by omega)]; exact k8⟩
end LA.Pu

/-! A drawn game made. -/
namespace LA.Pu
theorem lookK_kindsL {sn : List (List Nat)} {ks : List Knd} {j : Nat} {n : List Nat} {k : Knd} (hn : sn[j]? = some n) (hk : ks[j]? = some k) (nd : sn.Nodup) : lookK (.s n) (kindsL sn ks) = some k.D := by
  induction sn generalizing ks j with
  | nil => simp at hn
  | cons a r ih =>
    cases ks with
    | nil => simp at hk
    | cons b ks =>
      show lookK (.s n) ((Ky.s a, b.D) :: kindsL r ks) = _
      unfold lookK
      cases j with
      | zero =>
        simp at hn hk
        simp [hn, hk]
      | succ j =>
        simp at hn hk
        have hne : n ≠ a := by
          intro e
          subst e
          have := List.nodup_cons.mp nd
          exact this.1 (List.mem_of_getElem? hn)
        have : Ky.s n ≠ Ky.s a := by intro e; injection e with e; exact hne e
        rw [if_neg this]
        exact ih hn hk (List.nodup_cons.mp nd).2
theorem lookK_some {sn : List (List Nat)} {ks : List Knd} {n : List Nat} (hl : sn.length = ks.length) (nd : sn.Nodup) (h : n ∈ sn) : (lookK (.s n) (kindsL sn ks)).isSome = true := by
  obtain ⟨j, hj, e⟩ := List.mem_iff_getElem.mp h
  have hk : j < ks.length := by omega
  rw [lookK_kindsL (j := j) (k := ks[j]) (by rw [List.getElem?_eq_getElem hj, e]) (List.getElem?_eq_getElem hk) nd]
  rfl
theorem NM_nodup : NM.Nodup := by decide
theorem NM_lt : NM.Pairwise (fun a b => ltL a b = true) := by decide
theorem NM_name : ∀ n ∈ NM, isNameB n = true := by decide
theorem zip_tail_all {r : List Nat → List Nat → Bool} : ∀ {l : List (List Nat)}, l.Pairwise (fun a b => r a b = true) → ((l.zip l.tail).all fun q => r q.1 q.2) = true
  | [], _ => rfl
  | [_], _ => rfl
  | a :: b :: l, h => by
    have h1 := List.pairwise_cons.mp h
    have := zip_tail_all (l := b :: l) h1.2
    simp only [List.tail_cons, List.zip_cons_cons, List.all_cons, Bool.and_eq_true] at this ⊢
    exact ⟨h1.1 b (by simp), this⟩
theorem Gm.nodup {g : Gm} : g.names.Nodup := List.Nodup.sublist (List.take_sublist _ _) NM_nodup
theorem Gm.ok.namesL {most top : Nat} {g : Gm} (h : g.ok most top) (h4 : most ≤ 4) : g.names.length = g.ks.length := NM_take_len (by have := h.ks; omega)
theorem belowB_iff {i m : Int} : belowB i m = true ↔ 0 ≤ i ∧ i < m := by simp [belowB]
theorem stepB_ok {p t : Int} {s : Stp} (h : s.ok p t) : stepB p t s = true := by
  obtain ⟨w, wh, n⟩ := s
  have hw := h.wh
  have h0 := h.n0
  have h1 := h.n1
  have h2 := h.n2
  clear h
  have b1 : ∀ x, wh = some x → belowB x p = true := fun x e => belowB_iff.mpr (hw x e)
  cases wh with
  | none =>
    cases w with
    | set => simpa [stepB] using belowB_iff.mpr ⟨h0, h1 rfl⟩
    | up => simpa [stepB] using h2
    | down => simpa [stepB] using h2
  | some x =>
    have := b1 x rfl
    cases w with
    | set => simpa [stepB, this] using belowB_iff.mpr ⟨h0, h1 rfl⟩
    | up => simpa [stepB, this] using h2
    | down => simpa [stepB, this] using h2
theorem actB_ok {p t : Int} {a : Act} (h : a.ok p t) : actB p t a = true := by
  cases a with
  | off => rfl
  | copy => rfl
  | turn q => exact belowB_iff.mpr h
  | move l =>
    obtain ⟨h1, h2, h3⟩ := h
    have : (l.all (stepB p t)) = true := List.all_eq_true.mpr fun s hs => stepB_ok (h3 s hs)
    simp only [actB, this, Bool.and_true]
    simp; omega
theorem kndB_ok {p t : Int} {sn : List (List Nat)} {ks : List Knd} {k : Knd} (hl : sn.length = ks.length) (nd : sn.Nodup) (hs : sn.Pairwise (fun a b => ltL a b = true)) (h : k.ok p t sn) : kndB (kindsL sn ks) p t k = true := by
  have h1 : testB p t k.test = true := by
    cases e : k.test with
    | none => rfl
    | some q =>
      obtain ⟨a, b⟩ := q
      have := h.test a b e
      simp only [testB, Bool.and_eq_true]
      exact ⟨belowB_iff.mpr this.1, belowB_iff.mpr this.2⟩
  have h2 : ansB (kindsL sn ks) k.ans = true := by
    simp only [ansB, Bool.and_eq_true]
    refine ⟨List.all_eq_true.mpr fun a ha => lookK_some hl nd (h.ans.subset ha), zip_tail_all (hs.sublist h.ans)⟩
  unfold kndB
  rw [h1, h2, actB_ok h.act]; rfl
theorem offB_ok {p t : Int} {sn : List (List Nat)} {ks : List Knd} {o : Offr} (hl : sn.length = ks.length) (nd : sn.Nodup) (h : o.ok p t sn) : offB (kindsL sn ks) p t o = true := by
  simp only [offB, Bool.and_eq_true]
  exact ⟨belowB_iff.mpr h.pl, belowB_iff.mpr h.n, lookK_some hl nd h.kd, belowB_iff.mpr h.aim⟩
theorem Gm.ok.gameOk {most top : Nat} {g : Gm} (h : g.ok most top) (h4 : most ≤ 4) (h2 : top ≤ 2) : GameOk g.kinds g.p g.t g.ks g.offs g.start where
  hp := h.p
  ht := by have := h.t; omega
  k := fun q hq => kndB_ok (h.namesL h4) Gm.nodup (NM_lt.sublist (List.take_sublist _ _)) (h.kok q hq)
  ol := by have := h.offsL; omega
  on := h.offsN
  o := fun q hq => offB_ok (h.namesL h4) Gm.nodup (h.offs q hq)
  sl := h.stL
  s := fun x hx => belowB_iff.mpr (h.st x hx)
theorem Knd.ok.small {p t : Int} {sn : List (List Nat)} {k : Knd} (h : k.ok p t sn) (hs : sn.length ≤ 4) : k.small := ⟨by have := h.ans.length_le; omega, fun l e => by
  have := h.act
  rw [e] at this
  have := this.2.1
  omega⟩
theorem Gm.ok.kd {most top : Nat} {g : Gm} {S : Sto} {kd : Nat} (h : g.ok most top) (h4 : most ≤ 4) (hk : S[kd]? = some (.dct g.kinds false)) : KD S kd g.kinds g.names g.names g.ks where
  at_ := hk
  keys := kindsL_keys _ _ (h.namesL h4)
  srt := NM_take_sorted _ (by have := h.ks; omega)
  len := h.namesL h4
  look := fun j n k hn hk => lookK_kindsL hn hk Gm.nodup
  c1 := by rw [h.namesL h4]; have := h.ks; omega
  nam := fun n hn => NM_name n ((List.take_sublist _ _).subset hn)
  sml := fun k hk => (h.kok k hk).small (by rw [h.namesL h4]; have := h.ks; omega)
theorem made_spec {N k d kd : Nat} {most top : Nat} {S : Sto} {g : Gm} {K : R D → Sto → Prop} (hg : IsG S d kd g) (h : g.ok most top) (h4 : most ≤ 4) (h2 : top ≤ 2)
    (hK : ∀ S' cd, Ext S S' → S.length ≤ cd → IsGame S' S.length cd g.p g.t g.names g.ks g.offs g.start → K (.ok (.obj S.length)) S') : wp (call pgL N (k + 8) n_law_made [.obj d]) S K := by
  rw [wp_call (fi := ⟨1, 1, b_law_made⟩) rfl ⟨rfl, by decide⟩]
  unfold b_law_made
  have hd := hg.1
  unfold dEnt at hd
  simp [idx_dct hd (a := .str [112, 108, 97, 99, 101, 115]) rfl (by simp [lookK]; rfl), idx_dct hd (a := .str [116, 111, 112]) rfl (by simp [lookK]; rfl), idx_dct hd (a := .str [107, 105, 110, 100, 115]) rfl (by simp [lookK]; rfl), idx_dct hd (a := .str [111, 102, 102, 115]) rfl (by simp [lookK]; rfl), idx_dct hd (a := .str [115, 116, 97, 114, 116]) rfl (by simp [lookK]; rfl)]
  refine game_spec (h.kd h4 hg.2) Gm.nodup (by have := h.ks; omega) (h.gameOk h4 h2) fun S' cd x hc ig => ?_
  simp
  exact hK S' cd x hc ig
end LA.Pu

/-! Games compared. -/
namespace LA.Pu
theorem dpts_le {m : Nat} : ∀ {xs : List D}, (∀ x ∈ xs, dpt x ≤ m) → dpts xs ≤ m + xs.length + 1
  | [], _ => by simp [dpts]
  | x :: r, h => by
    have h1 := h x (by simp)
    have h2 := dpts_le (xs := r) fun y hy => h y (by simp [hy])
    simp only [dpts, List.length_cons]
    omega
theorem dpt_tup {m : Nat} {xs : List D} (h : ∀ x ∈ xs, dpt x ≤ m) : dpt (.tup xs) ≤ m + xs.length + 2 := by
  have := dpts_le h
  show dpts xs + 1 ≤ _
  omega
theorem plains_all : ∀ {xs : List D}, (∀ x ∈ xs, plain x = true) → plains xs = true
  | [], _ => rfl
  | x :: r, h => by
    show (plain x && plains r) = true
    rw [h x (by simp), plains_all fun y hy => h y (by simp [hy])]
    rfl
theorem Stp.plain (s : Stp) : LA.Pu.plain s.D = true := by
  obtain ⟨w, wh, n⟩ := s
  cases wh <;> rfl
theorem Stp.dpt (s : Stp) : LA.Pu.dpt s.D ≤ 10 := by
  obtain ⟨w, wh, n⟩ := s
  cases wh <;> (show (5 : Nat) ≤ 10; decide)
theorem Act.plain (a : Act) : LA.Pu.plain a.D = true := by
  cases a with
  | off => rfl
  | copy => rfl
  | turn q => rfl
  | move l =>
    show plains [.str sMove, .tup (l.map Stp.D)] = true
    refine plains_all fun x hx => ?_
    simp at hx
    rcases hx with rfl | rfl
    · rfl
    · exact plains_all fun y hy => by obtain ⟨s, _, rfl⟩ := List.mem_map.mp hy; exact s.plain
theorem Act.dpt {a : Act} (h : ∀ l, a = .move l → l.length ≤ 3) : LA.Pu.dpt a.D ≤ 25 := by
  cases a with
  | off => show (3 : Nat) ≤ 25; decide
  | copy => show (3 : Nat) ≤ 25; decide
  | turn q => show (4 : Nat) ≤ 25; decide
  | move l =>
    have hl := h l rfl
    have h1 : LA.Pu.dpt (.tup (l.map Stp.D)) ≤ 15 := by
      have := dpt_tup (m := 10) (xs := l.map Stp.D) fun y hy => by obtain ⟨s, _, rfl⟩ := List.mem_map.mp hy; exact s.dpt
      simp at this
      omega
    have := dpt_tup (m := 15) (xs := [.str sMove, .tup (l.map Stp.D)]) fun y hy => by
      simp at hy
      rcases hy with rfl | rfl
      · show (1 : Nat) ≤ 15; decide
      · exact h1
    simp at this
    show LA.Pu.dpt (.tup [.str sMove, .tup (l.map Stp.D)]) ≤ 25
    omega
theorem strs_plain (l : List (List Nat)) : LA.Pu.plain (.tup (l.map .str)) = true := plains_all fun y hy => by obtain ⟨s, _, rfl⟩ := List.mem_map.mp hy; rfl
theorem Knd.plain (q : Knd) : LA.Pu.plain q.D = true := by
  refine plains_all (xs := [q.testD, .bl q.opens, .tup (q.ans.map .str), q.act.D]) fun x hx => ?_
  simp at hx
  rcases hx with rfl | rfl | rfl | rfl
  · unfold Knd.testD; split <;> rfl
  · rfl
  · exact strs_plain _
  · exact q.act.plain
/-- small enough for == -/
structure Knd.flat (q : Knd) : Prop where
  ans : q.ans.length ≤ 4
  act : ∀ l, q.act = .move l → l.length ≤ 3
theorem Knd.dpt {q : Knd} (h : q.flat) : LA.Pu.dpt q.D ≤ 40 := by
  have h1 : LA.Pu.dpt q.testD ≤ 25 := by
    unfold Knd.testD
    split
    · show (1 : Nat) ≤ 25; decide
    · show (4 : Nat) ≤ 25; decide
  have h2 : LA.Pu.dpt (.tup (q.ans.map .str)) ≤ 25 := by
    have := dpt_tup (m := 1) (xs := q.ans.map .str) fun y hy => by obtain ⟨s, _, rfl⟩ := List.mem_map.mp hy; exact Nat.le_refl _
    have := h.ans
    simp at *
    omega
  have := dpt_tup (m := 25) (xs := [q.testD, .bl q.opens, .tup (q.ans.map .str), q.act.D]) fun y hy => by
    simp at hy
    rcases hy with rfl | rfl | rfl | rfl
    · exact h1
    · show (1 : Nat) ≤ 25; decide
    · exact h2
    · exact Act.dpt h.act
  show LA.Pu.dpt (.tup [q.testD, .bl q.opens, .tup (q.ans.map .str), q.act.D]) ≤ 40
  simp at this
  omega
theorem eqKs_ok (S : Sto) : ∀ (n : Nat) (l l' : List (Ky × D)), l.length + 45 < n → (∀ q ∈ l, lookK q.1 l' = some q.2 ∧ plain q.2 = true ∧ dpt q.2 ≤ 40) → eqKs S n l l' = some true
  | 0, l, _, h, _ => by omega
  | n + 1, [], _, _, _ => by unfold eqKs; rfl
  | n + 1, (k, v) :: r, l', hn, h => by
    obtain ⟨h1, h2, h3⟩ := h (k, v) (by simp)
    simp at hn
    unfold eqKs
    rw [h1]
    simp only
    rw [eqD_plain S n v v h2 h2 (by simp at h3; omega), eqV_self v h2, eqKs_ok S n r l' (by omega) fun q hq => h q (by simp [hq])]
    rfl
/-- a row of an own == -/
def eqk (K : R D → Sto → Prop) : R D → Sto → Prop := fun r S' => match r with
  | .ok (.bl b) => K (.ok (.bl b)) S'
  | .ok _ => False
  | .ex c fs => K (.ex c fs) S'
@[simp] theorem eqk_bl {K : R D → Sto → Prop} {b : Bool} {S : Sto} : eqk K (.ok (.bl b)) S = K (.ok (.bl b)) S := rfl
theorem cmp_own {pg : Pg} {cl} {a b f : Nat} {S : Sto} {K : R D → Sto → Prop} (h : ownF pg (·.eqf) (.obj a) S = some f) : wp (cmpD pg cl .eq (.obj a) (.obj b)) S K = wp (cl f [.obj a, .obj b]) S (eqk K) := by
  rw [wq]
  unfold cmpD
  simp only [h]
  show wp (M.bind _ _) S K = _
  rw [wp_bind]
  unfold wp
  generalize cl f [.obj a, .obj b] S = x
  rcases x with _ | ⟨r | ⟨c, fs⟩, S'⟩
  · rfl
  · cases r <;> rfl
  · rfl
theorem isTy_ins {pg : Pg} {S : Sto} {i c j : Nat} {fs : List (Nat × D)} {k : ClI} (h : S[i]? = some (.ins c fs)) (hk : pg.cls[c]? = some k) : isTy pg S (.obj i) (.own j) = some (k.up.contains j) := by simp [isTy, h, hk]
def gcl : ClI := (clsI[0]?).getD {}
/-- games that say the same -/
theorem game_eq {N k o1 c1 o2 c2 : Nat} {S : Sto} {p t : Int} {sn : List (List Nat)} {ks : List Knd} {os : List Offr} {st : List Int} {K : R D → Sto → Prop} (g1 : IsGame S o1 c1 p t sn ks os st) (g2 : IsGame S o2 c2 p t sn ks os st) (ne : c1 ≠ c2) (nd : sn.Nodup) (hl : sn.length = ks.length) (hk : ks.length ≤ 4) (ho : os.length ≤ 4) (hs : st.length ≤ 4) (hf : ∀ q ∈ ks, q.flat)
    (h : K (.ok (.bl true)) S) : wp (cmpD pgL (call pgL N (k + 1)) .eq (.obj o1) (.obj o2)) S K := by
  have e0 : ownF pgL (·.eqf) (.obj o1) S = some n_Game_eq := by
    simp only [ownF, clsOf, g1.1]
    rfl
  rw [cmp_own e0]
  rw [wp_call (fi := ⟨2, 2, b_Game_eq⟩) rfl ⟨rfl, by decide⟩]
  unfold b_Game_eq
  have f : ∀ (cl : Nat → List D → M D) (a : Nat) (v1 : D) (K : R D → Sto → Prop), lookA a (gcl).props = none → a ∈ (gcl).flds → lookA a (gameFs p t c1 os st) = some v1 → wp (fldD pgL cl (.obj o1) a) S K = K (.ok v1) S := fun cl a v1 K h1 h2 h3 => fld_at g1.1 rfl h1 h2 h3
  have f' : ∀ (cl : Nat → List D → M D) (a : Nat) (v1 : D) (K : R D → Sto → Prop), lookA a (gcl).props = none → a ∈ (gcl).flds → lookA a (gameFs p t c2 os st) = some v1 → wp (fldD pgL cl (.obj o2) a) S K = K (.ok v1) S := fun cl a v1 K h1 h2 h3 => fld_at g2.1 rfl h1 h2 h3
  have tt : ∀ (cl : Nat → List D → M D) (K : R D → Sto → Prop), wp (cmpD pgL cl .ne (.tup [.int p, .int t]) (.tup [.int p, .int t])) S K = K (.ok (.bl false)) S := fun cl K => by
    rw [cmp_ne_p rfl rfl (by show (4 : Nat) ≤ 100; decide), eqV_self _ rfl]; rfl
  have op : LA.Pu.plain (.tup (os.map Offr.D)) = true := offs_plain os
  have sp' : LA.Pu.plain (.tup (st.map D.int)) = true := plains_all fun y hy => by obtain ⟨s, _, rfl⟩ := List.mem_map.mp hy; rfl
  have od : LA.Pu.dpt (.tup (os.map Offr.D)) ≤ 100 := by
    have := dpt_tup (m := 6) (xs := os.map Offr.D) fun y hy => by obtain ⟨s, _, rfl⟩ := List.mem_map.mp hy; exact (show (6 : Nat) ≤ 6 by decide)
    simp at this; omega
  have sd : LA.Pu.dpt (.tup (st.map D.int)) ≤ 100 := by
    have := dpt_tup (m := 1) (xs := st.map D.int) fun y hy => by obtain ⟨s, _, rfl⟩ := List.mem_map.mp hy; exact Nat.le_refl _
    simp at this; omega
  have cc : ∀ (cl : Nat → List D → M D) (K : R D → Sto → Prop), wp (cmpD pgL cl .eq (.obj c1) (.obj c2)) S K = K (.ok (.bl true)) S := fun cl K => by
    have o1' : ownF pgL (·.eqf) (.obj c1) S = none := by
      simp only [ownF, clsOf, g1.2]
    have e : eqT S (.obj c1) (.obj c2) = some true := by
      simp only [eqT, g1.2, g2.2, if_neg ne, if_true]
      refine eqKs_ok S deep _ _ ?_ fun q hq => ?_
      · have := kindsL_le (sn := sn) (ks := ks)
        show _ < 100
        omega
      · unfold kindsL at hq
        obtain ⟨z, hz, rfl⟩ := List.mem_map.mp hq
        have hz2 := (List.of_mem_zip (show (z.1, z.2) ∈ sn.zip ks from hz)).2
        obtain ⟨j, hj, e⟩ := List.mem_iff_getElem.mp hz
        have h2 := List.getElem?_eq_getElem hj
        rw [e, List.getElem?_zip_eq_some] at h2
        exact ⟨lookK_kindsL h2.1 h2.2 nd, z.2.plain, Knd.dpt (hf _ hz2)⟩
    rw [wq]
    unfold cmpD
    simp only [o1', e, ap_some]
  have e7 : (0 : Nat) ∈ gcl.up := by decide
  simp [isTy_ins (pg := pgL) (j := 0) g2.1 (show pgL.cls[c_Game]? = some gcl from rfl), e7]
  simp [f _ a_many (.int p) _ rfl (by decide) rfl, f _ a_most (.int t) _ rfl (by decide) rfl, f' _ a_many (.int p) _ rfl (by decide) rfl, f' _ a_most (.int t) _ rfl (by decide) rfl, sizeL, tt, f _ a_cards (.obj c1) _ rfl (by decide) rfl, f' _ a_cards (.obj c2) _ rfl (by decide) rfl, cc, f _ a_sets (.tup (os.map Offr.D)) _ rfl (by decide) rfl, f' _ a_sets (.tup (os.map Offr.D)) _ rfl (by decide) rfl, f _ a_first (.tup (st.map D.int)) _ rfl (by decide) rfl, f' _ a_first (.tup (st.map D.int)) _ rfl (by decide) rfl]
  rw [cmp_eq_p op op od, eqV_self _ op]
  simp [f _ a_first (.tup (st.map D.int)) _ rfl (by decide) rfl, f' _ a_first (.tup (st.map D.int)) _ rfl (by decide) rfl]
  rw [cmp_eq_p sp' sp' sd, eqV_self _ sp']
  simp
  exact h
end LA.Pu

/-! Plays: effects, laying. -/
namespace LA.Pu
/-- a loop over whatever gives the items -/
theorem wp_loopW {w : Wk} {xs : List D} {step : D → En → SM} {σ : En} {S : Sto} {K : Fl → Sto → Prop} (Inv : Nat → En → Sto → Prop) (hw : w.len = xs.length)
    (h0 : Inv 0 σ S) (hg : ∀ k σ S, Inv k σ S → w.get S k = some xs[k]?)
    (hs : ∀ I : Nat → En → Sto → Prop, (∀ j σ S, Inv j σ S → I j σ S) → ∀ k d σ S, xs[k]? = some d → Inv k σ S → wp (step d σ) S (fun r S' => match r with | .nx σ' => I (k + 1) σ' S' | r => K r S')) (he : ∀ σ S, Inv xs.length σ S → K (.nx σ) S) :
    wp (loopI w step w.len 0 σ) S K := by
  rw [hw]
  have H : ∀ m k σ S, k + m = xs.length → Inv k σ S → wp (loopI w step m k σ) S K := by
    intro m
    induction m with
    | zero =>
      intro k σ S e q
      have g := hg k σ S q
      have : xs[k]? = none := by simp; omega
      rw [wq]
      simp only [loopI, g, this]
      exact he σ S (by rw [← e]; exact q)
    | succ m ih =>
      intro k σ S e q
      have g := hg k σ S q
      have hk : k < xs.length := by omega
      have gx : xs[k]? = some xs[k] := List.getElem?_eq_getElem hk
      have w1 := hs Inv (fun _ _ _ z => z) k _ σ S gx q
      rw [wq]
      simp only [loopI, g, gx]
      show wp (SM.bind (step xs[k] σ) fun σ' => loopI w step m (k + 1) σ') S K
      rw [wp_sb]
      refine wp_mono w1 fun r S' q => ?_
      rcases r with σ' | d | ⟨c, fs, σ'⟩
      · exact ih (k + 1) σ' S' (by omega) q
      · exact q
      · exact q
  exact H _ _ _ _ (by simp) h0
structure Eff where
  n : List Nat
  a : Int
  deriving DecidableEq
def Eff.D (e : Eff) : D := .tup [.str e.n, .int e.a]
def topD : Option Eff → D
  | none => .non
  | some e => e.D
def testT (k : Knd) (tb : List Int) : Bool := match k.test with
  | none => true
  | some (x, y) => decide (tb[x.toNat]? = some y)
def topT (k : Knd) : Option Eff → Bool
  | none => k.opens
  | some e => decide (e.n ∈ k.ans)
def canLay (k : Knd) (tb : List Int) (top : Option Eff) : Bool := testT k tb && topT k top
section
variable {N k : Nat} {S : Sto} {K : R D → Sto → Prop}
theorem in_strs {x : List Nat} {l : List (List Nat)} : inSeq S (.str x) (l.map D.str) = some (decide (x ∈ l)) := by
  induction l with
  | nil => rfl
  | cons a l ih =>
    simp only [List.map_cons, inSeq, eqD_ss, ih, List.mem_cons]
    congr 1
    by_cases h : a = x
    · simp [h]
    · simp [h, Ne.symm h]
theorem atI_int {tb : List Int} {x : Int} (h : 0 ≤ x ∧ x < tb.length) : ∃ v, tb[x.toNat]? = some v ∧ atI (tb.map D.int) x = some (.int v) := by
  obtain ⟨j, g, rfl, e⟩ := atI_lt (xs := tb.map D.int) h.1 (by simpa using h.2)
  have g' : j < tb.length := by simpa using g
  exact ⟨tb[j], by simp [g'], by rw [e]; simp⟩
end
end LA.Pu

/-! Plays: can_lay, moved. -/
namespace LA.Pu
def tl' : Cs → Cs
  | .cons _ r => r
  | .nil => .nil
/-- a game as the plays see it -/
structure GV (p t : Int) (sn : List (List Nat)) (ks : List Knd) (os : List Offr) : Prop where
  hp : 1 ≤ p ∧ p ≤ 2
  ht : 1 ≤ t ∧ t ≤ 2
  kl : sn.length = ks.length ∧ ks.length ≤ 4
  nd : sn.Nodup
  ks' : ∀ k ∈ ks, k.ok p t sn
  os' : ∀ o ∈ os, o.ok p t sn
  ol : os.length ≤ 3
  na : ∀ n ∈ sn, n.length ≤ 8
/-- a table -/
structure Tb (p t : Int) (tb : List Int) : Prop where
  len : (tb.length : Int) = p
  b : ∀ x ∈ tb, 0 ≤ x ∧ x ≤ t
section
variable {N k : Nat} {S : Sto} {K : R D → Sto → Prop} {p t : Int} {sn : List (List Nat)} {ks : List Knd} {os : List Offr} {st tb : List Int}
theorem lay_tail {cl} {a0 : Option D} {q : Knd} {top : Option Eff} {ed : D} (ok : q.ok p t sn) (hb : Tb p t tb) (hK : K (.ok (.bl (canLay q tb top))) S) :
    wp (evCs pgL cl N [a0, some (.tup (tb.map .int)), some (topD top), some ed, some q.testD, some (.bl q.opens), some (.tup (q.ans.map .str)), some q.act.D] (tl' b_Game_can_lay)) S (rk K) := by
  unfold b_Game_can_lay
  simp only [tl']
  have fin : testT q tb = true → wp (evCs pgL cl N [a0, some (.tup (tb.map .int)), some (topD top), some ed, some q.testD, some (.bl q.opens), some (.tup (q.ans.map .str)), some q.act.D] (tl' (tl' b_Game_can_lay))) S (rk K) := by
    intro ht
    unfold b_Game_can_lay
    simp only [tl']
    unfold canLay at hK
    rw [ht, Bool.true_and] at hK
    cases top with
    | none => simp [topD, isNonD]; exact hK
    | some e => simp [topD, Eff.D, isNonD, in_strs]; exact hK
  cases ht : q.test with
  | none =>
    have e1 : q.testD = .non := by simp [Knd.testD, ht]
    have f := fin (by simp [testT, ht])
    unfold b_Game_can_lay at f
    simp only [tl'] at f
    refine seqc (P := fun σ S' => σ = [a0, some (.tup (tb.map .int)), some (topD top), some ed, some q.testD, some (.bl q.opens), some (.tup (q.ans.map .str)), some q.act.D] ∧ S' = S) (fun T hT => ?_) ?_
    · simp [e1, isNonD]
      have := hT _ _ ⟨rfl, rfl⟩
      rw [e1] at this
      exact this
    · rintro _ _ ⟨rfl, rfl⟩
      exact f
  | some xy =>
    obtain ⟨x, y⟩ := xy
    have e1 : q.testD = .tup [.int x, .int y] := by simp [Knd.testD, ht]
    have hx := (ok.test x y ht).1
    obtain ⟨v, hv, ha⟩ := atI_int (tb := tb) (x := x) (by have := hb.len; omega)
    by_cases hvy : v = y
    · have f := fin (by simp [testT, ht, hv, hvy])
      unfold b_Game_can_lay at f
      simp only [tl'] at f
      refine seqc (P := fun σ S' => σ = [a0, some (.tup (tb.map .int)), some (topD top), some ed, some q.testD, some (.bl q.opens), some (.tup (q.ans.map .str)), some q.act.D] ∧ S' = S) (fun T hT => ?_) ?_
      · simp [e1, isNonD, idx_tup ha, hvy]
        have := hT _ _ ⟨rfl, rfl⟩
        rw [e1] at this
        exact this
      · rintro _ _ ⟨rfl, rfl⟩
        exact f
    · have ef : canLay q tb top = false := by simp [canLay, testT, ht, hv, hvy]
      rw [ef] at hK
      simp [e1, isNonD, idx_tup ha, hvy]
      exact hK
theorem can_lay_ok {o cd : Nat} {q : Knd} {top : Option Eff} {e : Eff} (hg : IsGame S o cd p t sn ks os st) (hl : lookK (.s e.n) (kindsL sn ks) = some q.D) (ok : q.ok p t sn) (hb : Tb p t tb) (hK : K (.ok (.bl (canLay q tb top))) S) :
    wp (call pgL N (k + 1) n_Game_can_lay [.obj o, .tup (tb.map .int), topD top, e.D]) S K := by
  rw [wp_call (fi := ⟨4, 8, b_Game_can_lay⟩) rfl ⟨rfl, by decide⟩]
  have eb : b_Game_can_lay = .cons (match b_Game_can_lay with | .cons c _ => c | _ => .pass) (tl' b_Game_can_lay) := rfl
  show wp (evCs _ _ _ _ b_Game_can_lay) _ _
  rw [eb]
  refine seqc (P := fun σ S' => σ = [some (.obj o), some (.tup (tb.map .int)), some (topD top), some e.D, some q.testD, some (.bl q.opens), some (.tup (q.ans.map .str)), some q.act.D] ∧ S' = S) (fun T hT => ?_) ?_
  · unfold b_Game_can_lay
    simp [fld_at (pg := pgL) hg.1 (a := a_cards) (k := gcl) rfl rfl (by decide) rfl, Eff.D, idx_dct hg.2 (a := .str e.n) rfl hl]
    simp [Knd.D, setTg, setTg.setTgs]
    exact hT _ _ ⟨rfl, rfl⟩
  · rintro _ _ ⟨rfl, rfl⟩
    exact lay_tail ok hb hK
theorem law_can_lay_ok {d kd : Nat} {kvs rest : List (Ky × D)} {q : Knd} {top : Option Eff} {e : Eff} (hd : S[d]? = some (.dct ((kPlaces, .int p) :: (kTop, .int t) :: (kKinds, .obj kd) :: rest) false)) (hk : S[kd]? = some (.dct kvs false)) (hl : lookK (.s e.n) kvs = some q.D) (ok : q.ok p t sn) (hb : Tb p t tb) (hK : K (.ok (.bl (canLay q tb top))) S) :
    wp (call pgL N (k + 1) n_law_can_lay [.obj d, .tup (tb.map .int), topD top, e.D]) S K := by
  rw [wp_call (fi := ⟨4, 8, b_law_can_lay⟩) rfl ⟨rfl, by decide⟩]
  have eb : b_law_can_lay = .cons (match b_law_can_lay with | .cons c _ => c | _ => .pass) (tl' b_Game_can_lay) := rfl
  show wp (evCs _ _ _ _ b_law_can_lay) _ _
  rw [eb]
  refine seqc (P := fun σ S' => σ = [some (.obj d), some (.tup (tb.map .int)), some (topD top), some e.D, some q.testD, some (.bl q.opens), some (.tup (q.ans.map .str)), some q.act.D] ∧ S' = S) (fun T hT => ?_) ?_
  · unfold b_law_can_lay
    simp [idx_dct hd (a := .str [107, 105, 110, 100, 115]) rfl (by simp [lookK]; rfl), Eff.D, idx_dct hk (a := .str e.n) rfl hl]
    simp [Knd.D, setTg, setTg.setTgs]
    exact hT _ _ ⟨rfl, rfl⟩
  · rintro _ _ ⟨rfl, rfl⟩
    exact lay_tail ok hb hK
end
/-! ### moved -/
def newV (t : Int) (w : W3) (n old : Int) : Int := match w with
  | .set => n
  | .up => if old < t then old + 1 else old
  | .down => if 0 < old then old - 1 else old
def placeOf (s : Stp) (aim : Int) : Int := s.wh.getD aim
def hits (os : List Offr) (pl v : Int) : List Eff := (os.filter fun o => decide (o.pl = pl) && decide (o.n = v)).map fun o => ⟨o.kd, o.aim⟩
/-- one step of a move -/
def stepM (t : Int) (os : List Offr) (aim : Int) (z : List Int × List Eff) (s : Stp) : List Int × List Eff :=
  let pl := placeOf s aim
  let old := z.1.getD pl.toNat 0
  let v := newV t s.w s.n old
  (z.1.set pl.toNat v, if v = old then z.2 else z.2 ++ hits os pl v)
def movedM (t : Int) (os : List Offr) (aim : Int) (tb : List Int) (l : List Stp) : List Int × List Eff := l.foldl (stepM t os aim) (tb, [])
theorem newV_b {p t : Int} {s : Stp} {old : Int} (h : s.ok p t) (ht : 1 ≤ t) (ho : 0 ≤ old ∧ old ≤ t) : 0 ≤ newV t s.w s.n old ∧ newV t s.w s.n old ≤ t := by
  obtain ⟨w, wh, n⟩ := s
  have h1 := h.n1
  have h0 := h.n0
  cases w with
  | set => have := h1 rfl; simp [newV] at *; omega
  | up => simp only [newV]; split <;> omega
  | down => simp only [newV]; split <;> omega
end LA.Pu

/-! Plays: moved. -/
namespace LA.Pu
theorem ixN_nat {n : Nat} {i : Int} (h : 0 ≤ i ∧ i < n) : ixN n i = some i.toNat := by simp [ixN, h.1, h.2]
theorem setI_lst {S : Sto} {j : Nat} {xs : List D} {i : Int} {v : D} {K : R Unit → Sto → Prop} (h : S[j]? = some (.lst xs false)) (hi : 0 ≤ i ∧ i < xs.length) : ap (setI (.obj j) (.int i) v S) K = K (.ok ()) (S.set j (.lst (xs.set i.toNat v) false)) := by
  simp [setI, h, ixN_nat hi]
theorem hits_len {os : List Offr} {pl v : Int} : (hits os pl v).length ≤ os.length := by
  unfold hits
  rw [List.length_map]
  exact List.length_filter_le _ _
theorem hits_snoc {os : List Offr} {o : Offr} {pl v : Int} : hits (os ++ [o]) pl v = hits os pl v ++ (if o.pl = pl ∧ o.n = v then [⟨o.kd, o.aim⟩] else []) := by
  unfold hits
  rw [List.filter_append, List.map_append]
  congr 1
  by_cases h : o.pl = pl ∧ o.n = v
  · simp [h.1, h.2]
  · rw [if_neg h]
    by_cases h1 : o.pl = pl
    · have : ¬ o.n = v := fun e => h ⟨h1, e⟩
      simp [h1, this]
    · simp [h1]
theorem hits_fm {os : List Offr} {pl v : Int} : os.filterMap (fun o => if o.pl = pl ∧ o.n = v then some (Eff.D ⟨o.kd, o.aim⟩) else none) = (hits os pl v).map Eff.D := by
  induction os with
  | nil => rfl
  | cons o os ih =>
    unfold hits at *
    by_cases h : o.pl = pl ∧ o.n = v
    · simp [h.1, h.2, ih]
    · by_cases h1 : o.pl = pl
      · have h2 : ¬ o.n = v := fun e => h ⟨h1, e⟩
        simp [h1, h2, ih]
      · simp [h1, ih]
section
variable {N k : Nat} {S : Sto} {K : R D → Sto → Prop} {p t : Int} {sn : List (List Nat)} {ks : List Knd} {os : List Offr} {st tb : List Int}
theorem Tb.get {pl : Int} (h : Tb p t tb) (hp : 0 ≤ pl ∧ pl < p) : ∃ old, tb[pl.toNat]? = some old ∧ tb.getD pl.toNat 0 = old ∧ atI (tb.map D.int) pl = some (.int old) ∧ 0 ≤ old ∧ old ≤ t := by
  have := h.len
  obtain ⟨old, h1, h2⟩ := atI_int (tb := tb) (x := pl) (by omega)
  have hb := h.b old (List.mem_of_getElem? h1)
  exact ⟨old, h1, by rw [List.getD_eq_getElem?_getD, h1]; rfl, h2, hb.1, hb.2⟩
theorem Tb.set {pl : Nat} {v : Int} (h : Tb p t tb) (hv : 0 ≤ v ∧ v ≤ t) : Tb p t (tb.set pl v) := ⟨by rw [List.length_set]; exact h.len, fun x hx => by
  rcases List.mem_or_eq_of_mem_set hx with hx | rfl
  · exact h.b x hx
  · exact hv⟩
theorem stepM_ok {aim : Int} {s : Stp} {z : List Int × List Eff} (h : Tb p t z.1) (ht : 1 ≤ t) (hs : s.ok p t) (ha : 0 ≤ aim ∧ aim < p) : (0 ≤ placeOf s aim ∧ placeOf s aim < p) ∧ Tb p t (stepM t os aim z s).1 ∧ (stepM t os aim z s).2.length ≤ z.2.length + os.length := by
  have hp : 0 ≤ placeOf s aim ∧ placeOf s aim < p := by
    unfold placeOf
    cases e : s.wh with
    | none => exact ha
    | some x => exact hs.wh x e
  obtain ⟨old, h1, h2, h3, h4⟩ := h.get hp
  have hv := newV_b hs ht h4
  refine ⟨hp, ?_, ?_⟩
  · unfold stepM
    simp only [h2]
    exact h.set hv
  · unfold stepM
    simp only
    split
    · omega
    · have := hits_len (os := os) (pl := placeOf s aim) (v := newV t s.w s.n (z.1.getD (placeOf s aim).toNat 0))
      simp only [List.length_append]
      omega
/-- the program's moved -/
theorem moved_ok {o cd : Nat} {q : Knd} {e : Eff} {l : List Stp} (hg : IsGame S o cd p t sn ks os st) (gv : GV p t sn ks os) (hl : lookK (.s e.n) (kindsL sn ks) = some q.D) (ok : q.ok p t sn) (ha : q.act = .move l) (hb : Tb p t tb) (he : 0 ≤ e.a ∧ e.a < p)
    (hK : ∀ S' la, Ext S S' → S.length ≤ la → S'[la]? = some (.lst ((movedM t os e.a tb l).2.map Eff.D) false) → K (.ok (.tup [.tup ((movedM t os e.a tb l).1.map .int), .obj la])) S') :
    wp (call pgL N (k + 1) n_Game_moved [.obj o, .tup (tb.map .int), e.D]) S K := by
  rw [wp_call (fi := ⟨3, 11, b_Game_moved⟩) rfl ⟨rfl, by decide⟩]
  unfold b_Game_moved
  have hlo : l.length ≤ 2 ∧ ∀ s ∈ l, s.ok p t := by have := ok.act; rw [ha] at this; exact this.2
  have hol := gv.ol
  have ht := gv.ht.1
  refine seqc (P := fun σ S' => σ = [some (.obj o), some (.tup (tb.map .int)), some e.D, some (.obj S.length), some (.obj (S.length + 1)), none, none, none, none, none, none] ∧ Ext S S' ∧ S'[S.length]? = some (.lst (tb.map .int) false) ∧ S'[S.length + 1]? = some (.lst [] false)) (fun T hT => ?_) ?_
  · simp [setTg, setTg.setTgs, sizeL]
    exact hT _ _ ⟨rfl, Ext.app _ _, get2a, get2b⟩
  rintro _ S1 ⟨rfl, x1, f1, la1⟩
  have hg1 := hg.ext x1
  refine seqc (P := fun σ S' => ∃ a5 a6 a7 a8 a9 a10, σ = [some (.obj o), some (.tup (tb.map .int)), some e.D, some (.obj S.length), some (.obj (S.length + 1)), a5, a6, a7, a8, a9, a10] ∧ Ext S S' ∧ S'[S.length]? = some (.lst ((movedM t os e.a tb l).1.map .int) false) ∧ S'[S.length + 1]? = some (.lst ((movedM t os e.a tb l).2.map Eff.D) false)) (fun T hT => ?_) ?_
  · simp [fld_at (pg := pgL) hg1.1 (a := a_cards) (k := gcl) rfl rfl (by decide) rfl, Eff.D, idx_dct hg1.2 (a := .str e.n) rfl hl]
    simp [Knd.D, ha, Act.D, Wk.len]
    rw [show l.length = (l.map Stp.D).length by simp]
    refine wp_loopI (fun j σ S' => ∃ a5 a6 a7 a8 a9 a10, σ = [some (.obj o), some (.tup (tb.map .int)), some e.D, some (.obj S.length), some (.obj (S.length + 1)), a5, a6, a7, a8, a9, a10] ∧ Ext S S' ∧ S'[S.length]? = some (.lst (((l.take j).foldl (stepM t os e.a) (tb, [])).1.map .int) false) ∧ S'[S.length + 1]? = some (.lst (((l.take j).foldl (stepM t os e.a) (tb, [])).2.map Eff.D) false) ∧ Tb p t ((l.take j).foldl (stepM t os e.a) (tb, [])).1 ∧ ((l.take j).foldl (stepM t os e.a) (tb, [])).2.length ≤ 3 * j) ?_ ?_ ?_
    · exact ⟨none, none, none, none, none, none, rfl, x1, f1, la1, hb, by simp⟩
    · intro I hI j dd σ S2 hj ⟨a5, a6, a7, a8, a9, a10, hσ, x2, f2, la2, hb2, hl2⟩
      subst hσ
      rw [List.getElem?_map] at hj
      obtain ⟨s, hsj, rfl⟩ := Option.map_eq_some_iff.mp hj
      have hjl := (List.getElem?_eq_some_iff.mp hsj).1
      have tk : l.take (j + 1) = l.take j ++ [s] := by rw [List.take_succ, hsj]; rfl
      have so := hlo.2 s (List.mem_of_getElem? hsj)
      have fe : (l.take (j + 1)).foldl (stepM t os e.a) (tb, []) = stepM t os e.a ((l.take j).foldl (stepM t os e.a) (tb, [])) s := by rw [tk, List.foldl_append]; rfl
      have sk := stepM_ok (os := os) hb2 ht so he
      have hI' := hI (j + 1)
      rw [fe] at hI'
      generalize (l.take j).foldl (stepM t os e.a) (tb, []) = z at *
      obtain ⟨hpl, htb', hle'⟩ := sk
      obtain ⟨old, o1, o2, o3, o4⟩ := hb2.get hpl
      have hgx := hg.ext x2
      have hv := newV_b so ht o4
      obtain ⟨w, wh, n⟩ := s
      have hpE : ∀ (K : Fl → Sto → Prop) (S : Sto) (T : Cs), wp (evCs pgL (call pgL N k) N [some (.obj o), some (.tup (tb.map .int)), some e.D, some (.obj S2.length), none, none, none, none, none, none, none] .nil) S K = wp (evCs pgL (call pgL N k) N [some (.obj o), some (.tup (tb.map .int)), some e.D, some (.obj S2.length), none, none, none, none, none, none, none] .nil) S K := fun _ _ _ => rfl
      simp only [wp_inS, wp_tgM, Stp.D, setTg, setTg.setTgs, seqOf, List.length_cons, List.length_nil, Nat.reduceAdd, Nat.reduceLT, if_true, ik_ok, List.set_cons_succ, List.set_cons_zero]
      refine seqc (P := fun σ S' => σ = [some (.obj o), some (.tup (tb.map .int)), some e.D, some (.obj S.length), some (.obj (S.length + 1)), some (.str w.s), some (Stp.whD ⟨w, wh, n⟩), some (.int n), some (.int (placeOf ⟨w, wh, n⟩ e.a)), a9, a10] ∧ S' = S2) (fun T2 hT2 => ?_) ?_
      · cases wh with
        | none =>
          simp [Stp.whD, Eff.D, setTg]
          exact hT2 _ _ ⟨rfl, rfl⟩
        | some x =>
          simp [Stp.whD, setTg]
          exact hT2 _ _ ⟨rfl, rfl⟩
      rintro _ S2b ⟨rfl, e0⟩
      rw [e0]
      clear e0 S2b hpE
      generalize hpp : placeOf ⟨w, wh, n⟩ e.a = pl at *
      refine seqc (P := fun σ S' => σ = [some (.obj o), some (.tup (tb.map .int)), some e.D, some (.obj S.length), some (.obj (S.length + 1)), some (.str w.s), some (Stp.whD ⟨w, wh, n⟩), some (.int n), some (.int pl), some (.int old), a10] ∧ S' = S2) (fun T2 hT2 => ?_) ?_
      · simp [idx_lst f2 o3, setTg]
        exact hT2 _ _ ⟨rfl, rfl⟩
      rintro _ S2b ⟨rfl, e0⟩
      rw [e0]
      clear e0 S2b
      have lz : (z.1.map D.int).length = z.1.length := by simp
      have hpl2 : 0 ≤ pl ∧ pl < ((z.1.map D.int).length : Nat) := by rw [lz]; have := hb2.len; omega
      have hset : ∀ v : Int, (z.1.map D.int).set pl.toNat (.int v) = (z.1.set pl.toNat v).map D.int := fun v => by rw [List.map_set]
      refine seqc (P := fun σ S' => σ = [some (.obj o), some (.tup (tb.map .int)), some e.D, some (.obj S.length), some (.obj (S.length + 1)), some (.str w.s), some (Stp.whD ⟨w, wh, n⟩), some (.int n), some (.int pl), some (.int old), a10] ∧ S' = S2.set S.length (.lst ((z.1.set pl.toNat (newV t w n old)).map .int) false)) (fun T2 hT2 => ?_) ?_
      · have hf := fld_at (pg := pgL) (cl := call pgL N k) (K := K) hgx.1 (a := a_most) (k := gcl) rfl rfl (by decide) rfl
        cases w with
        | set =>
          simp [W3.s]
          rw [setI_lst f2 hpl2]
          simp
          exact hT2 _ _ ⟨rfl, by rw [← hset]; rfl⟩
        | up =>
          simp [W3.s, fld_at (pg := pgL) hgx.1 (a := a_most) (k := gcl) rfl rfl (by decide) rfl]
          rw [setI_lst f2 hpl2]
          simp
          refine hT2 _ _ ⟨rfl, ?_⟩
          have e2 : (if 0 < (if old + 1 < t then old + 1 else t) then (if old + 1 < t then old + 1 else t) else 0) = newV t .up n old := by
            simp only [newV]; split <;> split <;> split <;> omega
          rw [← e2, ← hset]
        | down =>
          simp [W3.s, fld_at (pg := pgL) hgx.1 (a := a_most) (k := gcl) rfl rfl (by decide) rfl]
          rw [setI_lst f2 hpl2]
          simp
          refine hT2 _ _ ⟨rfl, ?_⟩
          have e2 : (if 0 < (if old + -1 < t then old + -1 else t) then (if old + -1 < t then old + -1 else t) else 0) = newV t .down n old := by
            simp only [newV]; split <;> split <;> split <;> omega
          rw [← e2, ← hset]
      rintro _ S3 ⟨rfl, e3⟩
      have f3 : S3[S.length]? = some (.lst ((z.1.set pl.toNat (newV t w n old)).map .int) false) := by rw [e3]; exact get_set f2
      have la3 : S3[S.length + 1]? = some (.lst (z.2.map Eff.D) false) := by rw [e3, get_setN (by omega)]; exact la2
      have x3 : Ext S S3 := by rw [e3]; exact x2.setN (Nat.le_refl _)
      clear e3
      have a3 : atI ((z.1.set pl.toNat (newV t w n old)).map D.int) pl = some (.int (newV t w n old)) := by
        have hlt : pl.toNat < z.1.length := by have := hb2.len; omega
        have h4 := atI_nat (xs := (z.1.set pl.toNat (newV t w n old)).map D.int) (j := pl.toNat) (by simpa using hlt)
        rw [show ((pl.toNat : Nat) : Int) = pl by omega] at h4
        rw [h4]
        simp
      have eS : stepM t os e.a z ⟨w, wh, n⟩ = (z.1.set pl.toNat (newV t w n old), if newV t w n old = old then z.2 else z.2 ++ hits os pl (newV t w n old)) := by
        unfold stepM
        simp only [hpp, o2]
      rw [eS] at hI' htb' hle'
      simp only at htb' hle'
      generalize newV t w n old = v at *
      have hg3 := hg.ext x3
      by_cases hvo : v = old
      · simp [idx_lst f3 a3, hvo]
        rw [if_pos hvo] at hI' hle'
        rw [hvo] at hI' f3 htb'
        exact hI' _ _ ⟨_, _, _, _, _, _, rfl, x3, f3, la3, htb', by show z.2.length ≤ _; omega⟩
      · rw [if_neg hvo] at hI' hle'
        simp [idx_lst f3 a3, hvo, recv_ext la3, fld_at (pg := pgL) hg3.1 (a := a_sets) (k := gcl) rfl rfl (by decide) rfl, Wk.len]
        refine wp_lcI (fun o => if o.pl = pl ∧ o.n = v then some (Eff.D ⟨o.kd, o.aim⟩) else none) (by simp [sizeL]; omega) (fun o1' ho S' acc xx g hl2' K' hK' => ?_) fun S4 x4 g4 => ?_
        · have f4 := xx.get f3
          simp [setTg, wipe, Offr.D]
          rw [show (2 : Int) = ((2 : Nat) : Int) from rfl, slc_upto (by simp)]
          simp [idx_lst f4 a3, sizeL]
          rw [cmp_eq_p rfl rfl (by show (4 : Nat) ≤ 100; decide)]
          simp [eqV, eqVs]
          by_cases hh : o1'.pl = pl ∧ o1'.n = v
          · simp [hh.1, hh.2, sizeL]
            rw [if_pos hh] at hK'
            exact turn_put xx g hl2' (Ext.refl _) hK'
          · rw [if_neg hh] at hK'
            by_cases h1 : o1'.pl = pl
            · have h2 : ¬ o1'.n = v := fun e => hh ⟨h1, e⟩
              simp [h1, h2]
              exact turn_skip xx g (Ext.refl _) hK'
            · simp [h1]
              exact turn_skip xx g (Ext.refl _) hK'
        · rw [hits_fm] at g4
          have la4 := x4.get la3
          have hz := hits_len (os := os) (pl := pl) (v := v)
          simp
          rw [bm_ext la4 g4 (by simp [sizeL]; omega)]
          simp
          refine hI' _ _ ⟨_, _, _, _, _, _, rfl, (x3.trans x4).setN (by omega), by rw [get_setN (by omega)]; exact x4.get f3, by rw [get_set la4]; simp, htb', by show (z.2 ++ hits os pl v).length ≤ _; rw [List.length_append]; omega⟩
    · intro σ S2 ⟨a5, a6, a7, a8, a9, a10, hσ, x2, f2, la2, hb2, hl2⟩
      subst hσ
      rw [List.length_map, List.take_length] at f2 la2
      simp
      exact hT _ _ ⟨_, _, _, _, _, _, rfl, x2, f2, la2⟩
  rintro _ S2 ⟨a5, a6, a7, a8, a9, a10, rfl, x2, f2, la2⟩
  simp [bi_tupl f2, sizeL]
  exact hK S2 (S.length + 1) x2 (by omega) la2
end
end LA.Pu

/-! Plays: the law's moved. -/
namespace LA.Pu
section
variable {N k : Nat} {S : Sto} {K : R D → Sto → Prop} {p t : Int} {sn : List (List Nat)} {ks : List Knd} {os : List Offr} {st tb : List Int}
theorem law_moved_ok {d kd : Nat} {kvs : List (Ky × D)} {q : Knd} {e : Eff} {l : List Stp} (hd : S[d]? = some (.dct [(kPlaces, .int p), (kTop, .int t), (kKinds, .obj kd), (kOffs, .tup (os.map Offr.D)), (kStart, .tup (st.map D.int))] false)) (hk : S[kd]? = some (.dct kvs false)) (gv : GV p t sn ks os) (hl : lookK (.s e.n) kvs = some q.D) (ok : q.ok p t sn) (ha : q.act = .move l) (hb : Tb p t tb) (he : 0 ≤ e.a ∧ e.a < p)
    (hK : ∀ S', Ext S S' → K (.ok (.tup [.tup ((movedM t os e.a tb l).1.map .int), .tup ((movedM t os e.a tb l).2.map Eff.D)])) S') :
    wp (call pgL N (k + 1) n_law_moved [.obj d, .tup (tb.map .int), e.D]) S K := by
  rw [wp_call (fi := ⟨3, 14, b_law_moved⟩) rfl ⟨rfl, by decide⟩]
  unfold b_law_moved
  have hlo : l.length ≤ 2 ∧ ∀ s ∈ l, s.ok p t := by have := ok.act; rw [ha] at this; exact this.2
  have hol := gv.ol
  have ht := gv.ht.1
  refine seqc (P := fun σ S' => σ = [some (.obj d), some (.tup (tb.map .int)), some e.D, some (.obj S.length), some (.obj (S.length + 1)), none, none, none, none, none, none, none, none, none] ∧ Ext S S' ∧ S'[S.length]? = some (.lst (tb.map .int) false) ∧ S'[S.length + 1]? = some (.lst [] false)) (fun T hT => ?_) ?_
  · simp [setTg, setTg.setTgs, sizeL]
    exact hT _ _ ⟨rfl, Ext.app _ _, get2a, get2b⟩
  rintro _ S1 ⟨rfl, x1, f1, la1⟩
  have hd1 := x1.get hd
  have hk1 := x1.get hk
  refine seqc (P := fun σ S' => ∃ a5 a6 a7 a8 a9 a10 a11 a12 a13, σ = [some (.obj d), some (.tup (tb.map .int)), some e.D, some (.obj S.length), some (.obj (S.length + 1)), a5, a6, a7, a8, a9, a10, a11, a12, a13] ∧ Ext S S' ∧ S'[S.length]? = some (.lst ((movedM t os e.a tb l).1.map .int) false) ∧ S'[S.length + 1]? = some (.lst ((movedM t os e.a tb l).2.map Eff.D) false)) (fun T hT => ?_) ?_
  · simp [idx_dct hd1 (a := .str [107, 105, 110, 100, 115]) rfl (by simp [lookK]; rfl), Eff.D, idx_dct hk1 (a := .str e.n) rfl hl]
    simp [Knd.D, ha, Act.D, Wk.len]
    rw [show l.length = (l.map Stp.D).length by simp]
    refine wp_loopI (fun j σ S' => ∃ a5 a6 a7 a8 a9 a10 a11 a12 a13, σ = [some (.obj d), some (.tup (tb.map .int)), some e.D, some (.obj S.length), some (.obj (S.length + 1)), a5, a6, a7, a8, a9, a10, a11, a12, a13] ∧ Ext S S' ∧ S'[S.length]? = some (.lst (((l.take j).foldl (stepM t os e.a) (tb, [])).1.map .int) false) ∧ S'[S.length + 1]? = some (.lst (((l.take j).foldl (stepM t os e.a) (tb, [])).2.map Eff.D) false) ∧ Tb p t ((l.take j).foldl (stepM t os e.a) (tb, [])).1 ∧ ((l.take j).foldl (stepM t os e.a) (tb, [])).2.length ≤ 3 * j) ?_ ?_ ?_
    · exact ⟨none, none, none, none, none, none, none, none, none, rfl, x1, f1, la1, hb, by simp⟩
    · intro I hI j dd σ S2 hj ⟨a5, a6, a7, a8, a9, a10, a11, a12, a13, hσ, x2, f2, la2, hb2, hl2⟩
      subst hσ
      rw [List.getElem?_map] at hj
      obtain ⟨s, hsj, rfl⟩ := Option.map_eq_some_iff.mp hj
      have hjl := (List.getElem?_eq_some_iff.mp hsj).1
      have tk : l.take (j + 1) = l.take j ++ [s] := by rw [List.take_succ, hsj]; rfl
      have so := hlo.2 s (List.mem_of_getElem? hsj)
      have fe : (l.take (j + 1)).foldl (stepM t os e.a) (tb, []) = stepM t os e.a ((l.take j).foldl (stepM t os e.a) (tb, [])) s := by rw [tk, List.foldl_append]; rfl
      have sk := stepM_ok (os := os) hb2 ht so he
      have hI' := hI (j + 1)
      rw [fe] at hI'
      generalize (l.take j).foldl (stepM t os e.a) (tb, []) = z at *
      obtain ⟨hpl, htb', hle'⟩ := sk
      obtain ⟨old, o1, o2, o3, o4⟩ := hb2.get hpl
      have hd2 := x2.get hd
      have hv := newV_b so ht o4
      obtain ⟨w, wh, n⟩ := s
      simp only [wp_inS, wp_tgM, Stp.D, setTg, setTg.setTgs, seqOf, List.length_cons, List.length_nil, Nat.reduceAdd, Nat.reduceLT, if_true, ik_ok, List.set_cons_succ, List.set_cons_zero]
      refine seqc (P := fun σ S' => σ = [some (.obj d), some (.tup (tb.map .int)), some e.D, some (.obj S.length), some (.obj (S.length + 1)), some (.str w.s), some (Stp.whD ⟨w, wh, n⟩), some (.int n), some (.int (placeOf ⟨w, wh, n⟩ e.a)), a9, a10, a11, a12, a13] ∧ S' = S2) (fun T2 hT2 => ?_) ?_
      · cases wh with
        | none =>
          simp [Stp.whD, Eff.D, setTg]
          exact hT2 _ _ ⟨rfl, rfl⟩
        | some x =>
          simp [Stp.whD, setTg]
          exact hT2 _ _ ⟨rfl, rfl⟩
      rintro _ S2b ⟨rfl, e0⟩
      rw [e0]
      clear e0 S2b
      generalize hpp : placeOf ⟨w, wh, n⟩ e.a = pl at *
      refine seqc (P := fun σ S' => σ = [some (.obj d), some (.tup (tb.map .int)), some e.D, some (.obj S.length), some (.obj (S.length + 1)), some (.str w.s), some (Stp.whD ⟨w, wh, n⟩), some (.int n), some (.int pl), some (.int old), a10, a11, a12, a13] ∧ S' = S2) (fun T2 hT2 => ?_) ?_
      · simp [idx_lst f2 o3, setTg]
        exact hT2 _ _ ⟨rfl, rfl⟩
      rintro _ S2b ⟨rfl, e0⟩
      rw [e0]
      clear e0 S2b
      have lz : (z.1.map D.int).length = z.1.length := by simp
      have hpl2 : 0 ≤ pl ∧ pl < ((z.1.map D.int).length : Nat) := by rw [lz]; have := hb2.len; omega
      have hlt : pl.toNat < z.1.length := by have := hb2.len; omega
      have hset : ∀ v : Int, (z.1.map D.int).set pl.toNat (.int v) = (z.1.set pl.toNat v).map D.int := fun v => by rw [List.map_set]
      have hsame : z.1.set pl.toNat old = z.1 := by
        apply List.ext_getElem?
        intro i
        by_cases hi : pl.toNat = i
        · subst hi; rw [List.getElem?_set_self hlt, o1]
        · rw [List.getElem?_set_ne hi]
      refine seqc (P := fun σ S' => σ = [some (.obj d), some (.tup (tb.map .int)), some e.D, some (.obj S.length), some (.obj (S.length + 1)), some (.str w.s), some (Stp.whD ⟨w, wh, n⟩), some (.int n), some (.int pl), some (.int old), a10, a11, a12, a13] ∧ Ext S S' ∧ S'[S.length]? = some (.lst ((z.1.set pl.toNat (newV t w n old)).map .int) false) ∧ S'[S.length + 1]? = some (.lst (z.2.map Eff.D) false)) (fun T2 hT2 => ?_) ?_
      · have fin : ∀ v, newV t w n old = v → Ext S (S2.set S.length (.lst ((z.1.map D.int).set pl.toNat (.int v)) false)) ∧ (S2.set S.length (.lst ((z.1.map D.int).set pl.toNat (.int v)) false))[S.length]? = some (.lst ((z.1.set pl.toNat (newV t w n old)).map .int) false) ∧ (S2.set S.length (.lst ((z.1.map D.int).set pl.toNat (.int v)) false))[S.length + 1]? = some (.lst (z.2.map Eff.D) false) := fun v hv => ⟨x2.setN (Nat.le_refl _), by rw [get_set f2, hset, hv], by rw [get_setN (by omega)]; exact la2⟩
        have fin0 : newV t w n old = old → S2[S.length]? = some (.lst ((z.1.set pl.toNat (newV t w n old)).map .int) false) := fun hv => by rw [hv, hsame]; exact f2
        cases w with
        | set =>
          simp [W3.s]
          rw [setI_lst f2 hpl2]
          simp
          exact hT2 _ _ ⟨rfl, fin n rfl⟩
        | up =>
          simp [W3.s, HasPT.tp ⟨_, hd2⟩]
          by_cases hc : old < t
          · simp [hc]
            rw [setI_lst f2 hpl2]
            simp
            exact hT2 _ _ ⟨rfl, fin _ (by simp [newV, hc])⟩
          · simp [hc]
            exact hT2 _ _ ⟨rfl, x2, fin0 (by simp [newV, hc]), la2⟩
        | down =>
          simp [W3.s]
          by_cases hc : 0 < old
          · simp [hc]
            rw [setI_lst f2 hpl2]
            simp
            exact hT2 _ _ ⟨rfl, fin _ (by simp [newV, hc])⟩
          · simp [hc]
            exact hT2 _ _ ⟨rfl, x2, fin0 (by simp [newV, hc]), la2⟩
      rintro _ S3 ⟨rfl, x3, f3, la3⟩
      have a3 : atI ((z.1.set pl.toNat (newV t w n old)).map D.int) pl = some (.int (newV t w n old)) := by
        have h4 := atI_nat (xs := (z.1.set pl.toNat (newV t w n old)).map D.int) (j := pl.toNat) (by simpa using hlt)
        rw [show ((pl.toNat : Nat) : Int) = pl by omega] at h4
        rw [h4]
        simp
      have eS : stepM t os e.a z ⟨w, wh, n⟩ = (z.1.set pl.toNat (newV t w n old), if newV t w n old = old then z.2 else z.2 ++ hits os pl (newV t w n old)) := by
        unfold stepM
        simp only [hpp, o2]
      rw [eS] at hI' htb' hle'
      simp only at htb' hle'
      generalize newV t w n old = v at *
      have hd3 := x3.get hd
      by_cases hvo : v = old
      · simp [idx_lst f3 a3, hvo]
        rw [if_pos hvo] at hI' hle'
        rw [hvo] at hI' f3 htb'
        exact hI' _ _ ⟨_, _, _, _, _, _, _, _, _, rfl, x3, f3, la3, htb', by show z.2.length ≤ _; omega⟩
      · rw [if_neg hvo] at hI' hle'
        simp [idx_lst f3 a3, hvo, idx_dct hd3 (a := .str [111, 102, 102, 115]) rfl (by simp [lookK]; rfl), Wk.len]
        rw [show os.length = (os.map Offr.D).length by simp]
        refine wp_loopI (fun i σ S' => ∃ a10 a11 a12 a13, σ = [some (.obj d), some (.tup (tb.map .int)), some e.D, some (.obj S.length), some (.obj (S.length + 1)), some (.str w.s), some (Stp.whD ⟨w, wh, n⟩), some (.int n), some (.int pl), some (.int old), a10, a11, a12, a13] ∧ Ext S S' ∧ S'[S.length]? = some (.lst ((z.1.set pl.toNat v).map .int) false) ∧ S'[S.length + 1]? = some (.lst ((z.2 ++ hits (os.take i) pl v).map Eff.D) false)) ?_ ?_ ?_
        · exact ⟨_, _, _, _, rfl, x3, f3, by simpa [hits] using la3⟩
        · intro I2 hI2 i dd2 σ S4 hi ⟨b10, b11, b12, b13, hσ, x4, f4, la4⟩
          subst hσ
          rw [List.getElem?_map] at hi
          obtain ⟨oo, hoi, rfl⟩ := Option.map_eq_some_iff.mp hi
          have tk2 : os.take (i + 1) = os.take i ++ [oo] := by rw [List.take_succ, hoi]; rfl
          have hz := hits_len (os := os.take i) (pl := pl) (v := v)
          have hzl : (os.take i).length ≤ os.length := by simp; omega
          have hI2' := hI2 (i + 1)
          rw [tk2, hits_snoc] at hI2'
          simp [Offr.D, setTg, setTg.setTgs]
          by_cases hh : oo.pl = pl ∧ oo.n = v
          · rw [if_pos hh] at hI2'
            simp [hh.1, hh.2, idx_lst f4 a3, recv_app la4, sizeL]
            rw [bm_app la4 (by simp [sizeL]; omega)]
            simp
            refine hI2' _ _ ⟨_, _, _, _, rfl, x4.setN (by omega), by rw [get_setN (by omega)]; exact f4, by rw [get_set la4]; simp [Eff.D]⟩
          · rw [if_neg hh, List.append_nil] at hI2'
            by_cases h1 : oo.pl = pl
            · have h2 : ¬ oo.n = v := fun e => hh ⟨h1, e⟩
              simp [h1, h2, idx_lst f4 a3]
              exact hI2' _ _ ⟨_, _, _, _, rfl, x4, f4, la4⟩
            · simp [h1]
              exact hI2' _ _ ⟨_, _, _, _, rfl, x4, f4, la4⟩
        · intro σ S4 ⟨b10, b11, b12, b13, hσ, x4, f4, la4⟩
          subst hσ
          rw [List.length_map, List.take_length] at la4
          have hz := hits_len (os := os) (pl := pl) (v := v)
          simp
          refine hI' _ _ ⟨_, _, _, _, _, _, _, _, _, rfl, x4, f4, la4, htb', by show (z.2 ++ hits os pl v).length ≤ _; rw [List.length_append]; omega⟩
    · intro σ S2 ⟨a5, a6, a7, a8, a9, a10, a11, a12, a13, hσ, x2, f2, la2, hb2, hl2⟩
      subst hσ
      rw [List.length_map, List.take_length] at f2 la2
      simp
      exact hT _ _ ⟨_, _, _, _, _, _, _, _, _, rfl, x2, f2, la2⟩
  rintro _ S2 ⟨a5, a6, a7, a8, a9, a10, a11, a12, a13, rfl, x2, f2, la2⟩
  simp [bi_tupl f2, bi_tupl la2, sizeL]
  exact hK S2 x2
end
end LA.Pu

/-! Plays: resolved. -/
namespace LA.Pu
def kOf (sn : List (List Nat)) (ks : List Knd) (n : List Nat) : Option Knd := match sn, ks with
  | a :: sn, q :: ks => if n = a then some q else kOf sn ks n
  | _, _ => none
theorem kOf_look {n : List Nat} {q : Knd} : ∀ {sn : List (List Nat)} {ks : List Knd}, kOf sn ks n = some q → lookK (.s n) (kindsL sn ks) = some q.D ∧ q ∈ ks
  | [], [], h => by cases h
  | [], _ :: _, h => by cases h
  | _ :: _, [], h => by cases h
  | a :: sn, r :: ks, h => by
    unfold kOf at h
    by_cases e : n = a
    · rw [if_pos e] at h
      cases h
      exact ⟨by show lookK (.s n) ((Ky.s a, q.D) :: kindsL sn ks) = _; simp [lookK, e], by simp⟩
    · rw [if_neg e] at h
      have ih := kOf_look h
      exact ⟨by show lookK (.s n) ((Ky.s a, r.D) :: kindsL sn ks) = _; simp [lookK, e]; exact ih.1, by simp [ih.2]⟩
theorem kOf_some {n : List Nat} : ∀ {sn : List (List Nat)} {ks : List Knd}, sn.length = ks.length → n ∈ sn → ∃ q, kOf sn ks n = some q
  | a :: sn, q :: ks, hl, h => by
    unfold kOf
    by_cases e : n = a
    · exact ⟨q, by rw [if_pos e]⟩
    · rw [if_neg e]
      refine kOf_some (by simpa using hl) ?_
      rcases List.mem_cons.mp h with h | h
      · exact absurd h e
      · exact h
  | [], _, _, h => by cases h
  | _ :: _, [], hl, _ => by cases hl
def turnM (a : Int) : List Eff → List Eff
  | [] => []
  | [x] => [⟨x.n, a⟩]
  | x :: y :: r => x :: turnM a (y :: r)
def copyM : List Eff → List Eff
  | [] => []
  | [x] => [x, x]
  | x :: y :: r => x :: copyM (y :: r)
/-- the effect e, a card of kind q, leaves the pile: rest lies beneath it -/
def resM (t : Int) (os : List Offr) (q : Knd) (tb : List Int) (rest : List Eff) (e : Eff) : List Int × List Eff := match q.act with
  | .move l => ((movedM t os e.a tb l).1, rest ++ (movedM t os e.a tb l).2)
  | .off => (tb, rest.dropLast)
  | .copy => (tb, copyM rest)
  | .turn a => (tb, turnM a rest)
theorem turnM_eq {a : Int} {r : List Eff} {x : Eff} : turnM a (r ++ [x]) = r ++ [⟨x.n, a⟩] := by
  induction r with
  | nil => rfl
  | cons y r ih => cases r with
    | nil => rfl
    | cons z r => show y :: turnM a (z :: r ++ [x]) = _; rw [ih]; rfl
theorem copyM_eq {r : List Eff} {x : Eff} : copyM (r ++ [x]) = r ++ [x, x] := by
  induction r with
  | nil => rfl
  | cons y r ih => cases r with
    | nil => rfl
    | cons z r => show y :: copyM (z :: r ++ [x]) = _; rw [ih]; rfl
theorem snoc_or (l : List Eff) : l = [] ∨ ∃ r x, l = r ++ [x] := by
  rcases List.eq_nil_or_concat l with h | ⟨r, x, h⟩
  · exact .inl h
  · exact .inr ⟨r, x, by simpa using h⟩
section
variable {S : Sto} {K : R D → Sto → Prop}
theorem atI_m1 {xs : List D} {x : D} : atI (xs ++ [x]) (-1) = some x := by
  have e : ixN (xs ++ [x]).length (-1) = some xs.length := by
    simp [ixN, show ¬ ((0 : Int) ≤ -1) by omega]
    refine ⟨by omega, by omega⟩
  unfold atI
  rw [e]
  simp
theorem cut_m1 {xs : List D} : cut xs .non (.int (-1)) = some xs.dropLast := by
  have e : (-1 + (xs.length : Int)).toNat = xs.length - 1 := by omega
  simp [cut, sIx, e, List.dropLast_eq_take]
theorem cut_last {xs : List D} {x : D} : cut (xs ++ [x]) (.int (-1)) .non = some [x] := by
  have e : (-1 + ((xs ++ [x]).length : Int)).toNat = xs.length := by simp; omega
  simp [cut, sIx] at e ⊢
  rw [e]
  simp
theorem slc_t {xs ys : List D} {lo hi : D} (hc : cut xs lo hi = some ys) : wp (slcD (.tup xs) lo hi) S K = K (.ok (.tup ys)) S := by
  simp [wq, slcD, hc]
theorem slc_o {j : Nat} {xs ys : List D} {b : Bool} {lo hi : D} (h : S[j]? = some (.lst xs b)) (hc : cut xs lo hi = some ys) : wp (slcD (.obj j) lo hi) S K = K (.ok (.obj S.length)) (S ++ [.lst ys false]) := by
  simp [wq, slcD, h, hc, new]
theorem cmp_eq_tn {pg : Pg} {cl} {xs : List D} : wp (cmpD pg cl .eq (.tup xs) (.tup [])) S K = K (.ok (.bl xs.isEmpty)) S := by cases xs <;> rfl
theorem cmp_ne_tn {pg : Pg} {cl} {xs : List D} : wp (cmpD pg cl .ne (.tup xs) (.tup [])) S K = K (.ok (.bl (!xs.isEmpty))) S := by cases xs <;> rfl
theorem eq_ln {i j : Nat} {xs : List D} {b c : Bool} (h : S[i]? = some (.lst xs b)) (h2 : S[j]? = some (.lst [] c)) (ne : i ≠ j) : eqD S 100 (.obj i) (.obj j) = some xs.isEmpty := by
  unfold eqD
  simp only [h, h2, if_neg ne]
  cases xs with
  | nil => simp [eqDs]
  | cons a r => simp
theorem cmp_eq_ln {pg : Pg} {cl} {i j : Nat} {xs : List D} {b c : Bool} (h : S[i]? = some (.lst xs b)) (h2 : S[j]? = some (.lst [] c)) (ne : i ≠ j) : wp (cmpD pg cl .eq (.obj i) (.obj j)) S K = K (.ok (.bl xs.isEmpty)) S := by
  have o : ownF pg (·.eqf) (.obj i) S = none := by simp only [ownF, clsOf, h]
  have e : eqT S (.obj i) (.obj j) = some xs.isEmpty := by
    simp only [eqT, h, h2]
    exact eq_ln h h2 ne
  rw [wq]
  unfold cmpD
  simp only [o, e, ap_some]
theorem cmp_ne_ln {pg : Pg} {cl} {i j : Nat} {xs : List D} {b c : Bool} (h : S[i]? = some (.lst xs b)) (h2 : S[j]? = some (.lst [] c)) (ne : i ≠ j) : wp (cmpD pg cl .ne (.obj i) (.obj j)) S K = K (.ok (.bl (!xs.isEmpty))) S := by
  have o : ownF pg (·.eqf) (.obj i) S = none := by simp only [ownF, clsOf, h]
  have e : eqD S deep (.obj i) (.obj j) = some xs.isEmpty := eq_ln h h2 ne
  rw [wq]
  unfold cmpD
  simp only [o, e, ap_some]
end
section
variable {N k : Nat} {S : Sto} {K : R D → Sto → Prop} {p t : Int} {sn : List (List Nat)} {ks : List Knd} {os : List Offr} {st tb : List Int}
theorem movedM_len {l : List Stp} {aim : Int} : (movedM t os aim tb l).2.length ≤ l.length * os.length := by
  have H : ∀ (l : List Stp) (z : List Int × List Eff), (l.foldl (stepM t os aim) z).2.length ≤ z.2.length + l.length * os.length := by
    intro l
    induction l with
    | nil => intro z; simp
    | cons s l ih =>
      intro z
      have h1 := ih (stepM t os aim z s)
      have h2 : (stepM t os aim z s).2.length ≤ z.2.length + os.length := by
        unfold stepM
        simp only
        split
        · omega
        · have := hits_len (os := os) (pl := placeOf s aim) (v := newV t s.w s.n (z.1.getD (placeOf s aim).toNat 0))
          simp only [List.length_append]; omega
      simp only [List.foldl_cons, List.length_cons, Nat.add_mul, Nat.one_mul]
      omega
  have := H l (tb, [])
  show (l.foldl (stepM t os aim) (tb, [])).2.length ≤ _
  simpa using this
theorem turned_ok {x : Eff} {a : Int} (hK : K (.ok (Eff.D ⟨x.n, a⟩)) S) : wp (call pgL N (k + 1) n_turned [x.D, .int a]) S K := by
  rw [wp_call (fi := ⟨2, 2, b_turned⟩) rfl ⟨rfl, by decide⟩]
  unfold b_turned
  simp [Eff.D, isNonD, sizeL]
  exact hK
/-- the program's resolved -/
theorem resolved_ok {o cd pi : Nat} {q : Knd} {e : Eff} {rest : List Eff} (hg : IsGame S o cd p t sn ks os st) (gv : GV p t sn ks os) (hq : kOf sn ks e.n = some q) (hb : Tb p t tb) (he : 0 ≤ e.a ∧ e.a < p) (hpi : S[pi]? = some (.lst ((rest ++ [e]).map Eff.D) false)) (hl : rest.length ≤ 1000)
    (hK : ∀ S' pj, Ext S S' → S.length ≤ pj → S'[pj]? = some (.lst ((resM t os q tb rest e).2.map Eff.D) false) → K (.ok (.tup [.tup ((resM t os q tb rest e).1.map .int), .obj pj])) S') :
    wp (call pgL N (k + 2) n_resolved [.obj o, .tup (tb.map .int), .obj pi]) S K := by
  rw [wp_call (fi := ⟨3, 8, b_resolved⟩) rfl ⟨rfl, by decide⟩]
  unfold b_resolved
  obtain ⟨hlook, hmem⟩ := kOf_look hq
  have ok := gv.ks' q hmem
  have em : (rest ++ [e]).map Eff.D = rest.map Eff.D ++ [e.D] := by simp
  rw [em] at hpi
  refine seqc (P := fun σ S' => σ = [some (.obj o), some (.tup (tb.map .int)), some (.obj pi), none, some e.D, some (.obj S.length), none, none] ∧ S' = S ++ [.lst (rest.map Eff.D) false]) (fun T hT => ?_) ?_
  · simp [idx_lst hpi atI_m1]
    rw [slc_o hpi cut_m1]
    simp [setTg, setTg.setTgs, sizeL]
    exact hT _ _ ⟨rfl, rfl⟩
  rintro _ S1 ⟨rfl, e1⟩
  have x1 : Ext S S1 := by rw [e1]; exact Ext.app _ _
  have g1 : S1[S.length]? = some (.lst (rest.map Eff.D) false) := by rw [e1]; exact get_new _ _
  have hl1 := lt_of_get g1
  clear e1
  have hg1 := hg.ext x1
  refine seqc (P := fun σ S' => σ = [some (.obj o), some (.tup (tb.map .int)), some (.obj pi), some q.act.D, some e.D, some (.obj S.length), none, none] ∧ S' = S1) (fun T hT => ?_) ?_
  · simp [fld_at (pg := pgL) hg1.1 (a := a_cards) (k := gcl) rfl rfl (by decide) rfl, Eff.D, idx_dct hg1.2 (a := .str e.n) rfl hlook]
    simp [Knd.D, setTg]
    exact hT _ _ ⟨rfl, rfl⟩
  rintro _ S1b ⟨rfl, e0⟩
  rw [e0]
  clear e0 S1b
  have lens := gv.ol
  unfold resM at hK
  cases ha : q.act with
  | move l =>
    rw [ha] at hK
    simp only at hK
    have hll : l.length ≤ 2 := by have := ok.act; rw [ha] at this; exact this.2.1
    have mm : ∀ {K : R Nat → Sto → Prop}, ap (methF pgL (.obj o) 10 S1) K = K (.ok n_Game_moved) S1 := methF_at hg1.1 (k := gcl) rfl rfl rfl
    simp [Act.D, mm]
    refine moved_ok (k := k) hg1 gv hlook ok ha hb he fun S2 la x2 hla g2 => ?_
    have g12 := x2.get g1
    have ml := movedM_len (t := t) (os := os) (tb := tb) (l := l) (aim := e.a)
    have mb : l.length * os.length ≤ 2 * 3 := Nat.mul_le_mul hll lens
    simp [setTg, setTg.setTgs]
    rw [bin_add_ll g12 g2 (by simp [sizeL]; omega)]
    simp [sizeL]
    have := x1.1
    have := x2.1
    exact hK _ S2.length ((x1.trans x2).trans (Ext.app _ _)) (by omega) (by rw [get_new]; simp)
  | off =>
    rw [ha] at hK
    simp only at hK
    simp [Act.D, sizeL]
    rw [cmp_eq_ln (get_app g1) (get_new S1 (.lst [] false)) (by omega)]
    have g2 := get_app (T := [Ob.lst [] false]) g1
    have x2 := Ext.app S1 [Ob.lst [] false]
    have := x1.1
    have fin : ∀ T : Sto, Ext S1 T → T[S.length]? = some (.lst (rest.map Eff.D) false) → K (.ok (.tup [.tup (tb.map .int), .obj T.length])) (T ++ [.lst (rest.map Eff.D).dropLast false]) := by
      intro T xT gT
      have := xT.1
      exact hK _ T.length ((x1.trans xT).trans (Ext.app _ _)) (by omega) (by rw [get_new]; simp)
    cases hr : (rest.map Eff.D).isEmpty with
    | true =>
      simp
      rw [slc_o g2 cut_m1]
      simp [sizeL]
      have := fin _ x2 g2
      simpa using this
    | false =>
      simp
      rw [slc_o g2 cut_m1]
      simp [sizeL]
      have := fin _ x2 g2
      simpa using this
  | copy =>
    rw [ha] at hK
    simp only at hK
    simp [Act.D, sizeL]
    rw [cmp_eq_ln (get_app g1) (get_new S1 (.lst [] false)) (by omega)]
    have g2 := get_app (T := [Ob.lst [] false]) g1
    have x2 := Ext.app S1 [Ob.lst [] false]
    have := x1.1
    generalize S1 ++ [Ob.lst [] false] = S2 at *
    have := x2.1
    rcases snoc_or rest with hr | ⟨r, x, hr⟩
    · subst hr
      simp
      rw [slc_o g2 cut_m1]
      simp [sizeL]
      exact hK _ S2.length ((x1.trans x2).trans (Ext.app _ _)) (by omega) (by rw [get_new]; rfl)
    · subst hr
      have em2 : (r ++ [x]).map Eff.D = r.map Eff.D ++ [x.D] := by simp
      have ne : ((r ++ [x]).map Eff.D).isEmpty = false := by rw [em2]; simp
      rw [ne]
      have hr2 : r.length ≤ 999 := by simp at hl; omega
      rw [em2] at g2
      simp [seq_l g2, idx_lst g2 atI_m1, sizeL]
      refine ⟨by omega, ?_⟩
      rw [copyM_eq] at hK
      exact hK _ S2.length ((x1.trans x2).trans (Ext.app _ _)) (by omega) (by rw [get_new]; simp)
  | turn a =>
    rw [ha] at hK
    simp only at hK
    simp [Act.D, sizeL]
    rw [cmp_eq_ln (get_app g1) (get_new S1 (.lst [] false)) (by omega)]
    have g2 := get_app (T := [Ob.lst [] false]) g1
    have x2 := Ext.app S1 [Ob.lst [] false]
    have := x1.1
    generalize S1 ++ [Ob.lst [] false] = S2 at *
    have := x2.1
    rcases snoc_or rest with hr | ⟨r, x, hr⟩
    · subst hr
      simp
      rw [slc_o g2 cut_m1]
      simp [sizeL]
      exact hK _ S2.length ((x1.trans x2).trans (Ext.app _ _)) (by omega) (by rw [get_new]; rfl)
    · subst hr
      have em2 : (r ++ [x]).map Eff.D = r.map Eff.D ++ [x.D] := by simp
      have ne : ((r ++ [x]).map Eff.D).isEmpty = false := by rw [em2]; simp
      rw [ne]
      have hr2 : r.length ≤ 999 := by simp at hl; omega
      rw [em2] at g2
      simp
      rw [slc_o g2 cut_m1]
      have g3 := get_new S2 (Ob.lst (r.map Eff.D ++ [x.D]).dropLast false)
      have x3 := Ext.app S2 [Ob.lst (r.map Eff.D ++ [x.D]).dropLast false]
      have g23 := x3.get g2
      have := x3.1
      generalize S2 ++ [Ob.lst (r.map Eff.D ++ [x.D]).dropLast false] = S3 at *
      simp [seq_l g3, idx_lst g23 atI_m1]
      refine turned_ok ?_
      simp [sizeL]
      refine ⟨by omega, ?_⟩
      rw [turnM_eq] at hK
      exact hK _ S3.length (((x1.trans x2).trans x3).trans (Ext.app _ _)) (by omega) (by rw [get_new]; simp)
end
end LA.Pu

/-! Plays: the law's resolved; deeds. -/
namespace LA.Pu
section
variable {N k : Nat} {S : Sto} {K : R D → Sto → Prop} {p t : Int} {sn : List (List Nat)} {ks : List Knd} {os : List Offr} {st tb : List Int}
theorem law_resolved_ok {d kd : Nat} {q : Knd} {e : Eff} {rest : List Eff} (hd : S[d]? = some (.dct [(kPlaces, .int p), (kTop, .int t), (kKinds, .obj kd), (kOffs, .tup (os.map Offr.D)), (kStart, .tup (st.map D.int))] false)) (hk : S[kd]? = some (.dct (kindsL sn ks) false)) (gv : GV p t sn ks os) (hq : kOf sn ks e.n = some q) (hb : Tb p t tb) (he : 0 ≤ e.a ∧ e.a < p) (hl : rest.length ≤ 1000)
    (hK : ∀ S', Ext S S' → K (.ok (.tup [.tup ((resM t os q tb rest e).1.map .int), .tup ((resM t os q tb rest e).2.map Eff.D)])) S') :
    wp (call pgL N (k + 2) n_law_resolved [.obj d, .tup (tb.map .int), .tup ((rest ++ [e]).map Eff.D)]) S K := by
  rw [wp_call (fi := ⟨3, 8, b_law_resolved⟩) rfl ⟨rfl, by decide⟩]
  unfold b_law_resolved
  obtain ⟨hlook, hmem⟩ := kOf_look hq
  have ok := gv.ks' q hmem
  have em : (rest ++ [e]).map Eff.D = rest.map Eff.D ++ [e.D] := by simp
  rw [em]
  refine seqc (P := fun σ S' => σ = [some (.obj d), some (.tup (tb.map .int)), some (.tup (rest.map Eff.D ++ [e.D])), none, some e.D, some (.tup (rest.map Eff.D)), none, none] ∧ S' = S) (fun T hT => ?_) ?_
  · simp
    rw [idx_tup atI_m1]
    simp
    rw [slc_t cut_m1]
    simp [setTg, setTg.setTgs, sizeL]
    exact hT _ _ ⟨rfl, rfl⟩
  rintro _ S1 ⟨rfl, e0⟩
  rw [e0]
  clear e0 S1
  refine seqc (P := fun σ S' => σ = [some (.obj d), some (.tup (tb.map .int)), some (.tup (rest.map Eff.D ++ [e.D])), some q.act.D, some e.D, some (.tup (rest.map Eff.D)), none, none] ∧ S' = S) (fun T hT => ?_) ?_
  · simp [idx_dct hd (a := .str [107, 105, 110, 100, 115]) rfl (by simp [lookK]; rfl), Eff.D, idx_dct hk (a := .str e.n) rfl hlook]
    simp [Knd.D, setTg]
    exact hT _ _ ⟨rfl, rfl⟩
  rintro _ S1 ⟨rfl, e0⟩
  rw [e0]
  clear e0 S1
  have lens := gv.ol
  unfold resM at hK
  cases ha : q.act with
  | move l =>
    rw [ha] at hK
    simp only at hK
    have hll : l.length ≤ 2 := by have := ok.act; rw [ha] at this; exact this.2.1
    simp [Act.D]
    refine law_moved_ok (k := k) hd hk gv hlook ok ha hb he fun S2 x2 => ?_
    have ml := movedM_len (t := t) (os := os) (tb := tb) (l := l) (aim := e.a)
    have mb : l.length * os.length ≤ 2 * 3 := Nat.mul_le_mul hll lens
    simp [setTg, setTg.setTgs]
    rw [bin_add_tt (by simp [sizeL]; omega)]
    simp [sizeL]
    have := hK S2 x2
    simpa using this
  | off =>
    rw [ha] at hK
    simp only at hK
    have h0 := hK S (Ext.refl _)
    simp [Act.D]
    rw [cmp_eq_tn]
    rcases snoc_or rest with hr | ⟨r, x, hr⟩
    · subst hr
      simp [sizeL]
      exact h0
    · subst hr
      have em2 : (r ++ [x]).map Eff.D = r.map Eff.D ++ [x.D] := by simp
      rw [em2]
      simp
      rw [slc_t cut_m1]
      simp [sizeL]
      simpa using h0
  | copy =>
    rw [ha] at hK
    simp only at hK
    have h0 := hK S (Ext.refl _)
    simp [Act.D]
    rw [cmp_eq_tn]
    rcases snoc_or rest with hr | ⟨r, x, hr⟩
    · subst hr
      simp [sizeL]
      exact h0
    · subst hr
      have em2 : (r ++ [x]).map Eff.D = r.map Eff.D ++ [x.D] := by simp
      have hr2 : r.length ≤ 999 := by simp at hl; omega
      rw [em2]
      simp
      rw [slc_t cut_last]
      simp
      rw [bin_add_tt (by simp [sizeL]; omega)]
      simp [sizeL]
      rw [copyM_eq] at h0
      simpa using h0
  | turn a =>
    rw [ha] at hK
    simp only at hK
    have h0 := hK S (Ext.refl _)
    simp [Act.D]
    rw [cmp_eq_tn]
    rcases snoc_or rest with hr | ⟨r, x, hr⟩
    · subst hr
      simp [sizeL]
      exact h0
    · subst hr
      have em2 : (r ++ [x]).map Eff.D = r.map Eff.D ++ [x.D] := by simp
      have hr2 : r.length ≤ 999 := by simp at hl; omega
      rw [em2]
      simp
      rw [slc_t cut_m1]
      simp
      rw [idx_tup atI_m1]
      simp [Eff.D, sizeL]
      rw [bin_add_tt (by simp [sizeL]; omega)]
      simp [sizeL]
      rw [turnM_eq] at h0
      simpa [Eff.D] using h0
end
end LA.Pu

/-! Plays: deeds. -/
namespace LA.Pu
abbrev sLay : List Nat := [108, 97, 121]
abbrev sRes : List Nat := [114, 101, 115, 111, 108, 118, 101]
inductive Dd where
  | lay (e : Eff) | res
def Dd.D : Dd → D
  | .lay e => .tup [.str sLay, .str e.n, .int e.a]
  | .res => .tup [.str sRes]
def EffOk (p : Int) (sn : List (List Nat)) (e : Eff) : Prop := e.n ∈ sn ∧ 0 ≤ e.a ∧ e.a < p
def Dd.ok (p : Int) (sn : List (List Nat)) : Dd → Prop
  | .lay e => EffOk p sn e
  | .res => True
def stepD (t : Int) (sn : List (List Nat)) (ks : List Knd) (os : List Offr) (tb : List Int) (pile : List Eff) : Dd → Option (List Int × List Eff)
  | .lay e => match kOf sn ks e.n with
    | some q => if canLay q tb pile.getLast? then some (tb, pile ++ [e]) else none
    | none => none
  | .res => match pile.getLast? with
    | some e => (match kOf sn ks e.n with
      | some q => some (resM t os q tb pile.dropLast e)
      | none => none)
    | none => none
section
variable {N k : Nat} {S : Sto} {K : R D → Sto → Prop} {p t : Int} {sn : List (List Nat)} {ks : List Knd} {os : List Offr} {st tb : List Int} {o cd : Nat}
theorem lookK_iff {n : List Nat} (hl : sn.length = ks.length) : (lookK (.s n) (kindsL sn ks)).isSome = decide (n ∈ sn) := by
  induction sn generalizing ks with
  | nil => rfl
  | cons a r ih =>
    cases ks with
    | nil => cases hl
    | cons q ks =>
      show (lookK (.s n) ((Ky.s a, q.D) :: kindsL r ks)).isSome = _
      unfold lookK
      by_cases e : n = a
      · simp [e]
      · have : Ky.s n ≠ Ky.s a := by intro z; injection z with z; exact e z
        rw [if_neg this, ih (by simpa using hl)]
        simp [e]
theorem is_eff (hg : IsGame S o cd p t sn ks os st) (hl : sn.length = ks.length) {n : List Nat} {a : Int} : wp (call pgL N (k + 4) n_Game_is_effect [.obj o, .tup [.str n, .int a]]) S K = K (.ok (.bl (decide (n ∈ sn) && belowB a p))) S := by
  rw [wp_call (fi := ⟨2, 2, b_Game_is_effect⟩) rfl ⟨rfl, by decide⟩]
  unfold b_Game_is_effect
  simp [fld_at (pg := pgL) hg.1 (a := a_cards) (k := gcl) rfl rfl (by decide) rfl, fld_at (pg := pgL) hg.1 (a := a_many) (k := gcl) rfl rfl (by decide) rfl]
  rw [wp_call (fi := ⟨4, 4, b_is_effect_of⟩) rfl ⟨rfl, by decide⟩]
  unfold b_is_effect_of
  simp [cmp_in_dct hg.2 (a := .str n) rfl, lookK_iff hl]
  by_cases h : n ∈ sn <;> simp [h]
theorem is_eff_len {xs : List D} (h : xs.length ≠ 2) : wp (call pgL N (k + 4) n_Game_is_effect [.obj o, .tup xs]) S K = K (.ok (.bl false)) S := by
  rw [wp_call (fi := ⟨2, 2, b_Game_is_effect⟩) rfl ⟨rfl, by decide⟩]
  unfold b_Game_is_effect
  simp [show ¬ (xs.length : Int) = 2 by omega]
theorem is_eff_non (hg : IsGame S o cd p t sn ks os st) {a : D} : wp (call pgL N (k + 4) n_Game_is_effect [.obj o, .tup [.non, a]]) S K = K (.ok (.bl false)) S := by
  rw [wp_call (fi := ⟨2, 2, b_Game_is_effect⟩) rfl ⟨rfl, by decide⟩]
  unfold b_Game_is_effect
  simp [fld_at (pg := pgL) hg.1 (a := a_cards) (k := gcl) rfl rfl (by decide) rfl, fld_at (pg := pgL) hg.1 (a := a_many) (k := gcl) rfl rfl (by decide) rfl]
  rw [wp_call (fi := ⟨4, 4, b_is_effect_of⟩) rfl ⟨rfl, by decide⟩]
  unfold b_is_effect_of
  simp
theorem is_below_bl {b : Bool} {m : Int} : wp (call pgL N (k + 2) n_is_below [.bl b, .int m]) S K = K (.ok (.bl false)) S := by
  rw [wp_call (fi := ⟨2, 2, b_is_below⟩) rfl ⟨rfl, by decide⟩]
  unfold b_is_below
  simp
  rw [wp_call (fi := ⟨1, 1, b_is_integer⟩) rfl ⟨rfl, by decide⟩]
  unfold b_is_integer
  simp
theorem is_eff_bl (hg : IsGame S o cd p t sn ks os st) (hl : sn.length = ks.length) {n : List Nat} {b : Bool} : wp (call pgL N (k + 4) n_Game_is_effect [.obj o, .tup [.str n, .bl b]]) S K = K (.ok (.bl false)) S := by
  rw [wp_call (fi := ⟨2, 2, b_Game_is_effect⟩) rfl ⟨rfl, by decide⟩]
  unfold b_Game_is_effect
  simp [fld_at (pg := pgL) hg.1 (a := a_cards) (k := gcl) rfl rfl (by decide) rfl, fld_at (pg := pgL) hg.1 (a := a_many) (k := gcl) rfl rfl (by decide) rfl]
  rw [wp_call (fi := ⟨4, 4, b_is_effect_of⟩) rfl ⟨rfl, by decide⟩]
  unfold b_is_effect_of
  simp [cmp_in_dct hg.2 (a := .str n) rfl, lookK_iff hl]
  by_cases h : n ∈ sn
  · simp [h, is_below_bl]
  · simp [h]
theorem m_eff (hg : IsGame S o cd p t sn ks os st) {K : R Nat → Sto → Prop} : ap (methF pgL (.obj o) a_is_effect S) K = K (.ok n_Game_is_effect) S := methF_at hg.1 (k := gcl) rfl rfl rfl
theorem m_can (hg : IsGame S o cd p t sn ks os st) {K : R Nat → Sto → Prop} : ap (methF pgL (.obj o) a_can_lay S) K = K (.ok n_Game_can_lay) S := methF_at hg.1 (k := gcl) rfl rfl rfl
theorem cmp_res {pg : Pg} {cl} {xs : List D} (hp : plains xs = true) (hd : dpts xs ≤ 90) : wp (cmpD pg cl .eq (.tup xs) (.tup [.str sRes])) S K = K (.ok (.bl (eqVs xs [.str sRes]))) S := by
  rw [cmp_eq_p (a := .tup xs) hp rfl (by show dpts xs + 1 ≤ 100; omega)]
  rfl
/-- deeds of the right form -/
theorem is_deed_ok {d : Dd} (hg : IsGame S o cd p t sn ks os st) (hl : sn.length = ks.length) (hd : d.ok p sn) (hK : K (.ok (.bl true)) S) : wp (call pgL N (k + 5) n_is_deed [.obj o, d.D]) S K := by
  rw [wp_call (fi := ⟨2, 2, b_is_deed⟩) rfl ⟨rfl, by decide⟩]
  unfold b_is_deed
  cases d with
  | res =>
    simp [Dd.D, sizeL]
    rw [cmp_res rfl (by decide)]
    simp [eqVs, eqV]
    exact hK
  | lay e =>
    obtain ⟨h1, h2, h3⟩ := hd
    simp [Dd.D, sizeL]
    rw [cmp_res rfl (by show (4 : Nat) ≤ 90; decide)]
    simp [eqVs, eqV, m_eff hg]
    rw [is_eff hg hl]
    simp [h1, belowB, h2, h3]
    exact hK
theorem behind_ok {pi : Nat} {d : Dd} {pile : List Eff} (hg : IsGame S o cd p t sn ks os st) (gv : GV p t sn ks os) (hd : d.ok p sn) (hb : Tb p t tb) (hpi : S[pi]? = some (.lst (pile.map Eff.D) false)) (hl : pile.length ≤ 1000) (hpo : ∀ e ∈ pile, EffOk p sn e)
    (hK : ∀ S', Ext S S' → match stepD t sn ks os tb pile d with
      | none => K (.ok .non) S'
      | some z => ∀ pj, S.length ≤ pj → S'[pj]? = some (.lst (z.2.map Eff.D) false) → K (.ok (.tup [.tup (z.1.map .int), .obj pj])) S') :
    wp (call pgL N (k + 3) n_behind [.obj o, .tup (tb.map .int), .obj pi, d.D]) S K := by
  rw [wp_call (fi := ⟨4, 5, b_behind⟩) rfl ⟨rfl, by decide⟩]
  unfold b_behind
  have hpl := lt_of_get hpi
  cases d with
  | res =>
    simp [Dd.D, sizeL]
    rw [cmp_ne_ln (get_app hpi) (get_new S (.lst [] false)) (by omega)]
    have x2 := Ext.app S [Ob.lst [] false]
    have g2 := get_app (T := [Ob.lst [] false]) hpi
    generalize S ++ [Ob.lst [] false] = S2 at *
    rcases snoc_or pile with hr | ⟨r, x, hr⟩
    · subst hr
      simp
      have := hK S2 x2
      simpa [stepD] using this
    · subst hr
      have hx := hpo x (by simp)
      obtain ⟨q, hq⟩ := kOf_some gv.kl.1 hx.1
      have ne : ((r ++ [x]).map Eff.D).isEmpty = false := by simp
      rw [ne]
      simp
      refine resolved_ok (k := k) (hg.ext x2) gv hq hb hx.2 g2 (by simp at hl; omega) fun S3 pj x3 hpj g3 => ?_
      have h3 := hK S3 (x2.trans x3)
      have := x2.1
      simp [stepD, hq] at h3
      simp
      exact h3 pj (by omega) (by simpa using g3)
  | lay e =>
    obtain ⟨q, hq⟩ := kOf_some gv.kl.1 hd.1
    obtain ⟨hlook, hmem⟩ := kOf_look hq
    have ok := gv.ks' q hmem
    simp [Dd.D, sizeL, setTg, m_can hg]
    rw [cmp_ne_ln (get_app hpi) (get_new S (.lst [] false)) (by omega)]
    have x2 := Ext.app S [Ob.lst [] false]
    have g2 := get_app (T := [Ob.lst [] false]) hpi
    generalize S ++ [Ob.lst [] false] = S2 at *
    have hg2 := hg.ext x2
    have := x2.1
    have fin : wp (call pgL N (k + 2) n_Game_can_lay [.obj o, .tup (tb.map .int), topD pile.getLast?, e.D]) S2 (bk (fun a => M.bind (truthM a) fun b => M.pure (.bl (!b)))
        (ik [some (.obj o), some (.tup (tb.map .int)), some (.obj pi), some (.tup [.str sLay, .str e.n, .int e.a]), some e.D]
          (fun d => M.inS [some (.obj o), some (.tup (tb.map .int)), some (.obj pi), some (.tup [.str sLay, .str e.n, .int e.a]), some e.D] (truthM d) fun t => if t = true then evCs pgL (call pgL N (k + 2)) N [some (.obj o), some (.tup (tb.map .int)), some (.obj pi), some (.tup [.str sLay, .str e.n, .int e.a]), some e.D] (.cons (.ret (.con .non)) .nil) else evCs pgL (call pgL N (k + 2)) N [some (.obj o), some (.tup (tb.map .int)), some (.obj pi), some (.tup [.str sLay, .str e.n, .int e.a]), some e.D] .nil)
          (sk (fun σ' => evCs pgL (call pgL N (k + 2)) N σ' (.cons (.ret (.tup (.cons false (.loc 1) (.cons false (.lst (.cons true (.loc 2) (.cons false (.loc 4) .nil))) .nil)))) .nil)) (rk K)))) := by
      refine can_lay_ok (k := k + 1) hg2 hlook ok hb ?_
      have h2 := hK S2 x2
      cases hc : canLay q tb pile.getLast? with
      | false =>
        simp [stepD, hq, hc] at h2
        simp
        exact h2
      | true =>
        simp [seq_l g2, sizeL]
        refine ⟨by omega, ?_⟩
        have h3 := hK (S2 ++ [.lst (pile.map Eff.D ++ [e.D]) false]) (x2.trans (Ext.app _ _))
        simp [stepD, hq, hc] at h3
        exact h3 S2.length (by omega) (get_new _ _)
    rcases snoc_or pile with hr | ⟨r, x, hr⟩
    · subst hr
      simp
      simp [topD] at fin
      exact fin
    · subst hr
      have em2 : (r ++ [x]).map Eff.D = r.map Eff.D ++ [x.D] := by simp
      have ne : ((r ++ [x]).map Eff.D).isEmpty = false := by simp
      rw [ne]
      rw [em2] at g2
      simp [idx_lst g2 atI_m1]
      simp [topD] at fin
      exact fin
end
end LA.Pu

/-! Plays: replay. -/
namespace LA.Pu
def runD (t : Int) (sn : List (List Nat)) (ks : List Knd) (os : List Offr) (tb : List Int) (pile : List Eff) : List Dd → Option (List Int × List Eff)
  | [] => some (tb, pile)
  | d :: ds => match stepD t sn ks os tb pile d with
    | some z => runD t sn ks os z.1 z.2 ds
    | none => none
theorem runD_snoc {t : Int} {sn : List (List Nat)} {ks : List Knd} {os : List Offr} {d : Dd} {z : List Int × List Eff} : ∀ {ds : List Dd} {tb : List Int} {pile : List Eff}, runD t sn ks os tb pile ds = some z → runD t sn ks os tb pile (ds ++ [d]) = stepD t sn ks os z.1 z.2 d
  | [], tb, pile, h => by
    cases h
    cases e : stepD t sn ks os tb pile d <;> simp [runD, e]
  | c :: ds, tb, pile, h => by
    unfold runD at h
    cases e : stepD t sn ks os tb pile c with
    | none => rw [e] at h; cases h
    | some w =>
      rw [e] at h
      have ih := runD_snoc (d := d) h
      simp [runD, e, ih]
theorem runD_pre {t : Int} {sn : List (List Nat)} {ks : List Knd} {os : List Offr} {tb : List Int} {pile : List Eff} {ds : List Dd} {z : List Int × List Eff} {k : Nat} {d : Dd} (h : runD t sn ks os tb pile ds = some z) (hk : ds[k]? = some d) :
    ∃ y y', runD t sn ks os tb pile (ds.take k) = some y ∧ stepD t sn ks os y.1 y.2 d = some y' ∧ runD t sn ks os tb pile (ds.take (k + 1)) = some y' := by
  induction ds generalizing tb pile k with
  | nil => simp at hk
  | cons c ds ih =>
    unfold runD at h
    cases e : stepD t sn ks os tb pile c with
    | none => rw [e] at h; cases h
    | some w =>
      rw [e] at h
      cases k with
      | zero =>
        simp at hk
        subst hk
        exact ⟨(tb, pile), w, rfl, e, by simp [runD, e]⟩
      | succ k =>
        simp at hk
        obtain ⟨y, y', h1, h2, h3⟩ := ih h hk
        exact ⟨y, y', by simp [runD, e, h1], h2, by simp [runD, e, h3]⟩
/-- a state of a play -/
structure St (p t : Int) (sn : List (List Nat)) (z : List Int × List Eff) : Prop where
  tb : Tb p t z.1
  po : ∀ e ∈ z.2, EffOk p sn e
section
variable {N k : Nat} {S : Sto} {K : R D → Sto → Prop} {p t : Int} {sn : List (List Nat)} {ks : List Knd} {os : List Offr} {st tb : List Int} {o cd : Nat}
theorem hits_ok (gv : GV p t sn ks os) {pl v : Int} : ∀ e ∈ hits os pl v, EffOk p sn e := by
  intro e he
  unfold hits at he
  obtain ⟨o, ho, rfl⟩ := List.mem_map.mp he
  have := gv.os' o (List.mem_filter.mp ho).1
  exact ⟨this.kd, this.aim⟩
theorem movedM_ok (gv : GV p t sn ks os) {l : List Stp} {aim : Int} (hs : ∀ s ∈ l, s.ok p t) (ha : 0 ≤ aim ∧ aim < p) (hb : Tb p t tb) : Tb p t (movedM t os aim tb l).1 ∧ ∀ e ∈ (movedM t os aim tb l).2, EffOk p sn e := by
  have H : ∀ (l : List Stp) (z : List Int × List Eff), (∀ s ∈ l, s.ok p t) → Tb p t z.1 → (∀ e ∈ z.2, EffOk p sn e) → Tb p t (l.foldl (stepM t os aim) z).1 ∧ ∀ e ∈ (l.foldl (stepM t os aim) z).2, EffOk p sn e := by
    intro l
    induction l with
    | nil => intro z _ h1 h2; exact ⟨h1, h2⟩
    | cons s l ih =>
      intro z hs h1 h2
      have hk := stepM_ok (os := os) h1 gv.ht.1 (hs s (by simp)) ha
      refine ih (stepM t os aim z s) (fun s hs' => hs s (by simp [hs'])) hk.2.1 fun e he => ?_
      unfold stepM at he
      simp only at he
      split at he
      · exact h2 e he
      · rcases List.mem_append.mp he with he | he
        · exact h2 e he
        · exact hits_ok gv e he
  exact H l (tb, []) hs hb (by simp)
theorem stepD_ok (gv : GV p t sn ks os) {pile : List Eff} {d : Dd} {z : List Int × List Eff} (hs : St p t sn (tb, pile)) (hd : d.ok p sn) (h : stepD t sn ks os tb pile d = some z) : St p t sn z ∧ z.2.length ≤ pile.length + 6 := by
  cases d with
  | lay e =>
    obtain ⟨q, hq⟩ := kOf_some gv.kl.1 hd.1
    simp only [stepD, hq] at h
    split at h
    · cases h
      refine ⟨⟨hs.tb, fun x hx => ?_⟩, by simp⟩
      rcases List.mem_append.mp hx with hx | hx
      · exact hs.po x hx
      · rw [List.mem_singleton.mp hx]; exact hd
    · cases h
  | res =>
    rcases snoc_or pile with hr | ⟨r, e, hr⟩
    · subst hr; simp [stepD] at h
    · subst hr
      have he := hs.po e (by simp)
      obtain ⟨q, hq⟩ := kOf_some gv.kl.1 he.1
      have hm := (kOf_look hq).2
      have ok := gv.ks' q hm
      simp [stepD, hq] at h
      have hpo : ∀ x ∈ r, EffOk p sn x := fun x hx => hs.po x (by simp [hx])
      subst h
      unfold resM
      cases ha : q.act with
      | move l =>
        have hlo : l.length ≤ 2 ∧ ∀ s ∈ l, s.ok p t := by have := ok.act; rw [ha] at this; exact this.2
        have mo := movedM_ok gv hlo.2 he.2 hs.tb
        have ml := movedM_len (t := t) (os := os) (tb := tb) (l := l) (aim := e.a)
        have mb : l.length * os.length ≤ 2 * 3 := Nat.mul_le_mul hlo.1 gv.ol
        refine ⟨⟨mo.1, fun x hx => ?_⟩, by simp only [List.length_append, List.length_cons, List.length_nil]; omega⟩
        rcases List.mem_append.mp hx with hx | hx
        · exact hpo x hx
        · exact mo.2 x hx
      | off =>
        refine ⟨⟨hs.tb, fun x hx => hpo x (List.dropLast_subset _ hx)⟩, by simp; omega⟩
      | copy =>
        rcases snoc_or r with hr | ⟨r', x', hr⟩
        · subst hr; exact ⟨⟨hs.tb, fun x hx => by simp [copyM] at hx⟩, by simp [copyM]⟩
        · subst hr
          simp only [copyM_eq]
          refine ⟨⟨hs.tb, fun x hx => hpo x ?_⟩, by simp⟩
          simp at hx ⊢
          rcases hx with hx | hx <;> simp [hx]
      | turn a =>
        have hta : 0 ≤ a ∧ a < p := by have := ok.act; rw [ha] at this; exact this
        rcases snoc_or r with hr | ⟨r', x', hr⟩
        · subst hr; exact ⟨⟨hs.tb, fun x hx => by simp [turnM] at hx⟩, by simp [turnM]⟩
        · subst hr
          simp only [turnM_eq]
          refine ⟨⟨hs.tb, fun x hx => ?_⟩, by simp⟩
          rcases List.mem_append.mp hx with hx | hx
          · exact hpo x (by simp [hx])
          · rw [List.mem_singleton.mp hx]
            exact ⟨(hpo x' (by simp)).1, hta⟩
theorem runD_ok (gv : GV p t sn ks os) : ∀ {ds : List Dd} {tb : List Int} {pile : List Eff} {z : List Int × List Eff}, St p t sn (tb, pile) → (∀ d ∈ ds, d.ok p sn) → runD t sn ks os tb pile ds = some z → St p t sn z ∧ z.2.length ≤ pile.length + 6 * ds.length
  | [], tb, pile, z, hs, _, h => by cases h; exact ⟨hs, by simp⟩
  | d :: ds, tb, pile, z, hs, hd, h => by
    unfold runD at h
    cases e : stepD t sn ks os tb pile d with
    | none => rw [e] at h; cases h
    | some w =>
      rw [e] at h
      have h1 := stepD_ok gv hs (hd d (by simp)) e
      have h2 := runD_ok gv h1.1 (fun x hx => hd x (by simp [hx])) h
      refine ⟨h2.1, ?_⟩
      have := h2.2
      have := h1.2
      simp only [List.length_cons]
      omega
/-- no deed -/
def NoDeed (S : Sto) (p : Int) (sn : List (List Nat)) (b : D) : Prop := ∀ (N k o cd : Nat) (ks : List Knd) (os : List Offr) (st : List Int) (t : Int) (S' : Sto) (K : R D → Sto → Prop), Ext S S' → IsGame S' o cd p t sn ks os st → sn.length = ks.length → K (.ok (.bl false)) S' → wp (call pgL N (k + 5) n_is_deed [.obj o, b]) S' K
/-- what replay refuses at a state -/
def Refused (S : Sto) (p t : Int) (sn : List (List Nat)) (ks : List Knd) (os : List Offr) (z : List Int × List Eff) (b : D) : Prop := NoDeed S p sn b ∨ ∃ d, b = Dd.D d ∧ d.ok p sn ∧ stepD t sn ks os z.1 z.2 d = none
end
end LA.Pu

/-! Plays: replay, told. -/
namespace LA.Pu
/-- where the deeds lie: a tuple, a list -/
def Held (S : Sto) (v : D) (xs : List D) : Prop := v = .tup xs ∨ ∃ j b, v = .obj j ∧ S[j]? = some (.lst xs b)
def rcl : ClI := (clsI[1]?).getD {}
section
variable {N k : Nat} {S : Sto} {K : R D → Sto → Prop} {p t : Int} {sn : List (List Nat)} {ks : List Knd} {os : List Offr} {st tb : List Int} {o cd : Nat}
theorem numD_get {xs : List D} {k : Nat} : (numD xs)[k]? = (xs[k]?).map fun y => D.tup [.int k, y] := by
  unfold numD
  rw [List.getElem?_map, List.getElem?_zipIdx]
  cases xs[k]? <;> simp
theorem enum_held {S0 : Sto} {v : D} {xs : List D} {K : R (Wk × Option Nat) → Sto → Prop} (h : Held S0 v xs) (x : Ext S0 S) (hK : ∀ w : Wk, w.len = (numD xs).length → (∀ S', Ext S0 S' → ∀ k, w.get S' k = some (numD xs)[k]?) → K (.ok (w, none)) S) : wp (enumM v) S K := by
  rcases h with rfl | ⟨j, b, rfl, hj⟩
  · exact hK (.items (numD xs)) rfl fun S' _ k => rfl
  · rw [wq]
    simp only [enumM, x.get hj, ap_some]
    refine hK (.enumL j xs.length) (by simp [Wk.len, numD]) fun S' x k => ?_
    simp only [Wk.get, x.get hj, if_true, numD_get]
    cases xs[k]? <;> rfl
theorem record_ok {a b c d : D} (hK : ∀ S', Ext S S' → K (.ok (.obj S.length)) S') : wp (makeD pgL (call pgL N (k + 1)) c_Record [a, b, c, d]) S K := by
  rw [wp_make (k := rcl) rfl rfl rfl]
  rw [wp_call (fi := ⟨5, 5, b_Record_init⟩) rfl ⟨rfl, by decide⟩]
  unfold b_Record_init
  have g0 := get_new S (Ob.ins c_Record [])
  have x0 := Ext.app S [Ob.ins c_Record []]
  generalize S ++ [Ob.ins c_Record []] = S0 at *
  simp
  rw [setF_at g0 (k := rcl) rfl (by decide) (by decide)]
  simp
  have g1 := get_set (o := .ins c_Record (putA 6 a [])) g0
  have x1 := x0.setN (i := S.length) (o := .ins c_Record (putA 6 a [])) (Nat.le_refl _)
  generalize S0.set S.length (.ins c_Record (putA 6 a [])) = S1 at *
  rw [setF_at g1 (k := rcl) rfl (by decide) (by simp [putA])]
  simp
  have g2 := get_set (o := .ins c_Record (putA 7 b (putA 6 a []))) g1
  have x2 := x1.setN (i := S.length) (o := .ins c_Record (putA 7 b (putA 6 a []))) (Nat.le_refl _)
  generalize S1.set S.length (.ins c_Record (putA 7 b (putA 6 a []))) = S2 at *
  rw [setF_at g2 (k := rcl) rfl (by decide) (by simp [putA])]
  simp
  have g3 := get_set (o := .ins c_Record (putA 8 c (putA 7 b (putA 6 a [])))) g2
  have x3 := x2.setN (i := S.length) (o := .ins c_Record (putA 8 c (putA 7 b (putA 6 a [])))) (Nat.le_refl _)
  generalize S2.set S.length (.ins c_Record (putA 8 c (putA 7 b (putA 6 a [])))) = S3 at *
  rw [setF_at g3 (k := rcl) rfl (by decide) (by simp [putA])]
  simp
  exact hK _ (x3.setN (Nat.le_refl _))
/-- what a play's loop holds -/
structure Rp (S S' : Sto) (p t : Int) (sn : List (List Nat)) (z : List Int × List Eff) (pi tl dl j : Nat) : Prop where
  x : Ext S S'
  st : St p t sn z
  pl : z.2.length ≤ 6 * j
  lt : S.length ≤ tl ∧ S.length ≤ dl ∧ tl ≠ dl ∧ pi ≠ tl ∧ pi ≠ dl ∧ S.length ≤ pi
  hp : S'[pi]? = some (.lst (z.2.map Eff.D) false)
  ht : ∃ xs, S'[tl]? = some (.lst xs false) ∧ xs.length ≤ j + 1
  hd : ∃ xs, S'[dl]? = some (.lst xs false) ∧ xs.length ≤ j
abbrev rpE (o : Nat) (dv : D) (z : List Int × List Eff) (pi tl dl : Nat) (a b c : Option D) : En := [some (.obj o), some dv, some (.tup (z.1.map .int)), some (.obj pi), some (.obj tl), some (.obj dl), a, b, c]
theorem raise_bad {σ : En} {i : Int} {K : Fl → Sto → Prop} (h : -1000 < i ∧ i < 1000) (hK : K (.ex e_BadDeed [(a_index, .int i)] σ) S) : wp (raiseM pgL σ 5 [.int i]) S K := by
  rw [wp_raise (ci := ⟨some (1, [(a_index, 0)]), [5, 0]⟩) (m := (1, [(a_index, 0)])) (fs := [(a_index, .int i)]) rfl rfl (by simp [exFs, exFs1, fmtD, h.1, h.2])]
  exact hK
theorem replay_ok {v : D} {ds : List Dd} {rest : List D} {z : List Int × List Eff} (hg : IsGame S o cd p t sn ks os st) (gv : GV p t sn ks os) (hb : Tb p t st) (hv : Held S v (ds.map Dd.D ++ rest)) (hlen : ds.length + rest.length ≤ 100) (hd : ∀ d ∈ ds, d.ok p sn) (hr : runD t sn ks os st [] ds = some z)
    (hrest : rest = [] ∨ ∃ b r, rest = b :: r ∧ Refused S p t sn ks os z b)
    (hK1 : rest = [] → ∀ S' d, Ext S S' → K (.ok d) S') (hK2 : rest ≠ [] → ∀ S', Ext S S' → K (.ex e_BadDeed [(a_index, .int ds.length)]) S') : wp (call pgL N (k + 6) n_replay [.obj o, v]) S K := by
  rw [wp_call (fi := ⟨2, 9, b_replay⟩) rfl ⟨rfl, by decide⟩]
  unfold b_replay
  refine seqc (P := fun σ S' => ∃ pi tl dl, σ = rpE o v (st, []) pi tl dl none none none ∧ Rp S S' p t sn (st, []) pi tl dl 0) (fun T hT => ?_) ?_
  · simp [fld_at (pg := pgL) hg.1 (a := a_first) (k := gcl) rfl rfl (by decide) rfl, sizeL]
    have hg2 := hg.ext (Ext.app S [Ob.lst [] false])
    simp [fld_at (pg := pgL) hg2.1 (a := a_first) (k := gcl) rfl rfl (by decide) rfl, sizeL, setTg, setTg.setTgs]
    refine hT _ _ ⟨S.length, S.length + 1, S.length + 2, rfl, Ext.app _ _, ⟨hb, by simp⟩, by simp, by omega, ?_, ⟨[.tup (st.map .int)], ?_, by simp⟩, [], ?_, by simp⟩
    · rw [List.getElem?_append_right (by omega)]; simp
    · rw [List.getElem?_append_right (by omega)]; simp
    · rw [List.getElem?_append_right (by omega)]; simp
  rintro _ S1 ⟨pi1, tl, dl, rfl, r1⟩
  refine seqc (P := fun σ S' => rest = [] ∧ ∃ pi a b c y, σ = rpE o v y pi tl dl a b c ∧ Ext S S') (fun T hT => ?_) ?_
  · simp
    refine enum_held hv r1.x fun w hwl hwg => ?_
    simp
    refine wp_loopW (xs := numD (ds.map Dd.D ++ rest)) (fun j σ S' => ∃ pi a b c y, j ≤ ds.length ∧ σ = rpE o v y pi tl dl a b c ∧ runD t sn ks os st [] (ds.take j) = some y ∧ Rp S S' p t sn y pi tl dl j) hwl ?_ ?_ ?_ ?_
    · exact ⟨pi1, none, none, none, (st, []), by omega, rfl, rfl, r1⟩
    · intro j σ S' ⟨_, _, _, _, _, _, _, _, q⟩
      exact hwg S' q.x j
    · intro I hI j dd σ S2 hj ⟨pi, a, b, c, y, hjd, hσ, hy, r2⟩
      subst hσ
      rw [numD_get] at hj
      obtain ⟨dv, hdv, rfl⟩ := Option.map_eq_some_iff.mp hj
      have hg2 := hg.ext r2.x
      obtain ⟨xt, ht1, ht2⟩ := r2.ht
      obtain ⟨xd, hd1, hd2⟩ := r2.hd
      have lts := r2.lt
      simp only [wp_inS, wp_tgM, setTg, setTg.setTgs, seqOf, List.length_cons, List.length_nil, Nat.reduceAdd, Nat.reduceLT, if_true, ik_ok, List.set_cons_succ, List.set_cons_zero]
      by_cases hjl : j < ds.length
      · -- a good deed
        obtain ⟨d, hdj⟩ : ∃ d, ds[j]? = some d := ⟨ds[j], List.getElem?_eq_getElem hjl⟩
        have hdd : dv = d.D := by
          rw [List.getElem?_append_left (by simpa using hjl), List.getElem?_map, hdj] at hdv
          simpa using hdv.symm
        subst hdd
        have dok := hd d (List.mem_of_getElem? hdj)
        obtain ⟨y1, y', h1, h2, h3⟩ := runD_pre hr hdj
        rw [hy] at h1
        cases h1
        have so := stepD_ok gv (r2.st) dok h2
        refine seqc (P := fun σ S' => ∃ pj, σ = rpE o v y pi tl dl (some (.int j)) (some d.D) (some (.tup [.tup (y'.1.map .int), .obj pj])) ∧ Ext S2 S' ∧ S2.length ≤ pj ∧ S'[pj]? = some (.lst (y'.2.map Eff.D) false)) (fun T2 hT2 => ?_) ?_
        · simp
          refine is_deed_ok (k := k) hg2 gv.kl.1 dok ?_
          simp
          refine behind_ok (k := k + 2) hg2 gv dok r2.st.tb r2.hp (by have := r2.pl; omega) r2.st.po fun S3 x3 => ?_
          rw [h2]
          intro pj hpj g3
          simp [setTg]
          exact hT2 _ _ ⟨pj, rfl, x3, hpj, g3⟩
        rintro _ S3 ⟨pj, rfl, x3, hpj, g3⟩
        have htl := lt_of_get ht1
        have hdl := lt_of_get hd1
        simp [isNonD, setTg, setTg.setTgs]
        rw [recv_app (x3.get hd1)]
        simp
        rw [bm_app (x3.get hd1) (by simp [sizeL]; omega)]
        simp
        have x4 : Ext S (S3.set dl (.lst (xd ++ [d.D]) false)) := (r2.x.trans x3).setN lts.2.1
        have p4 : (S3.set dl (.lst (xd ++ [d.D]) false))[pj]? = some (.lst (y'.2.map Eff.D) false) := by rw [get_setN (by omega)]; exact g3
        have t4 : (S3.set dl (.lst (xd ++ [d.D]) false))[tl]? = some (.lst xt false) := by rw [get_setN (Ne.symm lts.2.2.1)]; exact x3.get ht1
        have d4 : (S3.set dl (.lst (xd ++ [d.D]) false))[dl]? = some (.lst (xd ++ [d.D]) false) := get_set (x3.get hd1)
        have l4 : S2.length ≤ (S3.set dl (.lst (xd ++ [d.D]) false)).length := by have := x3.1; simpa using this
        have l4e : (S3.set dl (.lst (xd ++ [d.D]) false)).length = S3.length := by simp
        generalize S3.set dl (.lst (xd ++ [d.D]) false) = S4 at *
        rw [← l4e]
        have pj4 := lt_of_get p4
        have x5 := x4.trans (Ext.app S4 [Ob.lst [] false])
        have x45 := Ext.app S4 [Ob.lst [] false]
        rw [cmp_eq_ln (get_app p4) (get_new S4 (.lst [] false)) (by omega)]
        cases hem : (y'.2.map Eff.D).isEmpty with
        | false =>
          simp
          refine hI _ _ _ ⟨pj, _, _, _, y', by omega, rfl, h3, x5, so.1, by have := r2.pl; have := so.2; omega, by have := r2.x.1; omega, x45.get p4, ⟨xt, x45.get t4, by omega⟩, xd ++ [d.D], x45.get d4, by simp; omega⟩
        | true =>
          simp [recv_app (x45.get t4)]
          rw [bm_app (x45.get t4) (by simp [sizeL]; omega)]
          simp
          refine hI _ _ _ ⟨pj, _, _, _, y', by omega, rfl, h3, x5.setN lts.1, so.1, by have := r2.pl; have := so.2; omega, by have := r2.x.1; omega, by rw [get_setN (by omega)]; exact x45.get p4, ⟨xt ++ [.tup (y'.1.map .int)], get_set (x45.get t4), by simp; omega⟩, xd ++ [d.D], by rw [get_setN lts.2.2.1]; exact x45.get d4, by simp; omega⟩
      · have ej : j = ds.length := by omega
        subst ej
        have hdv2 : rest[0]? = some dv := by
          rw [List.getElem?_append_right (by simp)] at hdv
          simpa using hdv
        rcases hrest with hre | ⟨b0, r0, hre, hrf⟩
        · rw [hre] at hdv2; cases hdv2
        · have e0 : b0 = dv := by rw [hre] at hdv2; simpa using hdv2
          subst e0
          rw [List.take_length] at hy
          rw [hy] at hr
          cases hr
          rcases hrf with hnd | ⟨d, hbd, dok, hst⟩
          · simp
            refine hnd N k o cd ks os st t S2 _ r2.x hg2 gv.kl.1 ?_
            simp [setTg, isNonD]
            refine raise_bad (by omega) ?_
            show K _ _
            exact hK2 (by rw [hre]; simp) S2 r2.x
          · subst hbd
            simp
            refine is_deed_ok (k := k) hg2 gv.kl.1 dok ?_
            simp
            refine behind_ok (k := k + 2) hg2 gv dok r2.st.tb r2.hp (by have := r2.pl; omega) r2.st.po fun S3 x3 => ?_
            rw [hst]
            simp [setTg, isNonD]
            refine raise_bad (by omega) ?_
            show K _ _
            exact hK2 (by rw [hre]; simp) S3 (r2.x.trans x3)
    · intro σ S2 ⟨pi, a, b, c, y, hjd, hσ, hy, r2⟩
      subst hσ
      have hnl : (numD (ds.map Dd.D ++ rest)).length = ds.length + rest.length := by simp [numD]
      rw [hnl] at hjd
      have hre : rest = [] := List.eq_nil_of_length_eq_zero (by omega)
      simp
      exact hT _ _ ⟨hre, _, _, _, _, _, rfl, r2.x⟩
  rintro _ S2 ⟨hre, pi, a, b, c, y, rfl, x2⟩
  simp
  refine record_ok fun S3 x3 => ?_
  simp
  exact hK1 hre S3 _ (x2.trans x3)
end
end LA.Pu

/-! Plays: told, effects, odd deeds. -/
namespace LA.Pu
section
variable {N k : Nat} {S : Sto} {K : R D → Sto → Prop} {p t : Int} {sn : List (List Nat)} {ks : List Knd} {os : List Offr} {st tb : List Int} {o cd : Nat}
theorem told_ok {v : D} {ds : List Dd} {rest : List D} {z : List Int × List Eff} (hg : IsGame S o cd p t sn ks os st) (gv : GV p t sn ks os) (hb : Tb p t st) (hv : Held S v (ds.map Dd.D ++ rest)) (hlen : ds.length + rest.length ≤ 100) (hd : ∀ d ∈ ds, d.ok p sn) (hr : runD t sn ks os st [] ds = some z)
    (hrest : rest = [] ∨ ∃ b r, rest = b :: r ∧ Refused S p t sn ks os z b)
    (hK : ∀ S', Ext S S' → K (.ok (if rest.isEmpty then .non else .int ds.length)) S') : wp (call pgL N (k + 7) n_law_told [.obj o, v]) S K := by
  rw [wp_call (fi := ⟨2, 4, b_law_told⟩) rfl ⟨rfl, by decide⟩]
  unfold b_law_told
  simp [setTg]
  refine replay_ok hg gv hb hv hlen hd hr hrest (fun hre S' d x => ?_) (fun hre S' x => ?_)
  · simp
    have := hK S' x
    rw [hre] at this
    exact this
  · have hn : rest.isEmpty = false := by cases rest with | nil => exact absurd rfl hre | cons _ _ => rfl
    have h1 := hK S' x
    rw [hn] at h1
    simp only [ik_ex, sk_ex, tk_ex]
    have e : evH pgL [some (.obj o), some v, some .non, none] e_BadDeed [(a_index, .int ds.length)] [(5, some 3, 2, .ite (.isin 0) (.fld a_index) (.con (.str [97, 110, 111, 116, 104, 101, 114])))] S' = some (.nx [some (.obj o), some v, some (.int ds.length), none], S') := rfl
    rw [wq, e, ap_some]
    simp
    exact h1
/-- all effects -/
def effs (p : Int) (sn : List (List Nat)) : List Eff := sn.flatMap fun n => (List.range p.toNat).map fun (a : Nat) => ⟨n, (a : Int)⟩
theorem effs_mem {e : Eff} (h : EffOk p sn e) : e ∈ effs p sn := by
  unfold effs
  rw [List.mem_flatMap]
  refine ⟨e.n, h.1, List.mem_map.mpr ⟨e.a.toNat, ?_, ?_⟩⟩
  · rw [List.mem_range]; have := h.2; omega
  · obtain ⟨n, a⟩ := e
    have h2 := h.2
    simp at h2
    simp
    omega
theorem effs_ok {e : Eff} (h : e ∈ effs p sn) : EffOk p sn e := by
  unfold effs at h
  rw [List.mem_flatMap] at h
  obtain ⟨n, hn, h⟩ := h
  obtain ⟨a, ha, rfl⟩ := List.mem_map.mp h
  rw [List.mem_range] at ha
  exact ⟨hn, by simp, by simp; omega⟩
theorem effs_len (h : p ≤ 2) : ∀ sn : List (List Nat), (effs p sn).length ≤ 2 * sn.length
  | [] => by simp [effs]
  | n :: sn => by
    have := effs_len h sn
    unfold effs at *
    simp only [List.flatMap_cons, List.length_append, List.length_map, List.length_range, List.length_cons]
    omega
theorem law_effects_ok {d kd : Nat} (hp : 1 ≤ p ∧ p ≤ 2) (hd : S[d]? = some (.dct [(kPlaces, .int p), (kTop, .int t), (kKinds, .obj kd), (kOffs, .tup (os.map Offr.D)), (kStart, .tup (st.map D.int))] false)) (hk : S[kd]? = some (.dct (kindsL sn ks) false)) (hl : sn.length = ks.length) (h4 : sn.length ≤ 4) (hs : sortD (sn.map .str) = some (sn.map .str))
    (hK : ∀ S' l, Ext S S' → S.length ≤ l → S'[l]? = some (.lst ((effs p sn).map Eff.D) false) → K (.ok (.obj l)) S') : wp (call pgL N (k + 1) n_law_effects [.obj d]) S K := by
  rw [wp_call (fi := ⟨1, 4, b_law_effects⟩) rfl ⟨rfl, by decide⟩]
  unfold b_law_effects
  have keys : (kindsL sn ks).map (fun kv => ofKy kv.1) = sn.map .str := kindsL_keys _ _ hl
  refine seqc (P := fun σ S' => σ = [some (.obj d), some (.obj S.length), none, none] ∧ S' = S ++ [.lst [] false]) (fun T hT => ?_) ?_
  · simp [setTg, sizeL]
    exact hT _ _ ⟨rfl, rfl⟩
  rintro _ S1 ⟨rfl, e1⟩
  have x1 : Ext S S1 := by rw [e1]; exact Ext.app _ _
  have g1 : S1[S.length]? = some (.lst [] false) := by rw [e1]; exact get_new _ _
  clear e1
  have hd1 := x1.get hd
  have hk1 := x1.get hk
  refine seqc (P := fun σ S' => ∃ l x a, σ = [some (.obj d), some (.obj l), x, a] ∧ Ext S S' ∧ S.length ≤ l ∧ S'[l]? = some (.lst ((effs p sn).map Eff.D) false)) (fun T hT => ?_) ?_
  · simp [idx_dct hd1 (a := .str [107, 105, 110, 100, 115]) rfl (by simp [lookK]; rfl), bi_listd hk1]
    rw [keys]
    have g2 := get_new S1 (Ob.lst (sn.map D.str) false)
    have x2 := x1.trans (Ext.app S1 [Ob.lst (sn.map D.str) false])
    have f2 := get_app (T := [Ob.lst (sn.map D.str) false]) g1
    generalize S1 ++ [Ob.lst (sn.map D.str) false] = S2 at *
    rw [bi_sortl g2 hs]
    have g3 := get_new S2 (Ob.lst (sn.map D.str) false)
    have x3 := x2.trans (Ext.app S2 [Ob.lst (sn.map D.str) false])
    have f3 := get_app (T := [Ob.lst (sn.map D.str) false]) f2
    have hl3 := lt_of_get f2
    generalize hsl : S2.length = sl at *
    generalize S2 ++ [Ob.lst (sn.map D.str) false] = S3 at *
    simp [wk_lst g3, Wk.len]
    rw [show sn.length = (sn.map D.str).length by simp]
    refine wp_loopL (fun j σ S' => ∃ l x a, σ = [some (.obj d), some (.obj l), x, a] ∧ Ext S3 S' ∧ S.length ≤ l ∧ S'[l]? = some (.lst ((effs p (sn.take j)).map Eff.D) false)) ?_ ?_ ?_ ?_
    · exact ⟨S.length, none, none, rfl, Ext.refl _, Nat.le_refl _, by simpa [effs] using f3⟩
    · intro j σ S' ⟨l, x, a, _, z, _⟩
      exact ⟨false, z.get g3⟩
    · intro I hI j dd σ S4 hj ⟨l, x, a, hσ, x4, hll, g4⟩
      subst hσ
      rw [List.getElem?_map] at hj
      obtain ⟨n, hn, rfl⟩ := Option.map_eq_some_iff.mp hj
      have hjl := (List.getElem?_eq_some_iff.mp hn).1
      have tk : sn.take (j + 1) = sn.take j ++ [n] := by rw [List.take_succ, hn]; rfl
      have X4 := x3.trans x4
      have hd4 := X4.get hd
      simp [setTg, HasPT.pl ⟨_, hd4⟩, show -1000000 < p by omega, show p < 1000000 by omega]
      have rl : (Wk.items (rangeD 0 p)).len = (List.range p.toNat).length := by simp [Wk.len, rangeD]
      have re : rangeD 0 p = (List.range p.toNat).map fun (a : Nat) => D.int (a : Int) := by simp [rangeD]
      rw [rl, re]
      refine wp_lcI (fun (a : Nat) => some (Eff.D ⟨n, (a : Int)⟩)) (by simp [sizeL]; omega) (fun a ha S' acc xx g hl2 K' hK' => ?_) fun S5 x5 g5 => ?_
      · simp [setTg, wipe, sizeL]
        exact turn_put xx g hl2 (Ext.refl _) hK'
      · rw [fm_map] at g5
        have g45 := x5.get g4
        have el := effs_len (p := p) hp.2 (sn.take j)
        simp
        rw [bin_add_ll g45 g5 (by simp [sizeL]; simp at el; omega)]
        simp [setTg]
        have := x4.1
        have := x5.1
        have := x3.1
        refine hI _ _ _ ⟨S5.length, _, _, rfl, (x4.trans x5).trans (Ext.app _ _), by omega, ?_⟩
        rw [get_new, tk]
        simp [effs]
    · intro σ S4 ⟨l, x, a, hσ, x4, hll, g4⟩
      subst hσ
      rw [List.length_map, List.take_length] at g4
      simp
      exact hT _ _ ⟨l, _, _, rfl, x3.trans x4, hll, g4⟩
  rintro _ S2 ⟨l, x, a, rfl, x2, hll, g2⟩
  simp
  exact hK S2 l x2 hll g2
/-- the odd deeds -/
def odd1 (j : Nat) : List D := [.non, .tup [.str sLay], .tup [.str sLay, .str [108, 111, 115, 116], .int 0], .tup [.str sLay, .str [97], .int 2], .tup [.str sLay, .str [97], .bl true], .obj j, .str sRes, .tup []]
def odd2 : List D := [.tup [.str sRes, .int 0], .tup [.str [112, 97, 115, 115]], .tup [.str sLay, .str [97], .int 0, .int 0], .tup [.int 1], .tup [.str sLay, .non, .int 0]]
theorem noDeed_of {b : D} (h : ∀ (N k o cd : Nat) (ks : List Knd) (os : List Offr) (st : List Int) (t : Int) (S' : Sto) (K : R D → Sto → Prop), Ext S S' → IsGame S' o cd p t sn ks os st → sn.length = ks.length → K (.ok (.bl false)) S' → wp (evCs pgL (call pgL N (k + 4)) N [some (.obj o), some b] b_is_deed) S' (rk K)) : NoDeed S p sn b := by
  intro N k o cd ks os st t S' K x hg hl hK
  rw [wp_call (fi := ⟨2, 2, b_is_deed⟩) rfl ⟨rfl, by decide⟩]
  exact h N k o cd ks os st t S' K x hg hl hK
theorem odd_no {j : Nat} {b : D} (hp : p ≤ 2) (hsn : ∀ n ∈ sn, n ∈ NM) (hj : S[j]? = some (.lst [.str sRes] false)) (hb : b ∈ odd1 j ++ odd2) : NoDeed S p sn b := by
  have lost : ¬ ([108, 111, 115, 116] : List Nat) ∈ sn := fun h => by have := hsn _ h; revert this; decide
  have b2 : belowB 2 p = false := by simp [belowB]; omega
  refine noDeed_of fun N k o cd ks os st t S' K x hg hl hK => ?_
  unfold b_is_deed
  simp [odd1, odd2] at hb
  rcases hb with rfl | rfl | rfl | rfl | rfl | rfl | rfl | rfl | rfl | rfl | rfl | rfl | rfl
  · simp; exact hK
  · simp [sizeL]
    rw [cmp_res rfl (by decide)]
    simp [eqVs, eqV, m_eff hg]
    rw [is_eff_len (by simp)]
    simp; exact hK
  · simp [sizeL]
    rw [cmp_res rfl (by decide)]
    simp [eqVs, eqV, m_eff hg]
    rw [is_eff hg hl]
    simp [lost]; exact hK
  · simp [sizeL]
    rw [cmp_res rfl (by decide)]
    simp [eqVs, eqV, m_eff hg]
    rw [is_eff hg hl]
    simp [b2]; exact hK
  · simp [sizeL]
    rw [cmp_res rfl (by decide)]
    simp [eqVs, eqV, m_eff hg]
    rw [is_eff_bl hg hl]
    simp; exact hK
  · simp [isTy_lst (x.get hj)]; exact hK
  · simp; exact hK
  · simp; exact hK
  · simp [sizeL]
    rw [cmp_res rfl (by decide)]
    simp [eqVs, eqV]; exact hK
  · simp [sizeL]
    rw [cmp_res rfl (by decide)]
    simp [eqVs, eqV]; exact hK
  · simp [sizeL]
    rw [cmp_res rfl (by decide)]
    simp [eqVs, eqV, m_eff hg]
    rw [is_eff_len (by simp)]
    simp; exact hK
  · simp; exact hK
  · simp [sizeL]
    rw [cmp_res rfl (by decide)]
    simp [eqVs, eqV, m_eff hg]
    rw [is_eff_non hg]
    simp; exact hK
end
end LA.Pu

/-! The law k04. -/
namespace LA.Pu
theorem draws_spec {N k : Nat} {S : Sto} {q : Nat} {ns : List Int} {b : Bool} {K : R D → Sto → Prop} (hq : S[q]? = some (.lst (ns.map .int) b))
    (h : ∀ S', Ext S S' → S'.length = S.length + 2 → RowOk S' (S.length + 1) → K (.ok (.obj (S.length + 1))) S') : wp (call pgL N (k + 1) n_law_draws [.obj q]) S K := by
  rw [wp_call (fi := ⟨1, 1, b_law_draws⟩) rfl ⟨rfl, by decide⟩]
  unfold b_law_draws
  simp [bi_listl hq, sizeL]
  refine h _ ?_ (by simp) ⟨S.length, ns, 0, 0, 7, false, ?_, ?_, by omega, by decide⟩
  · exact ⟨by simp, fun i o g => by
      have := lt_of_get g
      rw [List.getElem?_append_left (by omega)]; exact g⟩
  · rw [List.getElem?_append_right (by omega)]; simp
  · rw [List.getElem?_append_right (by omega)]; simp
theorem Gm.ok.gv {g : Gm} (h : g.ok 3 2) : GV g.p g.t g.names g.ks g.offs where
  hp := h.p
  ht := by have := h.t; omega
  kl := ⟨h.namesL (by omega), by have := h.ks; omega⟩
  nd := Gm.nodup
  ks' := h.kok
  os' := h.offs
  ol := h.offsL
  na := fun n hn => isNameB_len (NM_name n ((List.take_sublist _ _).subset hn))
theorem Gm.ok.tb0 {g : Gm} (h : g.ok 3 2) : Tb g.p g.t g.start := ⟨h.stL, fun x hx => by have := h.st x hx; omega⟩
def canE (sn : List (List Nat)) (ks : List Knd) (y : List Int × List Eff) (e : Eff) : Bool := match kOf sn ks e.n with
  | some q => canLay q y.1 y.2.getLast?
  | none => false
theorem stepD_lay {t : Int} {sn : List (List Nat)} {ks : List Knd} {os : List Offr} {y : List Int × List Eff} {e : Eff} : stepD t sn ks os y.1 y.2 (.lay e) = if canE sn ks y e then some (y.1, y.2 ++ [e]) else none := by
  cases h : kOf sn ks e.n <;> simp [stepD, canE, h]
/-- what a turn's play holds -/
structure Pl (S : Sto) (r d go cd dl : Nat) (g : Gm) (ds : List Dd) (y : List Int × List Eff) : Prop where
  ig : IsG S d (d + 1) g
  gm : IsGame S go cd g.p g.t g.names g.ks g.offs g.start
  dd : S[dl]? = some (.lst (ds.map Dd.D) false)
  rw' : RowOk S r
  lt : r < d ∧ r < go ∧ r < cd ∧ r < dl ∧ d + 1 < dl ∧ go < dl ∧ cd < dl
  run : runD g.t g.names g.ks g.offs g.start [] ds = some y
  st : St g.p g.t g.names y
  ok : ∀ d ∈ ds, d.ok g.p g.names
theorem Pl.exr {S S' : Sto} {r d go cd dl : Nat} {g : Gm} {ds : List Dd} {y : List Int × List Eff} (h : Pl S r d go cd dl g ds y) (x : ExR r S S') (r' : RowOk S' r) : Pl S' r d go cd dl g ds y := by
  have := h.lt
  exact ⟨⟨x.get (by omega) h.ig.1, x.get (by omega) h.ig.2⟩, ⟨x.get (by omega) h.gm.1, x.get (by omega) h.gm.2⟩, x.get (by omega) h.dd, r', h.lt, h.run, h.st, h.ok⟩
theorem Pl.ext {S S' : Sto} {r d go cd dl : Nat} {g : Gm} {ds : List Dd} {y : List Int × List Eff} (h : Pl S r d go cd dl g ds y) (x : Ext S S') : Pl S' r d go cd dl g ds y := h.exr x.exr (h.rw'.ext x)
theorem Pl.setN {S : Sto} {r d go cd dl : Nat} {g : Gm} {ds : List Dd} {y : List Int × List Eff} {i : Nat} {o : Ob} (h : Pl S r d go cd dl g ds y) (hi : dl < i) : Pl (S.set i o) r d go cd dl g ds y := by
  have := h.lt
  have := h.ig.1
  exact ⟨⟨by rw [get_setN (by omega)]; exact h.ig.1, by rw [get_setN (by omega)]; exact h.ig.2⟩, ⟨by rw [get_setN (by omega)]; exact h.gm.1, by rw [get_setN (by omega)]; exact h.gm.2⟩, by rw [get_setN (by omega)]; exact h.dd, h.rw'.setN (by omega), h.lt, h.run, h.st, h.ok⟩
/-- another deed is written down -/
theorem Pl.put {S : Sto} {r d go cd dl : Nat} {g : Gm} {ds : List Dd} {y y' : List Int × List Eff} {e : Dd} (h : Pl S r d go cd dl g ds y) (gok : g.ok 3 2) (he : e.ok g.p g.names) (hs : stepD g.t g.names g.ks g.offs y.1 y.2 e = some y') : Pl (S.set dl (.lst ((ds ++ [e]).map Dd.D) false)) r d go cd dl g (ds ++ [e]) y' := by
  have := h.lt
  refine ⟨⟨by rw [get_setN (by omega)]; exact h.ig.1, by rw [get_setN (by omega)]; exact h.ig.2⟩, ⟨by rw [get_setN (by omega)]; exact h.gm.1, by rw [get_setN (by omega)]; exact h.gm.2⟩, get_set h.dd, h.rw'.setN (by omega), h.lt, by rw [runD_snoc h.run]; exact hs, (stepD_ok gok.gv h.st he hs).1, fun x hx => ?_⟩
  rcases List.mem_append.mp hx with hx | hx
  · exact h.ok x hx
  · rw [List.mem_singleton.mp hx]; exact he
theorem Pl.len {S : Sto} {r d go cd dl : Nat} {g : Gm} {ds : List Dd} {y : List Int × List Eff} (h : Pl S r d go cd dl g ds y) (gok : g.ok 3 2) : y.2.length ≤ 6 * ds.length := by
  have := (runD_ok gok.gv ⟨gok.tb0, by simp⟩ h.ok h.run).2
  simpa using this
section
variable {N k : Nat} {S : Sto}
theorem add_ll {i j : Nat} {x z : List D} {K : R D → Sto → Prop} (h1 : S[i]? = some (.lst x false)) (h2 : S[j]? = some (.lst z false)) (h : x.length + z.length ≤ sizeL)
    (hK : ∀ S' l, Ext S S' → S.length ≤ l → S'[l]? = some (.lst (x ++ z) false) → K (.ok (.obj l)) S') : wp (binD .add (.obj i) (.obj j)) S K := by
  rw [bin_add_ll h1 h2 h]
  exact hK _ _ (Ext.app _ _) (Nat.le_refl _) (get_new _ _)
/-- what lies on top -/
theorem top_ev {cl} {σ : En} {K : R D → Sto → Prop} {pile : List Eff} {i : Nat} (h : σ[i]? = some (some (.tup (pile.map Eff.D)))) (hK : K (.ok (topD pile.getLast?)) S) : wp (evE pgL cl σ (.ite (.cmp .ne (.loc i) (.tup .nil)) (.idx (.loc i) (.neg (.con (.int 1)))) (.con .non))) S K := by
  simp [h]
  rw [cmp_ne_tn]
  rcases snoc_or pile with hr | ⟨r, x, hr⟩
  · subst hr
    simp
    simpa [topD] using hK
  · subst hr
    have em2 : (r ++ [x]).map Eff.D = r.map Eff.D ++ [x.D] := by simp
    rw [em2] at h ⊢
    simp [h]
    rw [idx_tup atI_m1]
    simpa [topD] using hK
end
abbrev lE (q r : Nat) (a2 : Option D) (d : Nat) (a4 a5 a6 a7 a8 : Option D) (go : Nat) (y : List Int × List Eff) (dl : Nat) (a13 : Option D) : En :=
  [some (.obj q), some (.obj r), a2, some (.obj d), a4, a5, a6, a7, a8, some (.obj go), some (.tup (y.1.map .int)), some (.tup (y.2.map Eff.D)), some (.obj dl), a13]
theorem can_of {N k : Nat} {S : Sto} {r d go cd dl : Nat} {g : Gm} {ds : List Dd} {y : List Int × List Eff} {e : Eff} {K : R D → Sto → Prop} (h : Pl S r d go cd dl g ds y) (gok : g.ok 3 2) (he : EffOk g.p g.names e) (hK : K (.ok (.bl (canE g.names g.ks y e))) S) : wp (call pgL N (k + 1) n_law_can_lay [.obj d, .tup (y.1.map .int), topD y.2.getLast?, e.D]) S K := by
  obtain ⟨q, hq⟩ := kOf_some gok.gv.kl.1 he.1
  obtain ⟨hlook, hmem⟩ := kOf_look hq
  refine law_can_lay_ok (sn := g.names) h.ig.1 h.ig.2 hlook (gok.gv.ks' q hmem) h.st.tb ?_
  have : canE g.names g.ks y e = canLay q y.1 y.2.getLast? := by simp [canE, hq]
  rw [this] at hK
  exact hK
theorem effects_of {N k : Nat} {S : Sto} {r d go cd dl : Nat} {g : Gm} {ds : List Dd} {y : List Int × List Eff} {K : R D → Sto → Prop} (h : Pl S r d go cd dl g ds y) (gok : g.ok 3 2) (hK : ∀ S' l, Ext S S' → S.length ≤ l → S'[l]? = some (.lst ((effs g.p g.names).map Eff.D) false) → K (.ok (.obj l)) S') : wp (call pgL N (k + 1) n_law_effects [.obj d]) S K :=
  law_effects_ok (sn := g.names) (ks := g.ks) (os := g.offs) (st := g.start) (t := g.t) gok.p h.ig.1 h.ig.2 gok.gv.kl.1 (by have := gok.gv.kl; omega) (NM_take_sorted _ (by have := gok.gv.kl; omega)) hK
theorem law_pure (ns : List Int) (b : Bool) : ∃ S', LA.call pgL 40 11 n_law [.obj 0] [.lst (ns.map D.int) b] = some (.ok (.bl true), S') := by
  have w : wp (call pgL 40 (10 + 1) n_law [.obj 0]) [.lst (ns.map D.int) b] (fun r _ => r = .ok (.bl true)) := by
    rw [wp_call (fi := ⟨1, 14, b_law⟩) rfl ⟨rfl, by decide⟩]
    unfold b_law
    refine seqc (P := fun σ S' => ∃ r, σ = [some (.obj 0), some (.obj r), none, none, none, none, none, none, none, none, none, none, none, none] ∧ RowOk S' r) (fun T hT => ?_) ?_
    · simp
      refine draws_spec (k := 9) (b := b) (ns := ns) rfl fun S1 x1 l1 r1 => ?_
      simp [setTg]
      exact hT _ _ ⟨_, rfl, r1⟩
    rintro _ S1 ⟨r, rfl, r1⟩
    refine seqc (P := fun σ S' => True) (fun T hT => ?_) ?_
    · simp
      refine wp_loopI (fun j σ S' => ∃ a2 a3 a4 a5 a6 a7 a8 a9 a10 a11 a12 a13, σ = [some (.obj 0), some (.obj r), a2, a3, a4, a5, a6, a7, a8, a9, a10, a11, a12, a13] ∧ RowOk S' r) ?_ ?_ ?_
      · exact ⟨none, none, none, none, none, none, none, none, none, none, none, none, rfl, r1⟩
      · intro I hI j dd σ S2 hj ⟨a2, a3, a4, a5, a6, a7, a8, a9, a10, a11, a12, a13, hσ, r2⟩
        subst hσ
        simp only [wp_inS, wp_tgM, setTg, List.length_cons, List.length_nil, Nat.reduceAdd, Nat.reduceLT, if_true, ik_ok, List.set_cons_succ, List.set_cons_zero]
        refine seqc (P := fun σ S' => ∃ g d, σ = [some (.obj 0), some (.obj r), some dd, some (.obj d), a4, a5, a6, a7, a8, a9, a10, a11, a12, a13] ∧ Gm.ok 3 2 g ∧ IsG S' d (d + 1) g ∧ r < d ∧ RowOk S' r) (fun T2 hT2 => ?_) ?_
        · simp
          refine drawn_spec (k := 5) r2 (by decide) (by decide) fun g d S3 gok ig hd x3 r3 => ?_
          simp [setTg]
          have := r2.lt
          exact hT2 _ _ ⟨g, d, rfl, gok, ig, by omega, r3⟩
        rintro _ S3 ⟨g, d, rfl, gok, ig3, hrd, r3⟩
        have gv := gok.gv
        refine seqc (P := fun σ S' => ∃ go cd dl, σ = lE 0 r (some dd) d a4 a5 a6 a7 a8 go (g.start, []) dl a13 ∧ Pl S' r d go cd dl g [] (g.start, [])) (fun T2 hT2 => ?_) ?_
        · simp
          refine made_spec (k := 2) ig3 gok (by decide) (by decide) fun S4 cd x4 hcd game4 => ?_
          have hd4 := x4.get ig3.1
          unfold dEnt at hd4
          have := lt_of_get ig3.1
          have := lt_of_get ig3.2
          have := lt_of_get game4.1
          have := lt_of_get game4.2
          have := r3.lt
          simp [idx_dct hd4 (a := .str [115, 116, 97, 114, 116]) rfl (by simp [lookK]; rfl), sizeL, setTg, setTg.setTgs]
          refine hT2 _ _ ⟨_, cd, _, rfl, ?_⟩
          exact ⟨⟨(Ext.app _ _).get (x4.get ig3.1), (Ext.app _ _).get (x4.get ig3.2)⟩, game4.ext (Ext.app _ _), get_new _ _, (r3.ext x4).ext (Ext.app _ _), by have := x4.1; omega, rfl, ⟨gok.tb0, by simp⟩, by simp⟩
        rintro _ S4 ⟨go, cd, dl, rfl, p4⟩
        refine seqc (P := fun σ S' => ∃ b4 b5 b7 b13 ds y, σ = lE 0 r (some dd) d b4 b5 a6 b7 a8 go y dl b13 ∧ ds.length ≤ 8 ∧ Pl S' r d go cd dl g ds y) (fun T2 hT2 => ?_) ?_
        · simp
          refine pick_spec p4.rw' (by decide) (by decide) fun v S5 v0 v1 x5 r5 l5 => ?_
          have p5 := p4.exr x5 r5
          simp [show -1000000 < v by omega, show v < 1000000 by omega]
          refine wp_loopI (fun j σ S' => ∃ b4 b5 b7 b13 ds y, σ = lE 0 r (some dd) d b4 b5 a6 b7 a8 go y dl b13 ∧ ds.length ≤ j ∧ j ≤ 8 ∧ Pl S' r d go cd dl g ds y) ?_ ?_ ?_
          · exact ⟨_, _, _, _, [], _, rfl, by simp, by omega, p5⟩
          · intro I2 hI2 j2 dd2 σ S6 hj2 ⟨b4, b5, b7, b13, ds, y, hσ, hdl, hj8, p6⟩
            subst hσ
            have hjv : j2 < v.toNat := by
              have := (List.getElem?_eq_some_iff.mp hj2).1
              rw [rangeD_len] at this
              exact this
            have pl6 := p6.len gok
            simp only [wp_inS, wp_tgM, setTg, List.length_cons, List.length_nil, Nat.reduceAdd, Nat.reduceLT, if_true, ik_ok, List.set_cons_succ, List.set_cons_zero]
            refine seqc (P := fun σ S' => σ = lE 0 r (some dd) d (some dd2) (some (topD y.2.getLast?)) a6 b7 a8 go y dl b13 ∧ S' = S6) (fun T3 hT3 => ?_) ?_
            · rw [wCs_cons, wC_asg]
              refine top_ev (pile := y.2) rfl ?_
              simp [setTg]
              exact hT3 _ _ ⟨rfl, rfl⟩
            rintro _ S6b ⟨rfl, e0⟩
            rw [e0]
            clear e0 S6b
            refine seqc (P := fun σ S' => ∃ so, σ = lE 0 r (some dd) d (some dd2) (some (topD y.2.getLast?)) a6 b7 a8 go y dl (some (.obj so)) ∧ dl < so ∧ Pl S' r d go cd dl g ds y ∧ S'[so]? = some (.lst (((effs g.p g.names).filter (canE g.names g.ks y)).map Eff.D) false)) (fun T3 hT3 => ?_) ?_
            · simp
              refine effects_of (k := 9) p6 gok fun S7 l7 x7 hl7 g7 => ?_
              have p7 := p6.ext x7
              simp [wk_lst g7, Wk.len]
              have el := effs_len (p := g.p) gok.p.2 g.names
              have nl4 := gv.kl
              refine wp_lcL g7 (fun e => if canE g.names g.ks y e then some e.D else none) (by simp [sizeL]; omega) (fun e he S' acc xx g8 hl8 K' hK' => ?_) fun S8 x8 g8 => ?_
              · simp [setTg, wipe]
                refine can_of (k := 9) (p7.ext xx) gok (effs_ok he) ?_
                cases hc : canE g.names g.ks y e with
                | true =>
                  simp [hc] at hK' ⊢
                  exact turn_put xx g8 hl8 (Ext.refl _) hK'
                | false =>
                  simp [hc] at hK' ⊢
                  exact turn_skip xx g8 (Ext.refl _) (by simpa using hK')
              · have ef : (effs g.p g.names).filterMap (fun e => if canE g.names g.ks y e then some e.D else none) = ((effs g.p g.names).filter (canE g.names g.ks y)).map Eff.D := by
                  induction effs g.p g.names with
                  | nil => rfl
                  | cons a l ih =>
                    cases hc : canE g.names g.ks y a <;> simp [hc, ih]
                rw [ef] at g8
                have := lt_of_get p7.dd
                simp [setTg]
                exact hT3 _ _ ⟨S7.length, rfl, by omega, p7.ext x8, g8⟩
            rintro _ S7 ⟨so, rfl, hso, p7, g7⟩
            have fin : ∀ (S' : Sto) (y' : List Int × List Eff) (e : Dd) (c5 c7 c13 : Option D), Pl S' r d go cd dl g (ds ++ [e]) y' → I2 (j2 + 1) (lE 0 r (some dd) d (some dd2) c5 a6 c7 a8 go y' dl c13) S' := by
              intro S' y' e c5 c7 c13 hp
              exact hI2 _ _ _ ⟨_, _, _, _, ds ++ [e], y', rfl, by simp; omega, by omega, hp⟩
            have fin0 : ∀ (S' : Sto) (c5 c7 c13 : Option D), Pl S' r d go cd dl g ds y → I2 (j2 + 1) (lE 0 r (some dd) d (some dd2) c5 a6 c7 a8 go y dl c13) S' := by
              intro S' c5 c7 c13 hp
              exact hI2 _ _ _ ⟨_, _, _, _, ds, y, rfl, by omega, by omega, hp⟩
            have lts := p7.lt
            -- resolve, or nothing
            have other : ∀ S', Pl S' r d go cd dl g ds y → ∀ (c13 : Option D) (Kx : Fl → Sto → Prop), (∀ σ' S'', I2 (j2 + 1) σ' S'' → Kx (.nx σ') S'') → wp (evCs pgL (call pgL 40 10) 40 (lE 0 r (some dd) d (some dd2) (some (topD y.2.getLast?)) a6 b7 a8 go y dl c13) (.cons (.ite (.cmp .ne (.loc 11) (.tup .nil)) (.cons (.ex (.bm (.loc 12) .append (.cons false (.tup (.cons false (.con (.str sRes)) .nil)) .nil))) (.cons (.asg (.cons (.name 10) (.cons (.name 11) .nil)) (.call n_law_resolved (.cons false (.loc 3) (.cons false (.loc 10) (.cons false (.loc 11) .nil))))) .nil)) .nil) .nil)) S' Kx := by
              intro S' p8 c13 Kx hKx
              simp
              rw [cmp_ne_tn]
              rcases snoc_or y.2 with hr | ⟨rs, e, hr⟩
              · rw [hr]
                simp
                have := hKx _ _ (fin0 S' (some (topD y.2.getLast?)) b7 c13 p8)
                simpa [hr] using this
              · have ne : (y.2.map Eff.D).isEmpty = false := by rw [hr]; simp
                rw [ne]
                have hpo := p8.st.po e (by rw [hr]; simp)
                obtain ⟨q, hq⟩ := kOf_some gv.kl.1 hpo.1
                have hstep : stepD g.t g.names g.ks g.offs y.1 y.2 .res = some (resM g.t g.offs q y.1 rs e) := by
                  simp only [stepD]
                  rw [hr]
                  simp [hq]
                have p9 := p8.put (e := .res) gok trivial hstep
                have hpl := p8.len gok
                simp [recv_app p8.dd, sizeL]
                rw [bm_app p8.dd (by simp [sizeL]; omega)]
                have ed : (ds ++ [Dd.res]).map Dd.D = ds.map Dd.D ++ [.tup [.str sRes]] := by simp [Dd.D]
                rw [ed] at p9
                simp
                rw [hr] at hpl ⊢
                refine law_resolved_ok (k := 8) (st := g.start) p9.ig.1 p9.ig.2 gv hq p8.st.tb hpo.2 (by simp at hpl; omega) fun S9 x9 => ?_
                simp [setTg, setTg.setTgs]
                have := hKx _ _ (fin S9 _ .res (some (topD y.2.getLast?)) b7 c13 (p9.ext x9))
                simpa [hr] using this
            refine seqc (P := fun σ' S' => I2 (j2 + 1) σ' S') (fun T3 hT3 => ?_) (fun σ' S' hh => by simpa using hh)
            have el := effs_len (p := g.p) gok.p.2 g.names
            have fl := List.length_filter_le (canE g.names g.ks y) (effs g.p g.names)
            have nl4 := gv.kl
            generalize hF : (effs g.p g.names).filter (canE g.names g.ks y) = F at *
            have cond : ∀ (K' : R D → Sto → Prop), (∀ S', Pl S' r d go cd dl g ds y → K' (.ok (.bl false)) S') → (F ≠ [] → ∀ S', Pl S' r d go cd dl g ds y → S'[so]? = some (.lst (F.map Eff.D) false) → K' (.ok (.bl true)) S') →
                wp (evE pgL (call pgL 40 10) (lE 0 r (some dd) d (some dd2) (some (topD y.2.getLast?)) a6 b7 a8 go y dl (some (.obj so))) (.and (.cmp .ne (.loc 13) (.lst .nil)) (.cmp .eq (.call 20 (.cons false (.loc 1) (.cons false (.con (.int 2)) .nil))) (.con (.int 0))))) S7 K' := by
              intro K' hf ht
              have hsl := lt_of_get g7
              have p8 := p7.ext (Ext.app S7 [Ob.lst [] false])
              have g8 := get_app (T := [Ob.lst [] false]) g7
              simp [sizeL]
              rw [cmp_ne_ln g8 (get_new S7 (.lst [] false)) (by omega)]
              cases hF2 : F with
              | nil =>
                simp
                exact hf _ p8
              | cons f0 fr =>
                simp
                refine pick_spec p8.rw' (by decide) (by decide) fun v2 S8 v20 v21 x8 r8 l8 => ?_
                by_cases hv0 : v2 = 0
                · simp [hv0]
                  exact ht (by rw [hF2]; simp) S8 (p8.exr x8 r8) (x8.get (by omega) g8)
                · simp [hv0]
                  exact hf _ (p8.exr x8 r8)
            rw [wCs_cons, wC_ite]
            refine cond _ (fun S8 p8 => ?_) (fun hne S8 p8 g8 => ?_)
            · simp only [ik_ok, wp_inS, wp_truthM, truth_bl, Bool.false_eq_true, if_false]
              exact other S8 p8 _ _ fun σ' S'' hh => hT3 σ' S'' hh
            · simp [bi_lenl g8]
              have fpos : 0 < F.length := List.length_pos_iff.mpr hne
              refine pick_spec p8.rw' (by omega) (by omega) fun v2 S9 v20 v21 x9 r9 l9 => ?_
              have p9 := p8.exr x9 r9
              have g9 := x9.get (by omega) g8
              obtain ⟨jf, hjf, rfl, hat⟩ := atI_lt (xs := F.map Eff.D) v20 (by simpa using v21)
              have hjf' : jf < F.length := by simpa using hjf
              have hmem : F[jf] ∈ (effs g.p g.names).filter (canE g.names g.ks y) := by rw [hF]; exact List.getElem_mem _
              have he := effs_ok (List.mem_filter.mp hmem).1
              have hcan := (List.mem_filter.mp hmem).2
              have hat2 : atI (F.map Eff.D) (jf : Int) = some (F[jf]).D := by rw [hat]; simp
              generalize F[jf] = e at *
              have hstep : stepD g.t g.names g.ks g.offs y.1 y.2 (.lay e) = some (y.1, y.2 ++ [e]) := by rw [stepD_lay, hcan]; rfl
              have p10 := p9.put (e := .lay e) gok he hstep
              have hpl := p9.len gok
              simp [idx_lst g9 hat2, setTg, recv_app p9.dd, Eff.D, sizeL]
              rw [bm_app p9.dd (by simp [sizeL]; omega)]
              have ed : (ds ++ [Dd.lay e]).map Dd.D = ds.map Dd.D ++ [.tup [.str sLay, .str e.n, .int e.a]] := by simp [Dd.D]
              rw [ed] at p10
              simp [sizeL]
              rw [bin_add_tt (by simp [sizeL]; omega)]
              simp [setTg]
              have := hT3 _ _ (fin _ _ (.lay e) (some (topD y.2.getLast?)) (some e.D) (some (.obj so)) p10)
              simpa [Eff.D, lE] using this
          · intro σ S6 ⟨b4, b5, b7, b13, ds, y, hσ, hdl, hj8, p6⟩
            subst hσ
            rw [rangeD_len] at hdl
            simp
            exact hT2 _ _ ⟨_, _, _, _, ds, y, rfl, by omega, p6⟩
        rintro _ S5 ⟨b4, b5, b7, b13, ds, y, rfl, hdl, p5⟩
        refine seqc (P := fun σ S' => σ = lE 0 r (some dd) d b4 (some (topD y.2.getLast?)) a6 b7 a8 go y dl b13 ∧ S' = S5) (fun T3 hT3 => ?_) ?_
        · rw [wCs_cons, wC_asg]
          refine top_ev (pile := y.2) rfl ?_
          simp [setTg]
          exact hT3 _ _ ⟨rfl, rfl⟩
        rintro _ S5b ⟨rfl, e0⟩
        rw [e0]
        clear e0 S5b
        refine seqc (P := fun σ S' => ∃ j oo, σ = lE 0 r (some dd) d b4 (some (topD y.2.getLast?)) (some (.obj oo)) b7 a8 go y dl b13 ∧ dl < j ∧ j < oo ∧ S'[j]? = some (.lst [.str sRes] false) ∧ S'[oo]? = some (.lst (odd1 j) false) ∧ Pl S' r d go cd dl g ds y) (fun T3 hT3 => ?_) ?_
        · simp [sizeL, setTg]
          have := lt_of_get p5.dd
          refine hT3 _ _ ⟨S5.length, _, rfl, by omega, ?_, ?_, ?_, ?_⟩
          · omega
          · exact get2a
          · exact get2b
          · exact p5.ext (Ext.app _ _)
        rintro _ S6 ⟨j, oj, rfl, hj1, hj2, gj, goj, p6⟩
        refine seqc (P := fun σ S' => ∃ oo, σ = lE 0 r (some dd) d b4 (some (topD y.2.getLast?)) (some (.obj oo)) b7 a8 go y dl b13 ∧ j < oo ∧ S'[j]? = some (.lst [.str sRes] false) ∧ S'[oo]? = some (.lst (odd1 j ++ odd2) false) ∧ Pl S' r d go cd dl g ds y) (fun T3 hT3 => ?_) ?_
        · simp [sizeL, setTg]
          have := lt_of_get goj
          have ga := get_app (T := [Ob.lst odd2 false]) goj
          have gb := get_new S6 (.lst odd2 false)
          have x6 := Ext.app S6 [Ob.lst odd2 false]
          refine add_ll (x := odd1 j) (z := odd2) ga gb (by simp [odd1, odd2, sizeL]) fun S7 l7 x7 hl7 g7 => ?_
          simp [setTg]
          have := x6.1
          have hl7' : S6.length + 1 ≤ l7 := by simpa using hl7
          exact hT3 _ _ ⟨l7, rfl, by omega, x7.get (x6.get gj), g7, (p6.ext x6).ext x7⟩
        rintro _ S7 ⟨oo, rfl, hj3, gj7, goo7, p7⟩
        refine seqc (P := fun σ S' => ∃ X : List Dd, σ = lE 0 r (some dd) d b4 (some (topD y.2.getLast?)) (some (.obj oo)) b7 a8 go y dl b13 ∧ S'[j]? = some (.lst [.str sRes] false) ∧ S'[oo]? = some (.lst (odd1 j ++ odd2 ++ X.map Dd.D) false) ∧ X.length ≤ 1 ∧ (∀ x ∈ X, x.ok g.p g.names ∧ stepD g.t g.names g.ks g.offs y.1 y.2 x = none) ∧ Pl S' r d go cd dl g ds y) (fun T3 hT3 => ?_) ?_
        · simp
          rw [cmp_eq_tn]
          have lts := p7.lt
          cases hy : y.2 with
          | nil =>
            simp [recv_app goo7, sizeL]
            rw [bm_app goo7 (by simp [odd1, odd2, sizeL])]
            have ed : odd1 j ++ odd2 ++ [Dd.res].map Dd.D = odd1 j ++ odd2 ++ [.tup [.str sRes]] := by simp [Dd.D]
            simp
            have ne : oo ≠ j := by omega
            have := hT3 (lE 0 r (some dd) d b4 (some (topD y.2.getLast?)) (some (.obj oo)) b7 a8 go y dl b13) (S7.set oo (.lst (odd1 j ++ odd2 ++ [.tup [.str sRes]]) false)) ⟨[Dd.res], rfl, by rw [get_setN ne]; exact gj7, by rw [ed]; exact get_set goo7, by simp, fun x hx => ?_, ?_⟩
            · simpa [hy] using this
            · rw [List.mem_singleton.mp hx]
              refine ⟨trivial, ?_⟩
              simp [stepD, hy]
            · exact p7.setN (by omega)
          | cons e0 er =>
            simp
            have := hT3 (lE 0 r (some dd) d b4 (some (topD y.2.getLast?)) (some (.obj oo)) b7 a8 go y dl b13) S7 ⟨[], rfl, gj7, by simpa using goo7, by simp, by simp, p7⟩
            simpa [hy] using this
        rintro _ S8 ⟨X, rfl, gj8, goo8, hX, hXs, p8⟩
        have eL := effs_len (p := g.p) gok.p.2 g.names
        have nl4 := gv.kl
        refine seqc (P := fun σ S' => ∃ (X : List Dd) (c7 : Option D), σ = lE 0 r (some dd) d b4 (some (topD y.2.getLast?)) (some (.obj oo)) c7 a8 go y dl b13 ∧ S'[j]? = some (.lst [.str sRes] false) ∧ S'[oo]? = some (.lst (odd1 j ++ odd2 ++ X.map Dd.D) false) ∧ X.length ≤ 10 ∧ (∀ x ∈ X, x.ok g.p g.names ∧ stepD g.t g.names g.ks g.offs y.1 y.2 x = none) ∧ Pl S' r d go cd dl g ds y) (fun T3 hT3 => ?_) ?_
        · simp
          refine effects_of (k := 9) p8 gok fun S9 l9 x9 hl9 g9 => ?_
          have := lt_of_get goo8
          simp [wk_lst g9, Wk.len]
          rw [show (effs g.p g.names).length = ((effs g.p g.names).map Eff.D).length by simp]
          refine wp_loopL (fun k σ S' => ∃ (X : List Dd) (c7 : Option D), σ = lE 0 r (some dd) d b4 (some (topD y.2.getLast?)) (some (.obj oo)) c7 a8 go y dl b13 ∧ S'[j]? = some (.lst [.str sRes] false) ∧ S'[oo]? = some (.lst (odd1 j ++ odd2 ++ X.map Dd.D) false) ∧ X.length ≤ 1 + k ∧ (∀ x ∈ X, x.ok g.p g.names ∧ stepD g.t g.names g.ks g.offs y.1 y.2 x = none) ∧ Pl S' r d go cd dl g ds y ∧ S'[l9]? = some (.lst ((effs g.p g.names).map Eff.D) false)) ?_ (fun k σ S' z => ?_) ?_ ?_
          · exact ⟨X, b7, rfl, x9.get gj8, x9.get goo8, by omega, hXs, p8.ext x9, g9⟩
          · obtain ⟨_, _, _, _, _, _, _, _, z⟩ := z
            exact ⟨_, z⟩
          · intro I3 hI3 k d3 σ S10 hk ⟨X, c7, hσ, gj, goo, hX, hXs, p10, g10⟩
            subst hσ
            have hk2 : k < (effs g.p g.names).length := by
              have := (List.getElem?_eq_some_iff.mp hk).1
              simpa using this
            have hd3 : d3 = ((effs g.p g.names)[k]).D := by
              have := (List.getElem?_eq_some_iff.mp hk).2
              rw [← this]; simp
            have hmem : (effs g.p g.names)[k] ∈ effs g.p g.names := List.getElem_mem _
            subst hd3
            generalize (effs g.p g.names)[k] = e at *
            have he := effs_ok hmem
            simp only [wp_inS, wp_tgM, setTg, List.length_cons, List.length_nil, Nat.reduceAdd, Nat.reduceLT, if_true, ik_ok, List.set_cons_succ, List.set_cons_zero]
            simp
            refine can_of (k := 9) p10 gok he ?_
            cases hc : canE g.names g.ks y e with
            | true =>
              simp
              exact hI3 _ _ _ ⟨X, _, rfl, gj, goo, by omega, hXs, p10, g10⟩
            | false =>
              have hXl : (odd1 j ++ odd2 ++ X.map Dd.D).length = 13 + X.length := by simp [odd1, odd2]; omega
              simp [recv_app goo, sizeL, Eff.D]
              rw [bm_app goo (by rw [hXl]; simp [sizeL]; omega)]
              have ed : odd1 j ++ odd2 ++ (X ++ [Dd.lay e]).map Dd.D = odd1 j ++ odd2 ++ X.map Dd.D ++ [.tup [.str sLay, .str e.n, .int e.a]] := by simp [Dd.D]
              have ne : oo ≠ j := by omega
              have ne2 : oo ≠ l9 := by omega
              simp
              have := hI3 (k + 1) (lE 0 r (some dd) d b4 (some (topD y.2.getLast?)) (some (.obj oo)) (some e.D) a8 go y dl b13) (S10.set oo (.lst (odd1 j ++ odd2 ++ X.map Dd.D ++ [.tup [.str sLay, .str e.n, .int e.a]]) false)) ⟨X ++ [.lay e], _, rfl, by rw [get_setN ne]; exact gj, by rw [ed]; exact get_set goo, by simp; omega, fun x hx => ?_, p10.setN (by omega), by rw [get_setN ne2]; exact g10⟩
              · simpa [Eff.D] using this
              · rcases List.mem_append.mp hx with hx | hx
                · exact hXs x hx
                · rw [List.mem_singleton.mp hx]
                  exact ⟨he, by rw [stepD_lay, hc]; rfl⟩
          · intro σ S10 ⟨X, c7, hσ, gj, goo, hX, hXs, p10, g10⟩
            subst hσ
            simp at hX
            simp
            exact hT3 _ _ ⟨X, c7, rfl, gj, goo, by omega, hXs, p10⟩
        rintro _ S9 ⟨X, c7, rfl, gj9, goo9, hX, hXs, p9⟩
        refine seqc (P := fun σ S' => ∃ (bad : D), σ = lE 0 r (some dd) d b4 (some (topD y.2.getLast?)) (some (.obj oo)) c7 (some bad) go y dl b13 ∧ (∀ S'', Ext S' S'' → Refused S'' g.p g.t g.names g.ks g.offs y bad) ∧ Pl S' r d go cd dl g ds y) (fun T3 hT3 => ?_) ?_
        · have hXl : (odd1 j ++ odd2 ++ X.map Dd.D).length = 13 + X.length := by simp [odd1, odd2]; omega
          simp only [List.append_assoc] at hXl goo9
          simp [bi_lenl goo9]
          refine pick_spec p9.rw' (by simp at hXl; omega) (by simp at hXl; omega) fun v S10 v0 v1 x10 r10 l10 => ?_
          have lts := p9.lt
          have g10 := x10.get (by omega) goo9
          have p10 := p9.exr x10 r10
          have gj10 := x10.get (by omega) gj9
          obtain ⟨jf, hjf, rfl, hat⟩ := atI_lt (xs := odd1 j ++ (odd2 ++ X.map Dd.D)) v0 (by simp; omega)
          have hmem := List.getElem_mem hjf
          generalize (odd1 j ++ (odd2 ++ X.map Dd.D))[jf] = bad at *
          simp [idx_lst g10 hat, setTg]
          refine hT3 _ _ ⟨bad, rfl, fun S'' x => ?_, p10⟩
          rw [← List.append_assoc] at hmem
          rcases List.mem_append.mp hmem with hm | hm
          · exact .inl (odd_no gok.p.2 (fun n hn => (List.take_sublist _ _).subset hn) (x.get gj10) hm)
          · obtain ⟨dx, hdx, rfl⟩ := List.mem_map.mp hm
            exact .inr ⟨dx, rfl, (hXs dx hdx).1, (hXs dx hdx).2⟩
        rintro _ S10 ⟨bad, rfl, href, p10⟩
        simp
        refine ⟨by simp [sizeL], ?_⟩
        have xa := Ext.app S10 [Ob.lst [bad] false]
        have ga := xa.get p10.dd
        have gb := get_new S10 (.lst [bad] false)
        generalize S10.length = la at gb ⊢
        generalize S10 ++ [Ob.lst [bad] false] = S11 at *
        refine add_ll ga gb (by simp [sizeL]; omega) fun S12 l12 x12 hl12 g12 => ?_
        have xb := xa.trans x12
        simp
        refine add_ll g12 (xb.get p10.dd) (by simp [sizeL]; omega) fun S13 l13 x13 hl13 g13 => ?_
        have xc := xb.trans x13
        simp
        refine ⟨by simp [sizeL], ?_⟩
        have xd := Ext.app S13 [Ob.lst [D.non] false]
        have gc := xd.get g13
        have gd := get_new S13 (.lst [D.non] false)
        have xe := xc.trans xd
        generalize S13.length = lc at gd ⊢
        generalize S13 ++ [Ob.lst [D.non] false] = S14 at *
        refine add_ll gc gd (by simp [sizeL]; omega) fun S15 l15 x15 hl15 g15 => ?_
        have xf := xe.trans x15
        have p15 := p10.ext xf
        simp
        refine told_ok (k := 3) (rest := bad :: (ds.map Dd.D ++ [.non])) p15.gm gv gok.tb0 (.inr ⟨l15, false, rfl, by simpa using g15⟩) (by simp; omega) p15.ok p15.run (.inr ⟨_, _, rfl, href _ xf⟩) fun S16 x16 => ?_
        have p16 := p15.ext x16
        simp [bi_lenl p16.dd, bi_tupl p16.dd]
        refine told_ok (k := 3) (rest := []) p16.gm gv gok.tb0 (.inl (by simp)) (by simp; omega) p16.ok p16.run (.inl rfl) fun S17 x17 => ?_
        have p17 := p16.ext x17
        simp
        exact ⟨rfl, hI _ _ _ ⟨_, _, _, _, _, _, _, _, _, _, _, _, rfl, p17.rw'⟩⟩
      · intro σ S2 _
        exact hT σ S2 trivial
    intro σ S2 _
    simp
  obtain ⟨r, S', h1, h2⟩ := wp_get w
  exact ⟨S', by rw [h1, h2]⟩
end LA.Pu

namespace LA
open PySem PySem.Spec PyProof.Rows L2
abbrev pw := PySem.Challenge.pw_lastanswers_k04_deeds_refused
def top (i : Nat) : Stmt := PySem.Challenge.pw_lastanswers_k04_deeds_refused.main.body.getD i (.Pass ⟨0, 0, 0, 0⟩)
def fr0 : FR := ⟨("is_integer", none), false, "is_integer", "is_integer", defArgs (top 23), defBody (top 23), defScope (top 23), [("value" : Str)], [("value" : Str)]⟩
def fr1 : FR := ⟨("is_below", none), false, "is_below", "is_below", defArgs (top 24), defBody (top 24), defScope (top 24), [("value" : Str), ("most" : Str)], [("value" : Str), ("most" : Str)]⟩
def fr2 : FR := ⟨("is_name", none), false, "is_name", "is_name", defArgs (top 25), defBody (top 25), defScope (top 25), [("value" : Str), ("letter" : Str)], [("value" : Str)]⟩
def fr3 : FR := ⟨("is_size", none), false, "is_size", "is_size", defArgs (top 26), defBody (top 26), defScope (top 26), [("value" : Str)], [("value" : Str)]⟩
def fr4 : FR := ⟨("is_step", none), false, "is_step", "is_step", defArgs (top 27), defBody (top 27), defScope (top 27), [("places" : Str), ("top" : Str), ("value" : Str), ("word" : Str), ("where" : Str), ("number" : Str)], [("places" : Str), ("top" : Str), ("value" : Str)]⟩
def fr5 : FR := ⟨("is_act", none), false, "is_act", "is_act", defArgs (top 28), defBody (top 28), defScope (top 28), [("places" : Str), ("top" : Str), ("value" : Str), ("step" : Str)], [("places" : Str), ("top" : Str), ("value" : Str)]⟩
def fr6 : FR := ⟨("is_test", none), false, "is_test", "is_test", defArgs (top 29), defBody (top 29), defScope (top 29), [("places" : Str), ("top" : Str), ("value" : Str)], [("places" : Str), ("top" : Str), ("value" : Str)]⟩
def fr7 : FR := ⟨("are_answers", none), false, "are_answers", "are_answers", defArgs (top 30), defBody (top 30), defScope (top 30), [("names" : Str), ("value" : Str), ("one" : Str), ("other" : Str), ("name" : Str)], [("names" : Str), ("value" : Str)]⟩
def fr8 : FR := ⟨("is_kind", none), false, "is_kind", "is_kind", defArgs (top 31), defBody (top 31), defScope (top 31), [("places" : Str), ("top" : Str), ("names" : Str), ("value" : Str)], [("places" : Str), ("top" : Str), ("names" : Str), ("value" : Str)]⟩
def fr9 : FR := ⟨("check_kinds", none), false, "check_kinds", "check_kinds", defArgs (top 32), defBody (top 32), defScope (top 32), [("places" : Str), ("top" : Str), ("kinds" : Str), ("name" : Str)], [("places" : Str), ("top" : Str), ("kinds" : Str)]⟩
def fr10 : FR := ⟨("is_effect_of", none), false, "is_effect_of", "is_effect_of", defArgs (top 33), defBody (top 33), defScope (top 33), [("places" : Str), ("names" : Str), ("kind" : Str), ("aim" : Str)], [("places" : Str), ("names" : Str), ("kind" : Str), ("aim" : Str)]⟩
def fr11 : FR := ⟨("is_off", none), false, "is_off", "is_off", defArgs (top 34), defBody (top 34), defScope (top 34), [("places" : Str), ("top" : Str), ("names" : Str), ("value" : Str)], [("places" : Str), ("top" : Str), ("names" : Str), ("value" : Str)]⟩
def fr12 : FR := ⟨("check_offs", none), false, "check_offs", "check_offs", defArgs (top 35), defBody (top 35), defScope (top 35), [("places" : Str), ("top" : Str), ("names" : Str), ("offs" : Str), ("index" : Str), ("off" : Str)], [("places" : Str), ("top" : Str), ("names" : Str), ("offs" : Str)]⟩
def fr13 : FR := ⟨("is_table_of", none), false, "is_table_of", "is_table_of", defArgs (top 36), defBody (top 36), defScope (top 36), [("places" : Str), ("top" : Str), ("value" : Str), ("number" : Str)], [("places" : Str), ("top" : Str), ("value" : Str)]⟩
def fr14 : FR := ⟨("turned", none), false, "turned", "turned", defArgs (top 38), defBody (top 38), defScope (top 38), [("effect" : Str), ("place" : Str)], [("effect" : Str), ("place" : Str)]⟩
def fr15 : FR := ⟨("resolved", none), false, "resolved", "resolved", defArgs (top 42), defBody (top 42), defScope (top 42), [("game" : Str), ("table" : Str), ("pile" : Str), ("act" : Str), ("effect" : Str), ("rest" : Str), ("later" : Str), ("laid" : Str)], [("game" : Str), ("table" : Str), ("pile" : Str)]⟩
def fr16 : FR := ⟨("is_deed", none), false, "is_deed", "is_deed", defArgs (top 43), defBody (top 43), defScope (top 43), [("game" : Str), ("value" : Str)], [("game" : Str), ("value" : Str)]⟩
def fr17 : FR := ⟨("behind", none), false, "behind", "behind", defArgs (top 44), defBody (top 44), defScope (top 44), [("game" : Str), ("table" : Str), ("pile" : Str), ("deed" : Str), ("effect" : Str)], [("game" : Str), ("table" : Str), ("pile" : Str), ("deed" : Str)]⟩
def fr18 : FR := ⟨("replay", none), false, "replay", "replay", defArgs (top 46), defBody (top 46), defScope (top 46), [("game" : Str), ("deeds" : Str), ("table" : Str), ("pile" : Str), ("tables" : Str), ("done" : Str), ("index" : Str), ("deed" : Str), ("found" : Str)], [("game" : Str), ("deeds" : Str)]⟩
def fr19 : FR := ⟨("_law_draws", none), false, "_law_draws", "_law_draws", defArgs (top 48), defBody (top 48), defScope (top 48), [("_law_script" : Str)], [("_law_script" : Str)]⟩
def fr20 : FR := ⟨("_law_pick", none), false, "_law_pick", "_law_pick", defArgs (top 49), defBody (top 49), defScope (top 49), [("_law_row" : Str), ("_law_many" : Str), ("_law_found" : Str), ("_law_cell" : Str)], [("_law_row" : Str), ("_law_many" : Str)]⟩
def fr21 : FR := ⟨("_law_step", none), false, "_law_step", "_law_step", defArgs (top 50), defBody (top 50), defScope (top 50), [("_law_row" : Str), ("_law_d" : Str), ("_law_word" : Str), ("_law_where" : Str)], [("_law_row" : Str), ("_law_d" : Str)]⟩
def fr22 : FR := ⟨("_law_act", none), false, "_law_act", "_law_act", defArgs (top 51), defBody (top 51), defScope (top 51), [("_law_row" : Str), ("_law_d" : Str), ("_law_turn_of" : Str), ("_law_k" : Str)], [("_law_row" : Str), ("_law_d" : Str)]⟩
def fr23 : FR := ⟨("_law_kind", none), false, "_law_kind", "_law_kind", defArgs (top 52), defBody (top 52), defScope (top 52), [("_law_row" : Str), ("_law_d" : Str), ("_law_names" : Str), ("_law_test" : Str), ("_law_answers" : Str), ("_law_name" : Str)], [("_law_row" : Str), ("_law_d" : Str), ("_law_names" : Str)]⟩
def fr24 : FR := ⟨("_law_off", none), false, "_law_off", "_law_off", defArgs (top 53), defBody (top 53), defScope (top 53), [("_law_row" : Str), ("_law_d" : Str), ("_law_names" : Str), ("_law_number" : Str)], [("_law_row" : Str), ("_law_d" : Str)]⟩
def fr25 : FR := ⟨("_law_drawn", none), false, "_law_drawn", "_law_drawn", defArgs (top 54), defBody (top 54), defScope (top 54), [("_law_row" : Str), ("_law_most" : Str), ("_law_top" : Str), ("_law_d" : Str), ("_law_names" : Str), ("_law_name" : Str), ("_law_k" : Str), ("_law_off_here" : Str)], [("_law_row" : Str), ("_law_most" : Str), ("_law_top" : Str)]⟩
def fr26 : FR := ⟨("_law_made", none), false, "_law_made", "_law_made", defArgs (top 55), defBody (top 55), defScope (top 55), [("_law_d" : Str)], [("_law_d" : Str)]⟩
def fr27 : FR := ⟨("_law_effects", none), false, "_law_effects", "_law_effects", defArgs (top 56), defBody (top 56), defScope (top 56), [("_law_d" : Str), ("_law_found" : Str), ("_law_name" : Str), ("_law_aim" : Str)], [("_law_d" : Str)]⟩
def fr28 : FR := ⟨("_law_can_lay", none), false, "_law_can_lay", "_law_can_lay", defArgs (top 57), defBody (top 57), defScope (top 57), [("_law_d" : Str), ("_law_table" : Str), ("_law_beneath" : Str), ("_law_effect" : Str), ("_law_test" : Str), ("_law_opens" : Str), ("_law_answers" : Str), ("_law_act_here" : Str)], [("_law_d" : Str), ("_law_table" : Str), ("_law_beneath" : Str), ("_law_effect" : Str)]⟩
def fr29 : FR := ⟨("_law_moved", none), false, "_law_moved", "_law_moved", defArgs (top 58), defBody (top 58), defScope (top 58), [("_law_d" : Str), ("_law_table" : Str), ("_law_effect" : Str), ("_law_numbers" : Str), ("_law_laid" : Str), ("_law_word" : Str), ("_law_where" : Str), ("_law_number" : Str), ("_law_place" : Str), ("_law_old" : Str), ("_law_at" : Str), ("_law_what" : Str), ("_law_kind_here" : Str), ("_law_aim" : Str)], [("_law_d" : Str), ("_law_table" : Str), ("_law_effect" : Str)]⟩
def fr30 : FR := ⟨("_law_resolved", none), false, "_law_resolved", "_law_resolved", defArgs (top 59), defBody (top 59), defScope (top 59), [("_law_d" : Str), ("_law_table" : Str), ("_law_pile" : Str), ("_law_act_here" : Str), ("_law_effect" : Str), ("_law_rest" : Str), ("_law_later" : Str), ("_law_laid" : Str)], [("_law_d" : Str), ("_law_table" : Str), ("_law_pile" : Str)]⟩
def fr31 : FR := ⟨("_law_told", none), false, "_law_told", "_law_told", defArgs (top 60), defBody (top 60), defScope (top 60), [("_law_game" : Str), ("_law_deeds" : Str), ("_law_told_here" : Str), ("e" : Str)], [("_law_game" : Str), ("_law_deeds" : Str)]⟩
def fr32 : FR := ⟨("law", none), false, "law", "law", defArgs (top 61), defBody (top 61), defScope (top 61), [("_law_script" : Str), ("_law_row" : Str), ("_law_turn" : Str), ("_law_d" : Str), ("_law_k" : Str), ("_law_beneath" : Str), ("_law_odd" : Str), ("_law_effect" : Str), ("_law_bad" : Str), ("_law_game" : Str), ("_law_table" : Str), ("_law_pile" : Str), ("_law_deeds" : Str), ("_law_some" : Str)], [("_law_script" : Str)]⟩
def fr33 : FR := ⟨("Game", some "__init__"), false, "__init__", "Game.__init__", defArgs (inClass (top 37) 0), defBody (inClass (top 37) 0), defScope (inClass (top 37) 0), [("self" : Str), ("places" : Str), ("top" : Str), ("kinds" : Str), ("offs" : Str), ("start" : Str), ("name" : Str)], [("self" : Str), ("places" : Str), ("top" : Str), ("kinds" : Str), ("offs" : Str), ("start" : Str)]⟩
def fr34 : FR := ⟨("Game", some "places"), true, "places", "Game.places", defArgs (inClass (top 37) 1), defBody (inClass (top 37) 1), defScope (inClass (top 37) 1), [("self" : Str)], [("self" : Str)]⟩
def fr35 : FR := ⟨("Game", some "top"), true, "top", "Game.top", defArgs (inClass (top 37) 2), defBody (inClass (top 37) 2), defScope (inClass (top 37) 2), [("self" : Str)], [("self" : Str)]⟩
def fr36 : FR := ⟨("Game", some "kinds"), true, "kinds", "Game.kinds", defArgs (inClass (top 37) 3), defBody (inClass (top 37) 3), defScope (inClass (top 37) 3), [("self" : Str)], [("self" : Str)]⟩
def fr37 : FR := ⟨("Game", some "offs"), true, "offs", "Game.offs", defArgs (inClass (top 37) 4), defBody (inClass (top 37) 4), defScope (inClass (top 37) 4), [("self" : Str)], [("self" : Str)]⟩
def fr38 : FR := ⟨("Game", some "start"), true, "start", "Game.start", defArgs (inClass (top 37) 5), defBody (inClass (top 37) 5), defScope (inClass (top 37) 5), [("self" : Str)], [("self" : Str)]⟩
def fr39 : FR := ⟨("Game", some "__len__"), false, "__len__", "Game.__len__", defArgs (inClass (top 37) 6), defBody (inClass (top 37) 6), defScope (inClass (top 37) 6), [("self" : Str)], [("self" : Str)]⟩
def fr40 : FR := ⟨("Game", some "__eq__"), false, "__eq__", "Game.__eq__", defArgs (inClass (top 37) 7), defBody (inClass (top 37) 7), defScope (inClass (top 37) 7), [("self" : Str), ("other" : Str)], [("self" : Str), ("other" : Str)]⟩
def fr41 : FR := ⟨("Game", some "effects"), false, "effects", "Game.effects", defArgs (inClass (top 37) 8), defBody (inClass (top 37) 8), defScope (inClass (top 37) 8), [("self" : Str), ("name" : Str), ("aim" : Str)], [("self" : Str)]⟩
def fr42 : FR := ⟨("Game", some "tables"), false, "tables", "Game.tables", defArgs (inClass (top 37) 9), defBody (inClass (top 37) 9), defScope (inClass (top 37) 9), [("self" : Str), ("found" : Str), ("place" : Str), ("table" : Str), ("number" : Str)], [("self" : Str)]⟩
def fr43 : FR := ⟨("Game", some "is_effect"), false, "is_effect", "Game.is_effect", defArgs (inClass (top 37) 13), defBody (inClass (top 37) 13), defScope (inClass (top 37) 13), [("self" : Str), ("value" : Str)], [("self" : Str), ("value" : Str)]⟩
def fr44 : FR := ⟨("Game", some "can_lay"), false, "can_lay", "Game.can_lay", defArgs (inClass (top 37) 14), defBody (inClass (top 37) 14), defScope (inClass (top 37) 14), [("self" : Str), ("table" : Str), ("top" : Str), ("effect" : Str), ("test" : Str), ("opens" : Str), ("answers" : Str), ("act" : Str)], [("self" : Str), ("table" : Str), ("top" : Str), ("effect" : Str)]⟩
def fr45 : FR := ⟨("Game", some "moved"), false, "moved", "Game.moved", defArgs (inClass (top 37) 15), defBody (inClass (top 37) 15), defScope (inClass (top 37) 15), [("self" : Str), ("table" : Str), ("effect" : Str), ("found" : Str), ("laid" : Str), ("word" : Str), ("where" : Str), ("number" : Str), ("place" : Str), ("before" : Str), ("off" : Str)], [("self" : Str), ("table" : Str), ("effect" : Str)]⟩
def fr46 : FR := ⟨("Record", some "__init__"), false, "__init__", "Record.__init__", defArgs (inClass (top 45) 0), defBody (inClass (top 45) 0), defScope (inClass (top 45) 0), [("self" : Str), ("table" : Str), ("pile" : Str), ("tables" : Str), ("done" : Str)], [("self" : Str), ("table" : Str), ("pile" : Str), ("tables" : Str), ("done" : Str)]⟩
def fr47 : FR := ⟨("Record", some "table"), true, "table", "Record.table", defArgs (inClass (top 45) 1), defBody (inClass (top 45) 1), defScope (inClass (top 45) 1), [("self" : Str)], [("self" : Str)]⟩
def fr48 : FR := ⟨("Record", some "pile"), true, "pile", "Record.pile", defArgs (inClass (top 45) 2), defBody (inClass (top 45) 2), defScope (inClass (top 45) 2), [("self" : Str)], [("self" : Str)]⟩
def fr49 : FR := ⟨("Record", some "__len__"), false, "__len__", "Record.__len__", defArgs (inClass (top 45) 4), defBody (inClass (top 45) 4), defScope (inClass (top 45) 4), [("self" : Str)], [("self" : Str)]⟩
def fr50 : FR := ⟨("Record", some "__eq__"), false, "__eq__", "Record.__eq__", defArgs (inClass (top 45) 5), defBody (inClass (top 45) 5), defScope (inClass (top 45) 5), [("self" : Str), ("other" : Str)], [("self" : Str), ("other" : Str)]⟩
def anL : List Str := [("name" : Str), ("many" : Str), ("most" : Str), ("cards" : Str), ("sets" : Str), ("first" : Str), ("last_table" : Str), ("last_pile" : Str), ("empty_tables" : Str), ("done" : Str), ("moved" : Str), ("can_lay" : Str), ("is_effect" : Str), ("places" : Str), ("top" : Str), ("kinds" : Str), ("offs" : Str), ("start" : Str), ("effects" : Str), ("tables" : Str), ("table" : Str), ("pile" : Str), ("index" : Str)]
def gl0 : List (Str × Gn) := [("LETTERS", .con (.str [97, 98, 99, 100, 101, 102, 103, 104, 105, 106, 107, 108, 109, 110, 111, 112, 113, 114, 115, 116, 117, 118, 119, 120, 121, 122])), ("LONGEST", .con (.int 8)), ("DOES", .con (.str [100, 111, 101, 115])), ("AIM", .con (.str [97, 105, 109])), ("UP", .con (.str [117, 112])), ("DOWN", .con (.str [100, 111, 119, 110])), ("SET", .con (.str [115, 101, 116])), ("MOVE", .con (.str [109, 111, 118, 101])), ("OFF", .con (.str [111, 102, 102])), ("COPY", .con (.str [99, 111, 112, 121])), ("TURN", .con (.str [116, 117, 114, 110])), ("MOST_KINDS", .con (.int 4)), ("MOST_STEPS", .con (.int 3)), ("MOST_OFFS", .con (.int 4)), ("LAY", .con (.str [108, 97, 121])), ("RESOLVE", .con (.str [114, 101, 115, 111, 108, 118, 101])), ("is_integer", .fn 0), ("is_below", .fn 1), ("is_name", .fn 2), ("is_size", .fn 3)]
def gl1 : List (Str × Gn) := [("is_step", .fn 4), ("is_act", .fn 5), ("is_test", .fn 6), ("are_answers", .fn 7), ("is_kind", .fn 8), ("check_kinds", .fn 9), ("is_effect_of", .fn 10), ("is_off", .fn 11), ("check_offs", .fn 12), ("is_table_of", .fn 13), ("turned", .fn 14), ("resolved", .fn 15), ("is_deed", .fn 16), ("behind", .fn 17), ("replay", .fn 18), ("_law_draws", .fn 19), ("_law_pick", .fn 20), ("_law_step", .fn 21), ("_law_act", .fn 22), ("_law_kind", .fn 23)]
def gl2 : List (Str × Gn) := [("_law_off", .fn 24), ("_law_drawn", .fn 25), ("_law_made", .fn 26), ("_law_effects", .fn 27), ("_law_can_lay", .fn 28), ("_law_moved", .fn 29), ("_law_resolved", .fn 30), ("_law_told", .fn 31), ("law", .fn 32), ("Game", .cls 0), ("Record", .cls 1), ("PileError", .exc 0), ("BadSize", .exc 1), ("BadKind", .exc 2), ("BadOff", .exc 3), ("BadTable", .exc 4), ("BadDeed", .exc 5)]
def glL : List (Str × Gn) := gl0 ++ gl1 ++ gl2
def fns0 : List FR := [fr0, fr1, fr2, fr3, fr4, fr5, fr6, fr7, fr8, fr9, fr10, fr11, fr12, fr13, fr14, fr15, fr16, fr17, fr18, fr19]
def fns1 : List FR := [fr20, fr21, fr22, fr23, fr24, fr25, fr26, fr27, fr28, fr29, fr30, fr31, fr32, fr33, fr34, fr35, fr36, fr37, fr38, fr39]
def fns2 : List FR := [fr40, fr41, fr42, fr43, fr44, fr45, fr46, fr47, fr48, fr49, fr50]
def xr1 : XR := ⟨"BadSize", "BadSize.__init__", defArgs (inClass (top 3) 0), defBody (inClass (top 3) 0), defScope (inClass (top 3) 0), [("self" : Str)], []⟩
def xr2 : XR := ⟨"BadKind", "BadKind.__init__", defArgs (inClass (top 4) 0), defBody (inClass (top 4) 0), defScope (inClass (top 4) 0), [("self" : Str), ("name" : Str)], [("name", 1)]⟩
def xr3 : XR := ⟨"BadOff", "BadOff.__init__", defArgs (inClass (top 5) 0), defBody (inClass (top 5) 0), defScope (inClass (top 5) 0), [("self" : Str), ("index" : Str)], [("index", 1)]⟩
def xr4 : XR := ⟨"BadTable", "BadTable.__init__", defArgs (inClass (top 6) 0), defBody (inClass (top 6) 0), defScope (inClass (top 6) 0), [("self" : Str)], []⟩
def xr5 : XR := ⟨"BadDeed", "BadDeed.__init__", defArgs (inClass (top 7) 0), defBody (inClass (top 7) 0), defScope (inClass (top 7) 0), [("self" : Str), ("index" : Str)], [("index", 1)]⟩
def xinL : List (Option XR) := [none, some xr1, some xr2, some xr3, some xr4, some xr5]
def kinL0 : List (Nat × List (Option Nat)) := []
def pr : PRec := ⟨fns0 ++ fns1 ++ fns2, [("Game", { init := (some 33), meths := [(18, 41), (19, 42), (12, 43), (11, 44), (10, 45)], props := [(13, 34), (14, 35), (15, 36), (16, 37), (17, 38)], flds := [1, 2, 3, 4, 5], eqf := (some 40), lenf := (some 39), contf := none, getf := none, setf := none, up := [0] }),
  ("Record", { init := (some 46), meths := [], props := [(20, 47), (21, 48)], flds := [6, 7, 8, 9], eqf := (some 50), lenf := (some 49), contf := none, getf := none, setf := none, up := [1] })], [("PileError", { exf := none, up := [0] }),
  ("BadSize", { exf := (some (0, [])), up := [1, 0] }),
  ("BadKind", { exf := (some (1, [(0, 0)])), up := [2, 0] }),
  ("BadOff", { exf := (some (1, [(22, 0)])), up := [3, 0] }),
  ("BadTable", { exf := (some (0, [])), up := [4, 0] }),
  ("BadDeed", { exf := (some (1, [(22, 0)])), up := [5, 0] })], anL, glL, PySem.Challenge.pw_lastanswers_k04_deeds_refused.main.file, xinL, kinL0, true⟩
theorem hb0 : BindP fr0 := fun _ _ _ _ _ _ us hl => match us, hl with | [_], _ => rfl
theorem hb1 : BindP fr1 := fun _ _ _ _ _ _ us hl => match us, hl with | [_, _], _ => rfl
theorem hb2 : BindP fr2 := fun _ _ _ _ _ _ us hl => match us, hl with | [_], _ => rfl
theorem hb3 : BindP fr3 := fun _ _ _ _ _ _ us hl => match us, hl with | [_], _ => rfl
theorem hb4 : BindP fr4 := fun _ _ _ _ _ _ us hl => match us, hl with | [_, _, _], _ => rfl
theorem hb5 : BindP fr5 := fun _ _ _ _ _ _ us hl => match us, hl with | [_, _, _], _ => rfl
theorem hb6 : BindP fr6 := fun _ _ _ _ _ _ us hl => match us, hl with | [_, _, _], _ => rfl
theorem hb7 : BindP fr7 := fun _ _ _ _ _ _ us hl => match us, hl with | [_, _], _ => rfl
theorem hb8 : BindP fr8 := fun _ _ _ _ _ _ us hl => match us, hl with | [_, _, _, _], _ => rfl
theorem hb9 : BindP fr9 := fun _ _ _ _ _ _ us hl => match us, hl with | [_, _, _], _ => rfl
theorem hb10 : BindP fr10 := fun _ _ _ _ _ _ us hl => match us, hl with | [_, _, _, _], _ => rfl
theorem hb11 : BindP fr11 := fun _ _ _ _ _ _ us hl => match us, hl with | [_, _, _, _], _ => rfl
theorem hb12 : BindP fr12 := fun _ _ _ _ _ _ us hl => match us, hl with | [_, _, _, _], _ => rfl
theorem hb13 : BindP fr13 := fun _ _ _ _ _ _ us hl => match us, hl with | [_, _, _], _ => rfl
theorem hb14 : BindP fr14 := fun _ _ _ _ _ _ us hl => match us, hl with | [_, _], _ => rfl
theorem hb15 : BindP fr15 := fun _ _ _ _ _ _ us hl => match us, hl with | [_, _, _], _ => rfl
theorem hb16 : BindP fr16 := fun _ _ _ _ _ _ us hl => match us, hl with | [_, _], _ => rfl
theorem hb17 : BindP fr17 := fun _ _ _ _ _ _ us hl => match us, hl with | [_, _, _, _], _ => rfl
theorem hb18 : BindP fr18 := fun _ _ _ _ _ _ us hl => match us, hl with | [_, _], _ => rfl
theorem hb19 : BindP fr19 := fun _ _ _ _ _ _ us hl => match us, hl with | [_], _ => rfl
theorem hb20 : BindP fr20 := fun _ _ _ _ _ _ us hl => match us, hl with | [_, _], _ => rfl
theorem hb21 : BindP fr21 := fun _ _ _ _ _ _ us hl => match us, hl with | [_, _], _ => rfl
theorem hb22 : BindP fr22 := fun _ _ _ _ _ _ us hl => match us, hl with | [_, _], _ => rfl
theorem hb23 : BindP fr23 := fun _ _ _ _ _ _ us hl => match us, hl with | [_, _, _], _ => rfl
theorem hb24 : BindP fr24 := fun _ _ _ _ _ _ us hl => match us, hl with | [_, _], _ => rfl
theorem hb25 : BindP fr25 := fun _ _ _ _ _ _ us hl => match us, hl with | [_, _, _], _ => rfl
theorem hb26 : BindP fr26 := fun _ _ _ _ _ _ us hl => match us, hl with | [_], _ => rfl
theorem hb27 : BindP fr27 := fun _ _ _ _ _ _ us hl => match us, hl with | [_], _ => rfl
theorem hb28 : BindP fr28 := fun _ _ _ _ _ _ us hl => match us, hl with | [_, _, _, _], _ => rfl
theorem hb29 : BindP fr29 := fun _ _ _ _ _ _ us hl => match us, hl with | [_, _, _], _ => rfl
theorem hb30 : BindP fr30 := fun _ _ _ _ _ _ us hl => match us, hl with | [_, _, _], _ => rfl
theorem hb31 : BindP fr31 := fun _ _ _ _ _ _ us hl => match us, hl with | [_, _], _ => rfl
theorem hb32 : BindP fr32 := fun _ _ _ _ _ _ us hl => match us, hl with | [_], _ => rfl
theorem hb33 : BindP fr33 := fun _ _ _ _ _ _ us hl => match us, hl with | [_, _, _, _, _, _], _ => rfl
theorem hb34 : BindP fr34 := fun _ _ _ _ _ _ us hl => match us, hl with | [_], _ => rfl
theorem hb35 : BindP fr35 := fun _ _ _ _ _ _ us hl => match us, hl with | [_], _ => rfl
theorem hb36 : BindP fr36 := fun _ _ _ _ _ _ us hl => match us, hl with | [_], _ => rfl
theorem hb37 : BindP fr37 := fun _ _ _ _ _ _ us hl => match us, hl with | [_], _ => rfl
theorem hb38 : BindP fr38 := fun _ _ _ _ _ _ us hl => match us, hl with | [_], _ => rfl
theorem hb39 : BindP fr39 := fun _ _ _ _ _ _ us hl => match us, hl with | [_], _ => rfl
theorem hb40 : BindP fr40 := fun _ _ _ _ _ _ us hl => match us, hl with | [_, _], _ => rfl
theorem hb41 : BindP fr41 := fun _ _ _ _ _ _ us hl => match us, hl with | [_], _ => rfl
theorem hb42 : BindP fr42 := fun _ _ _ _ _ _ us hl => match us, hl with | [_], _ => rfl
theorem hb43 : BindP fr43 := fun _ _ _ _ _ _ us hl => match us, hl with | [_, _], _ => rfl
theorem hb44 : BindP fr44 := fun _ _ _ _ _ _ us hl => match us, hl with | [_, _, _, _], _ => rfl
theorem hb45 : BindP fr45 := fun _ _ _ _ _ _ us hl => match us, hl with | [_, _, _], _ => rfl
theorem hb46 : BindP fr46 := fun _ _ _ _ _ _ us hl => match us, hl with | [_, _, _, _, _], _ => rfl
theorem hb47 : BindP fr47 := fun _ _ _ _ _ _ us hl => match us, hl with | [_], _ => rfl
theorem hb48 : BindP fr48 := fun _ _ _ _ _ _ us hl => match us, hl with | [_], _ => rfl
theorem hb49 : BindP fr49 := fun _ _ _ _ _ _ us hl => match us, hl with | [_], _ => rfl
theorem hb50 : BindP fr50 := fun _ _ _ _ _ _ us hl => match us, hl with | [_, _], _ => rfl
theorem hbs0 : AllB fns0 := ⟨hb0, hb1, hb2, hb3, hb4, hb5, hb6, hb7, hb8, hb9, hb10, hb11, hb12, hb13, hb14, hb15, hb16, hb17, hb18, hb19, trivial⟩
theorem hbs1 : AllB fns1 := ⟨hb20, hb21, hb22, hb23, hb24, hb25, hb26, hb27, hb28, hb29, hb30, hb31, hb32, hb33, hb34, hb35, hb36, hb37, hb38, hb39, trivial⟩
theorem hbs2 : AllB fns2 := ⟨hb40, hb41, hb42, hb43, hb44, hb45, hb46, hb47, hb48, hb49, hb50, trivial⟩
theorem hbA : AllB pr.fns := ((hbs0).app hbs1).app hbs2
theorem ok0 : fr0.ok glL anL = true := by decide +kernel
theorem ok1 : fr1.ok glL anL = true := by decide +kernel
theorem ok2 : fr2.ok glL anL = true := by decide +kernel
theorem ok3 : fr3.ok glL anL = true := by decide +kernel
theorem ok4 : fr4.ok glL anL = true := by decide +kernel
theorem ok5 : fr5.ok glL anL = true := by decide +kernel
theorem ok6 : fr6.ok glL anL = true := by decide +kernel
theorem ok7 : fr7.ok glL anL = true := by decide +kernel
theorem ok8 : fr8.ok glL anL = true := by decide +kernel
theorem ok9 : fr9.ok glL anL = true := by decide +kernel
theorem ok10 : fr10.ok glL anL = true := by decide +kernel
theorem ok11 : fr11.ok glL anL = true := by decide +kernel
theorem ok12 : fr12.ok glL anL = true := by decide +kernel
theorem ok13 : fr13.ok glL anL = true := by decide +kernel
theorem ok14 : fr14.ok glL anL = true := by decide +kernel
theorem ok15 : fr15.ok glL anL = true := by decide +kernel
theorem ok16 : fr16.ok glL anL = true := by decide +kernel
theorem ok17 : fr17.ok glL anL = true := by decide +kernel
theorem ok18 : fr18.ok glL anL = true := by decide +kernel
theorem ok19 : fr19.ok glL anL = true := by decide +kernel
theorem ok20 : fr20.ok glL anL = true := by decide +kernel
theorem ok21 : fr21.ok glL anL = true := by decide +kernel
theorem ok22 : fr22.ok glL anL = true := by decide +kernel
theorem ok23 : fr23.ok glL anL = true := by decide +kernel
theorem ok24 : fr24.ok glL anL = true := by decide +kernel
theorem ok25 : fr25.ok glL anL = true := by decide +kernel
theorem ok26 : fr26.ok glL anL = true := by decide +kernel
theorem ok27 : fr27.ok glL anL = true := by decide +kernel
theorem ok28 : fr28.ok glL anL = true := by decide +kernel
theorem ok29 : fr29.ok glL anL = true := by decide +kernel
theorem ok30 : fr30.ok glL anL = true := by decide +kernel
theorem ok31 : fr31.ok glL anL = true := by decide +kernel
theorem ok32 : fr32.ok glL anL = true := by decide +kernel
theorem ok33 : fr33.ok glL anL = true := by decide +kernel
theorem ok34 : fr34.ok glL anL = true := by decide +kernel
theorem ok35 : fr35.ok glL anL = true := by decide +kernel
theorem ok36 : fr36.ok glL anL = true := by decide +kernel
theorem ok37 : fr37.ok glL anL = true := by decide +kernel
theorem ok38 : fr38.ok glL anL = true := by decide +kernel
theorem ok39 : fr39.ok glL anL = true := by decide +kernel
theorem ok40 : fr40.ok glL anL = true := by decide +kernel
theorem ok41 : fr41.ok glL anL = true := by decide +kernel
theorem ok42 : fr42.ok glL anL = true := by decide +kernel
theorem ok43 : fr43.ok glL anL = true := by decide +kernel
theorem ok44 : fr44.ok glL anL = true := by decide +kernel
theorem ok45 : fr45.ok glL anL = true := by decide +kernel
theorem ok46 : fr46.ok glL anL = true := by decide +kernel
theorem ok47 : fr47.ok glL anL = true := by decide +kernel
theorem ok48 : fr48.ok glL anL = true := by decide +kernel
theorem ok49 : fr49.ok glL anL = true := by decide +kernel
theorem ok50 : fr50.ok glL anL = true := by decide +kernel
theorem oks0 : (fns0.all fun r => r.ok glL anL) = true := by unfold fns0; simp only [List.all_cons, List.all_nil, Bool.and_true, ok0, ok1, ok2, ok3, ok4, ok5, ok6, ok7, ok8, ok9, ok10, ok11, ok12, ok13, ok14, ok15, ok16, ok17, ok18, ok19]
theorem oks1 : (fns1.all fun r => r.ok glL anL) = true := by unfold fns1; simp only [List.all_cons, List.all_nil, Bool.and_true, ok20, ok21, ok22, ok23, ok24, ok25, ok26, ok27, ok28, ok29, ok30, ok31, ok32, ok33, ok34, ok35, ok36, ok37, ok38, ok39]
theorem oks2 : (fns2.all fun r => r.ok glL anL) = true := by unfold fns2; simp only [List.all_cons, List.all_nil, Bool.and_true, ok40, ok41, ok42, ok43, ok44, ok45, ok46, ok47, ok48, ok49, ok50]
theorem prok : pr.ok = true := by
  unfold PRec.ok pr
  simp only [List.all_append, oks0, oks1, oks2, Bool.and_true]
  decide +kernel
theorem xt1 : XText xr1.ps xr1.fl xr1.scope xr1.params xr1.body := ⟨NdefX.nscope_by (by decide +kernel), by decide +kernel, ⟨_, rfl, rfl⟩, ⟨_, _, _, _, _, _, _, rfl, by decide +kernel, by decide +kernel, fun env => ⟨_, rfl⟩, fun env => rfl, fun env => rfl⟩⟩
theorem xb1 : XBind xr1 := fun _ _ _ _ _ _ _ us hl => match us, hl with | [_], _ => rfl
theorem xt2 : XText xr2.ps xr2.fl xr2.scope xr2.params xr2.body := ⟨NdefX.nscope_by (by decide +kernel), by decide +kernel, ⟨_, rfl, rfl⟩, ⟨_, _, _, _, _, _, _, rfl, by decide +kernel, by decide +kernel, fun env => ⟨_, rfl⟩, fun env => rfl, fun env => rfl⟩⟩
theorem xb2 : XBind xr2 := fun _ _ _ _ _ _ _ us hl => match us, hl with | [_, _], _ => rfl
theorem xt3 : XText xr3.ps xr3.fl xr3.scope xr3.params xr3.body := ⟨NdefX.nscope_by (by decide +kernel), by decide +kernel, ⟨_, rfl, rfl⟩, ⟨_, _, _, _, _, _, _, rfl, by decide +kernel, by decide +kernel, fun env => ⟨_, rfl⟩, fun env => rfl, fun env => rfl⟩⟩
theorem xb3 : XBind xr3 := fun _ _ _ _ _ _ _ us hl => match us, hl with | [_, _], _ => rfl
theorem xt4 : XText xr4.ps xr4.fl xr4.scope xr4.params xr4.body := ⟨NdefX.nscope_by (by decide +kernel), by decide +kernel, ⟨_, rfl, rfl⟩, ⟨_, _, _, _, _, _, _, rfl, by decide +kernel, by decide +kernel, fun env => ⟨_, rfl⟩, fun env => rfl, fun env => rfl⟩⟩
theorem xb4 : XBind xr4 := fun _ _ _ _ _ _ _ us hl => match us, hl with | [_], _ => rfl
theorem xt5 : XText xr5.ps xr5.fl xr5.scope xr5.params xr5.body := ⟨NdefX.nscope_by (by decide +kernel), by decide +kernel, ⟨_, rfl, rfl⟩, ⟨_, _, _, _, _, _, _, rfl, by decide +kernel, by decide +kernel, fun env => ⟨_, rfl⟩, fun env => rfl, fun env => rfl⟩⟩
theorem xb5 : XBind xr5 := fun _ _ _ _ _ _ _ us hl => match us, hl with | [_, _], _ => rfl
theorem xall : AllX pr.xin := ⟨⟨xt1, xb1⟩, ⟨⟨xt2, xb2⟩, ⟨⟨xt3, xb3⟩, ⟨⟨xt4, xb4⟩, ⟨⟨xt5, xb5⟩, trivial⟩⟩⟩⟩⟩
theorem xok : pr.xok = true := by decide +kernel
abbrev Rw : PySem.W.OpenRow := PySem.W.OpenLaw.row PySem.Challenge.rw_lastanswers_k04_deeds_refused
abbrev hk : PySem.W.Hook := hookB 6 pr
def ob (s : PySem.W.SharedT) : AlL := obsBG 6 pr (HandSHeadRun.getT s)
theorem ob_eq (s : PySem.W.SharedT) : ob s = hk.obs s.abs := obsBG_eq (HandSHeadRun.getT_eq s)
def loose0 : List PySem.Str := [("_wall" : PySem.Str), ("PileError" : PySem.Str), ("BadSize" : PySem.Str), ("BadKind" : PySem.Str), ("BadOff" : PySem.Str), ("BadTable" : PySem.Str), ("BadDeed" : PySem.Str), ("LETTERS" : PySem.Str), ("LONGEST" : PySem.Str), ("DOES" : PySem.Str), ("AIM" : PySem.Str), ("UP" : PySem.Str), ("DOWN" : PySem.Str), ("SET" : PySem.Str), ("MOVE" : PySem.Str), ("OFF" : PySem.Str), ("COPY" : PySem.Str), ("TURN" : PySem.Str), ("MOST_KINDS" : PySem.Str), ("MOST_STEPS" : PySem.Str)]
def loose1 : List PySem.Str := [("MOST_OFFS" : PySem.Str), ("is_integer" : PySem.Str), ("is_below" : PySem.Str), ("is_name" : PySem.Str), ("is_size" : PySem.Str), ("is_step" : PySem.Str), ("is_act" : PySem.Str), ("is_test" : PySem.Str), ("are_answers" : PySem.Str), ("is_kind" : PySem.Str), ("check_kinds" : PySem.Str), ("is_effect_of" : PySem.Str), ("is_off" : PySem.Str), ("check_offs" : PySem.Str), ("is_table_of" : PySem.Str), ("Game" : PySem.Str), ("turned" : PySem.Str), ("LAY" : PySem.Str), ("RESOLVE" : PySem.Str), ("resolved" : PySem.Str)]
def loose2 : List PySem.Str := [("is_deed" : PySem.Str), ("behind" : PySem.Str), ("Record" : PySem.Str), ("replay" : PySem.Str), ("_law_draws" : PySem.Str), ("_law_pick" : PySem.Str), ("_law_step" : PySem.Str), ("_law_act" : PySem.Str), ("_law_kind" : PySem.Str), ("_law_off" : PySem.Str), ("_law_drawn" : PySem.Str), ("_law_made" : PySem.Str), ("_law_effects" : PySem.Str), ("_law_can_lay" : PySem.Str), ("_law_moved" : PySem.Str), ("_law_resolved" : PySem.Str), ("_law_told" : PySem.Str)]
abbrev loose : List PySem.Str := loose0 ++ loose1 ++ loose2
open PySem.W PySem.Calls
theorem runA (w : World) (os : OsState) : (HandSHeadRun.endF (HandSHeadRun.stepQ (HandSHeadRun.denQ HandSHeadRun.tabQ) Rw.prog w) 8500 Rw.prog w os).map (fun s => HandSHeadRun.looksF Rw.prog (boot_heap w.params) s.abs) = some (true) := by
  kernel_rfl
theorem runB (w : World) (os : OsState) : (HandSHeadRun.endF (HandSHeadRun.stepQ (HandSHeadRun.denQ HandSHeadRun.tabQ) Rw.prog w) 8500 Rw.prog w os).map (fun s => HandSHeadRun.seenQ (PySem.W.view Rw.prog [61]) loose (importedModules Rw.prog.main.body) (fun s => xlAt (PySem.W.view Rw.prog [61]) [] s && recOk Rw.toRowW.records s) s.abs) = some (openGood (PySem.W.view Rw.prog [61]) loose) := by
  kernel_rfl
theorem runC (w : World) (os : OsState) : (HandSHeadRun.endF (HandSHeadRun.stepQ (HandSHeadRun.denQ HandSHeadRun.tabQ) Rw.prog w) 8500 Rw.prog w os).map (fun s => ((pr.fns.all (fnB (KB 6 (HandSHeadRun.getT s)))), (pr.gl.all fun q => glB pr (KB 6 (HandSHeadRun.getT s)) q.1 q.2))) = some ((true, true)) := by
  kernel_rfl
theorem runD (w : World) (os : OsState) : (HandSHeadRun.endF (HandSHeadRun.stepQ (HandSHeadRun.denQ HandSHeadRun.tabQ) Rw.prog w) 8500 Rw.prog w os).map (fun s => ((freeNames.all fun x => eqOO (PySem.W.nsIn (KB 6 (HandSHeadRun.getT s)) mainGlobals x) (some none)) && ((pr.cls.all (clB pr (KB 6 (HandSHeadRun.getT s)))) && isiB pr (KB 6 (HandSHeadRun.getT s))))) = some (true) := by
  kernel_rfl
theorem runE (w : World) (os : OsState) : (HandSHeadRun.endF (HandSHeadRun.stepQ (HandSHeadRun.denQ HandSHeadRun.tabQ) Rw.prog w) 8500 Rw.prog w os).map (fun s => ((pr.fns.map fun r => fnAt (KB 6 (HandSHeadRun.getT s)) (r.ad (KB 6 (HandSHeadRun.getT s)))), (obsL pr (KB 6 (HandSHeadRun.getT s))).2.2)) = some ((pr.fns.map FR.val, (valL pr).2.2)) := by
  kernel_rfl
theorem runF (w : World) (os : OsState) : (HandSHeadRun.endF (HandSHeadRun.stepQ (HandSHeadRun.denQ HandSHeadRun.tabQ) Rw.prog w) 8500 Rw.prog w os).map (fun s => (xinB pr (KB 6 (HandSHeadRun.getT s)) && kinB pr (KB 6 (HandSHeadRun.getT s)))) = some (true) := by
  kernel_rfl
theorem runO (w : World) (os : OsState) : (HandSHeadRun.endF (HandSHeadRun.stepQ (HandSHeadRun.denQ HandSHeadRun.tabQ) Rw.prog w) 8500 Rw.prog w os).map (fun s => ob s) = some (valL pr) := by
  have c := runC w os
  have d := runD w os
  have e := runE w os
  have f := runF w os
  generalize (HandSHeadRun.endF (HandSHeadRun.stepQ (HandSHeadRun.denQ HandSHeadRun.tabQ) Rw.prog w) 8500 Rw.prog w os) = X at c d e f ⊢
  cases X with
  | none => cases c
  | some s => exact obs_join (Option.some.inj c) (Option.some.inj d) (Option.some.inj e) (Option.some.inj f)
theorem run (w : World) : HandSHeadRun.RunEq Rw (PySem.W.view Rw.prog [61]) hk ob 8500 loose w := fun os => map_two (runA w os) (map_two (runB w os) (runO w os))
theorem pg_eq : pr.pg = Pu.pgL := by kernel_rfl
theorem pureLaw : ∀ (ns : List Int) (b : Bool), ns.length ≤ 63 → (∀ z ∈ ns, Builtin.Int.intBits z ≤ 1048576) → ∃ S', LA.call pr.pg 40 (10 + 1) 32 [.obj 0] [.lst (ns.map D.int) b] = some (.ok (.bl true), S') := by
  rw [pg_eq]
  exact fun ns b _ _ => Pu.law_pure ns b
end LA
open PySem PySem.W PySem.Calls PyProof.Rows
theorem PySem.Challenge.cw_lastanswers_k04_deeds_refused_holds : PySem.Challenge.rw_lastanswers_k04_deeds_refused.Holds := by
  w_on; o_law
  refine HandSHeadRun.head_any (r := LA.Rw) (q := view LA.Rw.prog [61]) (H := LA.hk) (ob := LA.ob) (M := 8500) (loose := LA.loose) (d := HandSHeadRun.topDef LA.Rw.prog 61) (kwd := []) LA.ob_eq
    (by kernel_rfl) (fun s => by kernel_rfl) LA.run (by kernel_rfl) (by kernel_rfl) (by kernel_rfl) (by rfl) (by first | assumption | decide +kernel) (by decide +kernel) ⟨rfl, rfl, rfl, rfl, rfl, by decide +kernel⟩ ?hw ?hc
  case hw => w_witness2
  case hc =>
    refine LamX.walk_ofTsE (l := PySem.Challenge.rw_lastanswers_k04_deeds_refused) (n := 63) (k := 2 * (10 + 1) + 2) (x := "_law_script") (CX := fun w => L2.CX PySem.Challenge.rw_lastanswers_k04_deeds_refused.prog w) rfl (by decide) (by kernel_rfl) ⟨rfl, by decide, by decide⟩ ?F (fun w H s e s' h => ?G)
    case G =>
      obtain ⟨_, _, _, _, _, _, _, _, _, _, _, _, z⟩ := h
      exact z
    case F =>
      intro w mg fa h Y G hmg0
      obtain ⟨K, KX, nls, c⟩ := Y
      have hmg : mg ("law" : PySem.Str) = some (.ref fa) := by
        have e : (HandSHeadRun.topDef LA.Rw.prog 61).name = ("law" : PySem.Str) := by kernel_rfl
        rw [← e]
        exact hmg0
      exact ⟨K, KX, LA.law_at (w := w) (f := 32) (r := LA.fr32) (N := 40) (j := 10) KX G nls c LA.prok LA.hbA hmg (by kernel_rfl) rfl (x := "_law_script") (by kernel_rfl) (fun base i C ci m h1 h2 h3 => LA.ex_all KX G c LA.xok (fun r hr => LA.xall.mem r hr) (by kernel_rfl) (by kernel_rfl) i C ci m h1 h2 h3) (fun base hK hn f ks fa h1 h2 => (by cases h1)) (fun base i j C C' ci h1 h2 h3 => LA.exm_all c (by decide +kernel) i j C C' ci h1 h2 h3) (fun base hK hn _ => LA.kinG_ok hK hn c (by rfl)) (fun base _ => LA.xf_all c LA.xok) LA.pureLaw⟩
