import PyProof.Rows.All
import Wide.All
import OpenK.AllK
import Wide.FinOn
import PyProof.ReprReads
import KE.SortKeyed
import KE.DataCmp
import HandS.Lambda
import HandS.ForMost
import HandS.ForExc
import HandS.TryMany
import HandS.TryOnly
import HandS.Flow
import HandS.Wide
import HandS.TupAny
import HandS.TupMul
import HandS.CallSlots
import HandS.IsInst
import HandS.ExcOwn
import HandS.ExcField
import HandS.RaiseMore
import HandS.EndBits
import HandS.Conv
import KE.DataMinMax
import KE.SortData
import KE.DatumIndex
import KE.DataEq
import HandS.Style
import HandS.EndTab
import PySem.Challenge.RW_roundsalike_k21_whole_rounds
import KE.DatumOrd
import PyProof.ReprLen
set_option Elab.async false
set_option autoImplicit false
/-! A1: a small interpreter. Values D, the store, expressions E, statements St; what each call gives. -/
namespace RA
open PySem (Str PyData)

/-- values: immutable data, the place of a changing thing in the store, a def, a class -/
inductive D where
  | non | bl (b : Bool) | int (i : Int) | str (s : Str)
  | tup (ds : List D) | vl (ds : List D) | ro (ds : List D) | vd (ks vs : List D)
  | ref (n : Nat) | fn (i : Nat) | ty (n : String)

/-- what changes: a list -/
inductive SO where
  | lst (ds : List D)

abbrev Store := List SO
/-- an exception: its class's number, what it keeps -/
structure Exn where
  k : Nat
  fs : List (Str × D)
inductive Res (α : Type) where
  | ok (a : α) (S : Store)
  | exc (x : Exn) (S : Store)
  | bad
@[simp] def Res.bind {α β : Type} : Res α → (α → Store → Res β) → Res β
  | .ok a S, f => f a S
  | .exc x S, _ => .exc x S
  | .bad, _ => .bad
/-- where no exception may leave -/
@[simp] def Res.noexc {α : Type} : Res α → Res α
  | .ok a S => .ok a S
  | _ => .bad
/-- of an option -/
@[simp] def lift {α : Type} (S : Store) : Option α → Res α
  | some a => .ok a S
  | none => .bad
abbrev Sig := List (Option D)

mutual
/-- two values are surely the same -/
def D.beq : D → D → Bool
  | .non, .non => true
  | .bl a, .bl b => a == b
  | .int a, .int b => a == b
  | .str a, .str b => decide (a = b)
  | .tup a, .tup b => D.beqs a b
  | .vl a, .vl b => D.beqs a b
  | .ro a, .ro b => D.beqs a b
  | .vd a b, .vd c d => D.beqs a c && D.beqs b d
  | .ref a, .ref b => a == b
  | .fn a, .fn b => a == b
  | .ty a, .ty b => a == b
  | _, _ => false
def D.beqs : List D → List D → Bool
  | [], [] => true
  | a :: r, b :: s => D.beq a b && D.beqs r s
  | _, _ => false
end

mutual
/-- a value as data; r: what stands at a place of the store -/
def toP (r : Nat → Option PyData) : D → Option PyData
  | .non => some .none
  | .bl b => some (.bool b)
  | .int i => some (.int i)
  | .str s => some (.str s)
  | .tup ds => (toPs r ds).map .tuple
  | .vl ds => (toPs r ds).map .list
  | .ro ds => (toPs r ds).map .list
  | .vd _ _ => none
  | .ref n => r n
  | .fn _ => none
  | .ty _ => none
def toPs (r : Nat → Option PyData) : List D → Option (List PyData)
  | [] => some []
  | d :: ds => (toP r d).bind fun x => (toPs r ds).map fun xs => x :: xs
end
/-- what stands in the store, as data, to the depth k -/
def deep : Nat → Store → Nat → Option PyData
  | 0, _, _ => none
  | k + 1, S, n => match S[n]? with
    | some (.lst ds) => (toPs (deep k S) ds).map .list
    | none => none
def pd (S : Store) (d : D) : Option PyData := toP (deep 8 S) d
def pds (S : Store) (ds : List D) : Option (List PyData) := toPs (deep 8 S) ds

/-- the items of a list -/
def asL (S : Store) : D → Option (List D)
  | .vl ds => some ds
  | .ref n => match S[n]? with
    | some (.lst ds) => some ds
    | none => none
  | _ => none
/-- the items of a list or a tuple -/
def asQ (S : Store) : D → Option (List D)
  | .tup ds => some ds
  | .ro ds => some ds
  | d => asL S d
def intsOf : List D → Option (List Int)
  | [] => some []
  | .int i :: r => (intsOf r).map fun l => i :: l
  | _ => none
def boolsOf : List D → Option (List Bool)
  | [] => some []
  | .bl b :: r => (boolsOf r).map fun l => b :: l
  | _ => none

def LINE : Nat := 16777216
/-- the truth of a value -/
def truth (S : Store) : D → Option Bool
  | .non => some false
  | .bl b => some b
  | .int i => some (i != 0)
  | .str s => if s.length ≤ LINE then some ((s.length : Int) != 0) else none
  | .tup ds => some !ds.isEmpty
  | .vl ds => some !ds.isEmpty
  | .ro ds => some !ds.isEmpty
  | .ref n => match S[n]? with
    | some (.lst ds) => some !ds.isEmpty
    | none => none
  | _ => none

inductive BOp where | add | sub | mul | fdiv | mod | pow
  deriving DecidableEq
inductive COp where | eq | ne | lt | le | gt | ge | is | isn | isin | nin
  deriving DecidableEq
inductive BF where | len | abs | max | min | sum | all | any | sorted | tuple | list | int | str | repr | isinst
  deriving DecidableEq
inductive SK where | val | rng1 | rng2 | enum | zip
  deriving DecidableEq

def rep (k : Int) (ds : List D) : List D := (List.replicate k.toNat ds).flatten
/-- a text, k times -/
def strTimes (a : Str) (k : Int) : Str := if k < 1 then Str.empty else if (k == 1 || a.length == 0) = true then a else ⟨(List.replicate k.toNat a.cps).foldl (· ++ ·) #[]⟩
/-- the operators -/
def binop (S : Store) : BOp → D → D → Option D
  | .add, .int i, .int j => some (.int (i + j))
  | .add, .str a, .str b => if a.length + b.length ≤ LINE then some (.str (a ++ b)) else none
  | .add, .tup a, .tup b => if a.length + b.length ≤ LINE then some (.tup (a ++ b)) else none
  | .add, x, y => (asL S x).bind fun a => (asL S y).bind fun b => if a.length + b.length ≤ LINE then some (.vl (a ++ b)) else none
  | .sub, .int i, .int j => some (.int (i - j))
  | .mul, .int i, .int j => if i.natAbs.log2 + j.natAbs.log2 < 1000000 then some (.int (i * j)) else none
  | .mul, .str a, .int k => if -1000 ≤ k ∧ k ≤ 1000 ∧ a.length ≤ 1000 then some (.str (strTimes a k)) else none
  | .mul, .tup a, .int k => if -1000 ≤ k ∧ k ≤ 1000 ∧ a.length ≤ 1000 then some (.tup (rep k a)) else none
  | .mul, x, .int k => (asL S x).bind fun a => if -1000 ≤ k ∧ k ≤ 1000 ∧ a.length ≤ 1000 then some (.vl (rep k a)) else none
  | .fdiv, .int i, .int j => if j ≠ 0 ∧ j.natAbs.log2 < 9000 then some (.int (i.fdiv j)) else none
  | .mod, .int i, .int j => if j ≠ 0 then some (.int (i.fmod j)) else none
  | .pow, .int i, .int j => if 0 ≤ j ∧ j ≤ 1000 ∧ i.natAbs.log2 < 1000 then some (.int (i ^ j.toNat)) else none
  | _, _, _ => none

/-- ==, to a small depth of one side -/
def eqd (S : Store) (x y : D) : Option Bool := (pd S x).bind fun p => (pd S y).bind fun q => if min p.depth q.depth ≤ 60 then some (p.eqv q) else none
/-- one of two ints, or of two texts, stands ahead -/
def lts : D → D → Option Bool
  | .int i, .int j => some (decide (i < j))
  | .str a, .str b => some (decide (a.cps.toList < b.cps.toList))
  | _, _ => none
def les : D → D → Option Bool
  | .int i, .int j => some (decide (i ≤ j))
  | _, _ => none
def sameAs : D → D → Option Bool
  | x, .non => some (match x with | .non => true | _ => false)
  | .bl a, .bl b => some (a == b)
  | _, _ => none
def isIn (S : Store) (x y : D) : Option Bool :=
  match x, y with
  | .str a, .str b => some (!(PySem.Builtin.Str.occurrences b a 0 b.length 1).isEmpty)
  | x, y => (asQ S y).bind fun ds => (pd S x).bind fun p => (pds S ds).bind fun qs => if p.depth ≤ 60 then some (qs.any fun q => q.eqv p) else none
def cmpop (S : Store) : COp → D → D → Option D
  | .eq, x, y => (eqd S x y).map .bl
  | .ne, x, y => (eqd S x y).map fun b => .bl (!b)
  | .lt, x, y => (lts x y).map .bl
  | .le, x, y => (les x y).map .bl
  | .gt, x, y => (lts y x).map .bl
  | .ge, x, y => (les y x).map .bl
  | .is, x, y => (sameAs x y).map .bl
  | .isn, x, y => (sameAs x y).map fun b => .bl (!b)
  | .isin, x, y => (isIn S x y).map .bl
  | .nin, x, y => (isIn S x y).map fun b => .bl (!b)

def natIx (n : Nat) (i : Int) : Option Nat := if 0 ≤ i then (if i < n then some i.toNat else none) else if -(n : Int) ≤ i then some (i + n).toNat else none
/-- x[i] -/
def sub (S : Store) (x i : D) : Option D :=
  match i with
  | .int k => match x with
    | .str s => if s.length ≤ LINE then (natIx s.length k).bind fun j => (s.cps[j]?).map fun c => .str ⟨#[c]⟩ else none
    | x => (asQ S x).bind fun ds => (natIx ds.length k).bind fun j => ds[j]?
  | _ => none
/-- the bounds of a slice -/
def bound : D → Option (Option Int)
  | .non => some none
  | .int i => some (some i)
  | _ => none
def six (n d : Nat) : Option Int → Nat
  | none => d
  | some v => if v < 0 then (v + (n : Int)).toNat else min v.toNat n
def cut {α : Type} (xs : List α) (lo hi : Option Int) : List α := (xs.drop (six xs.length 0 lo)).take (six xs.length xs.length hi - six xs.length 0 lo)
def slice2 (S : Store) (x : D) (a b : Option Int) : Option D :=
  match x with
  | .tup ds => some (.tup (cut ds a b))
  | .str _ => none
  | x => (asL S x).map fun ds => .vl (cut ds a b)
/-- x[lo:hi] -/
def slice (S : Store) (x lo hi : D) : Option D := (bound lo).bind fun a => (bound hi).bind fun b => slice2 S x a b
def rev (S : Store) : D → Option D
  | .tup ds => some (.tup ds.reverse)
  | x => (asL S x).map fun ds => .vl ds.reverse

mutual
/-- data without anything that changes, without lists -/
def pureD : D → Bool
  | .non => true
  | .bl _ => true
  | .int _ => true
  | .str _ => true
  | .tup ds => pureDs ds
  | _ => false
def pureDs : List D → Bool
  | [] => true
  | d :: ds => pureD d && pureDs ds
end
def leastBy {α : Type} (lt : α → α → Bool) : α → List α → α
  | b, [] => b
  | b, x :: r => leastBy lt (if lt x b then x else b) r
def alikes (ps : List PyData) : Bool := ps.all fun p => ps.all fun q => PySem.W.alike p q
/-- min and max of many: the first of the least, of the greatest -/
def best (S : Store) (gt : Bool) (ds : List D) : Option D := (pds S ds).bind fun ps =>
  match ds.zip ps with
  | [] => none
  | x :: r => if alikes ps = true ∧ PyData.depthAll ps ≤ 60 ∧ pureDs ds = true ∧ (ps.all fun p => match p with | .none => false | _ => true) = true then
      some (leastBy (fun a b => if gt then PySem.W.dataLt b.2 a.2 else PySem.W.dataLt a.2 b.2) x r).1 else none
/-- sorted(x), by the data -/
def srt (S : Store) (ds : List D) : Option (List D) := (pds S ds).bind fun ps =>
  if alikes ps = true ∧ PyData.depthAll ps ≤ 60 ∧ ((ps.all fun p => match p with | .tuple (_ :: _) => true | _ => false) = true ∨ (ps.all fun p => match p with | .tuple _ => false | .none => false | _ => true) = true) then
    some (((ds.zip ps).mergeSort fun a b => PySem.W.dataLe false (fun p : D × PyData => p.2) a b).map (·.1)) else none
def tyOf : D → Option String
  | .non => some "NoneType"
  | .bl _ => some "bool"
  | .int _ => some "int"
  | .str _ => some "str"
  | .tup _ => some "tuple"
  | .vl _ => some "list"
  | .ro _ => some "list"
  | .vd _ _ => some "dict"
  | _ => none
def known (t : String) : Bool := t == "int" || t == "str" || t == "bool" || t == "tuple" || t == "list" || t == "dict"
def isTy (x : D) (t : String) : Option Bool := if known t = true then (tyOf x).map fun a => a == t || (a == "bool" && t == "int") else none
def chars (s : Str) : List D := s.cps.toList.map fun c => .str ⟨#[c]⟩
def one {α : Type} (f : D → Option α) : List D → Option α
  | [x] => f x
  | _ => none
def two {α : Type} (f : D → D → Option α) : List D → Option α
  | [x, y] => f x y
  | _ => none
def lenD (S : Store) : D → Option D
  | .str s => if s.length ≤ LINE then some (.int s.length) else none
  | x => (asQ S x).map fun ds => .int ds.length
def absD : D → Option D
  | .int i => some (.int (if i < 0 then -i else i))
  | _ => none
def max2 : D → D → Option D
  | .int i, .int j => some (.int (if j > i then j else i))
  | _, _ => none
def min2 : D → D → Option D
  | .int i, .int j => some (.int (if j < i then j else i))
  | _, _ => none
def intD : D → Option D
  | .int i => some (.int i)
  | .bl b => some (.int (if b then 1 else 0))
  | _ => none
def strD : D → Option D
  | .int i => if i.natAbs.log2 < 1920 then some (.str (toString i)) else none
  | .str s => some (.str s)
  | _ => none
def reprD (S : Store) (x : D) : Option D := (pd S x).bind fun p => if p.showable = true ∧ p.depth ≤ 60 ∧ p.shown.length + 64 ≤ LINE then some (.str p.shown) else none
def isinstD (S : Store) : D → D → Option D
  | .ref n, .ty t => match S[n]? with
    | some (.lst _) => (isTy (.vl []) t).map .bl
    | none => none
  | x, .ty t => (isTy x t).map .bl
  | _, _ => none
/-- the built-in functions -/
def bcall (S : Store) : BF → List D → Option D
  | .len, ds => one (lenD S) ds
  | .abs, ds => one absD ds
  | .max, ds => match ds with
    | [x] => (asQ S x).bind (best S true)
    | ds => two max2 ds
  | .min, ds => match ds with
    | [x] => (asQ S x).bind (best S false)
    | ds => two min2 ds
  | .sum, ds => one (fun x => (asL S x).bind fun ds => (intsOf ds).map fun l => .int l.sum) ds
  | .all, ds => one (fun x => (asL S x).bind fun ds => (boolsOf ds).map fun l => .bl (l.all id)) ds
  | .any, ds => one (fun x => (asL S x).bind fun ds => (boolsOf ds).map fun l => .bl (l.any id)) ds
  | .sorted, ds => one (fun x => (asQ S x).bind fun ds => (srt S ds).map .vl) ds
  | .tuple, ds => one (fun x => (asQ S x).map .tup) ds
  | .list, ds => one (fun x => (asQ S x).map .vl) ds
  | .int, ds => one intD ds
  | .str, ds => one strD ds
  | .repr, ds => one (reprD S) ds
  | .isinst, ds => two (isinstD S) ds

/-- what a for or a comprehension walks: the items; where it is a list of the store, its place -/
def srcOf (S : Store) : SK → List D → Option (List D × Option Nat)
  | .val, [.ref n] => match S[n]? with
    | some (.lst ds) => some (ds, some n)
    | none => none
  | .val, [.vl ds] => some (ds, none)
  | .val, [.ro ds] => some (ds, none)
  | .val, [.tup ds] => some (ds, none)
  | .val, [.str s] => some (chars s, none)
  | .rng1, [.int j] => if -(2 ^ 62) ≤ j ∧ j < 2 ^ 62 then some ((List.range j.toNat).map fun i => .int (0 + (i : Nat)), none) else none
  | .rng2, [.int i, .int j] => if -(2 ^ 62) ≤ i ∧ i < 2 ^ 62 ∧ -(2 ^ 62) ≤ j ∧ j < 2 ^ 62 then some ((List.range (j - i).toNat).map fun k => .int (i + (k : Nat)), none) else none
  | .enum, [.vl ds] => some (ds.zipIdx.map fun p => .tup [.int p.2, p.1], none)
  | .enum, [.tup ds] => some (ds.zipIdx.map fun p => .tup [.int p.2, p.1], none)
  | .zip, [x, y] => match x, y with
    | .vl a, .vl b => some ((a.zip b).map fun p => .tup [p.1, p.2], none)
    | .tup a, .tup b => some ((a.zip b).map fun p => .tup [p.1, p.2], none)
    | .vl a, .tup b => some ((a.zip b).map fun p => .tup [p.1, p.2], none)
    | .tup a, .vl b => some ((a.zip b).map fun p => .tup [p.1, p.2], none)
    | _, _ => none
  | _, _ => none
/-- the list that is walked stands as it was -/
def still (S : Store) : List D × Option Nat → Bool
  | (_, none) => true
  | (ds, some n) => match S[n]? with
    | some (.lst es) => D.beqs ds es
    | none => false
/-- names get values -/
def setAll (σ : Sig) : List Nat → List D → Option Sig
  | [], [] => some σ
  | i :: r, d :: ds => setAll (σ.set i (some d)) r ds
  | _, _ => none
/-- the target of a loop: one name, or some -/
def target (σ : Sig) (tup : Bool) (is : List Nat) (d : D) : Option Sig :=
  if tup then (match d with | .tup ds => setAll σ is ds | _ => none)
  else match is with | [i] => some (σ.set i (some d)) | _ => none
def wipe (σ : Sig) : List Nat → Sig
  | [] => σ
  | v :: vs => (wipe σ vs).set v none

inductive E where
  | var (i : Nat)
  | con (d : D)
  | bin (op : BOp) (a b : E)
  | neg (a : E)
  | not (a : E)
  | and (a b : E)
  | or (a b : E)
  | cmp (op : COp) (a b : E)
  | chain (o1 o2 : COp) (a b c : E)
  | ife (c a b : E)
  | tup (es : List E)
  | lst (es : List E)
  /-- a new list that will change -/
  | new (e : E)
  | sub (a i : E)
  | slice (a lo hi : E)
  | rev (a : E)
  | call (f : Nat) (es : List E)
  | callv (f : E) (es : List E)
  | bcall (f : BF) (es : List E)
  | append (o e : E)
  | pop (o i : E)
  | comp (own : List Nat) (tup : Bool) (tgt : List Nat) (sk : SK) (es : List E) (ifs : E) (elt : E)
  /-- the call of what was handed in -/
  | thunk
  /-- a call of a def with a lambda -/
  | lam (f : Nat) (body : E)
  /-- what the exception at hand keeps -/
  | exf (n : Str)
  /-- an int -/
  | ofInt (a : E)

mutual
inductive St where
  | asg (i : Nat) (e : E)
  | asgT (is : List Nat) (e : E)
  | par (is : List Nat) (es : List E)
  | seti (o i e : E)
  | exp (e : E)
  | ret (e : E)
  | ite (c : E) (a b : List St)
  | loop (tup : Bool) (tgt : List Nat) (sk : SK) (es : List E) (body : List St)
  | while (c : E) (body : List St)
  | raise (k : Nat) (es : List E)
  | tri (body : List St) (hs : List Hd)
  | pass
  /-- what is not covered -/
  | stuck
inductive Hd where
  | mk (k : Nat) (slot : Option Nat) (body : List St)
end

/-- the world of a body: the defs, what was handed in, the exception at hand, how often a while may turn -/
structure Ora where
  fn : Nat → List D → Store → Res D
  lam : Nat → (Store → Res D) → Store → Res D
  th : Store → Res D
  ex : Option Exn
  turns : Nat

/-- a comprehension's loop -/
def compL {α : Type} (step : α → Store → Res (Option D)) (g : Store → Bool) : List α → Store → List D → Res (List D)
  | [], S, acc => if g S then .ok acc S else .bad
  | d :: r, S, acc => if g S then (step d S).bind fun o S1 => match o with
      | some y => if acc.length < LINE then compL step g r S1 (acc ++ [y]) else .bad
      | none => compL step g r S1 acc
    else .bad

mutual
def evalE (C : Ora) : E → Sig → Store → Res D
  | .var i, σ, S => match σ[i]? with
    | some (some d) => .ok d S
    | _ => .bad
  | .con d, _, S => .ok d S
  | .bin op a b, σ, S => (evalE C a σ S).bind fun x S => (evalE C b σ S).bind fun y S => lift S (binop S op x y)
  | .neg a, σ, S => (evalE C a σ S).bind fun x S => match x with
    | .int i => .ok (.int (-i)) S
    | _ => .bad
  | .not a, σ, S => (evalE C a σ S).bind fun x S => lift S ((truth S x).map fun b => .bl (!b))
  | .and a b, σ, S => (evalE C a σ S).bind fun x S => (lift S (truth S x)).bind fun k S => if k then evalE C b σ S else .ok x S
  | .or a b, σ, S => (evalE C a σ S).bind fun x S => (lift S (truth S x)).bind fun k S => if k then .ok x S else evalE C b σ S
  | .cmp op a b, σ, S => (evalE C a σ S).bind fun x S => (evalE C b σ S).bind fun y S => lift S (cmpop S op x y)
  | .chain o1 o2 a b c, σ, S => (evalE C a σ S).bind fun x S => (evalE C b σ S).bind fun y S => (lift S (cmpop S o1 x y)).bind fun k S => match k with
    | .bl true => (evalE C c σ S).bind fun z S => lift S (cmpop S o2 y z)
    | .bl false => .ok (.bl false) S
    | _ => .bad
  | .ife c a b, σ, S => (evalE C c σ S).bind fun x S => (lift S (truth S x)).bind fun k S => if k then evalE C a σ S else evalE C b σ S
  | .tup es, σ, S => (evalEs C es σ S).bind fun ds S => .ok (.tup ds) S
  | .lst es, σ, S => (evalEs C es σ S).bind fun ds S => .ok (.vl ds) S
  | .new e, σ, S => (evalE C e σ S).bind fun d S => match d with
    | .vl ds => .ok (.ref S.length) (S ++ [.lst ds])
    | _ => .bad
  | .sub a i, σ, S => (evalE C a σ S).bind fun x S => (evalE C i σ S).bind fun y S => lift S (sub S x y)
  | .slice a lo hi, σ, S => (evalE C a σ S).bind fun x S => (evalE C lo σ S).bind fun y S => (evalE C hi σ S).bind fun z S => lift S (slice S x y z)
  | .rev a, σ, S => (evalE C a σ S).bind fun x S => lift S (rev S x)
  | .call f es, σ, S => (evalEs C es σ S).bind fun ds S => C.fn f ds S
  | .callv f es, σ, S => (evalE C f σ S).bind fun x S => match x with
    | .fn i => (evalEs C es σ S).bind fun ds S => C.fn i ds S
    | _ => .bad
  | .bcall f es, σ, S => (evalEs C es σ S).bind fun ds S => lift S (bcall S f ds)
  | .append o e, σ, S => (evalE C o σ S).bind fun x S => match x with
    | .ref n => (evalE C e σ S).bind fun y S => match S[n]? with
      | some (.lst ds) => if ds.length < LINE then .ok .non (S.set n (.lst (ds ++ [y]))) else .bad
      | none => .bad
    | _ => .bad
  | .pop o i, σ, S => (evalE C o σ S).bind fun x S => match x with
    | .ref n => (evalE C i σ S).bind fun y S => match y with
      | .int k => if -(2 ^ 62) ≤ k ∧ k < 2 ^ 62 then (match S[n]? with
        | some (.lst ds) => match natIx ds.length k with
          | some j => match ds[j]? with
            | some d => .ok d (S.set n (.lst (ds.eraseIdx j)))
            | none => .bad
          | none => .bad
        | none => .bad) else .bad
      | _ => .bad
    | _ => .bad
  | .comp own tup tgt sk es ifs elt, σ, S => (evalEs C es σ S).bind fun ds S => match srcOf S sk ds with
    | none => .bad
    | some it => (compL (fun d S => match target (wipe σ own) tup tgt d with
        | none => .bad
        | some σ2 => ((evalE C ifs σ2 S).noexc).bind fun b S => (lift S (truth S b)).bind fun k S =>
            if k then ((evalE C elt σ2 S).noexc).bind fun y S => .ok (some y) S else .ok none S) (fun S => still S it) it.1 S []).bind fun l S => .ok (.vl l) S
  | .thunk, _, S => C.th S
  | .lam f body, σ, S => C.lam f (fun S => evalE C body σ S) S
  | .exf n, _, S => match C.ex with
    | some x => lift S (x.fs.lookup n)
    | none => .bad
  | .ofInt a, σ, S => (evalE C a σ S).bind fun d S => match d with
    | .int i => .ok (.int i) S
    | _ => .bad
def evalEs (C : Ora) : List E → Sig → Store → Res (List D)
  | [], _, S => .ok [] S
  | e :: es, σ, S => (evalE C e σ S).bind fun d S => (evalEs C es σ S).bind fun ds S => .ok (d :: ds) S
end

/-- where a statement leads -/
inductive Out where
  | nx (σ : Sig)
  | ret (d : D)
def forL (step : D → Sig → Store → Res Out) (g : Store → Bool) : List D → Sig → Store → Res Out
  | [], σ, S => if g S then .ok (.nx σ) S else .bad
  | d :: r, σ, S => if g S then (step d σ S).bind fun o S => match o with
      | .nx σ => forL step g r σ S
      | .ret x => .ok (.ret x) S
    else .bad
def whileL (step : Sig → Store → Res (Option Out)) : Nat → Sig → Store → Res Out
  | 0, _, _ => .bad
  | k + 1, σ, S => (step σ S).bind fun o S => match o with
    | none => .ok (.nx σ) S
    | some (.nx σ) => whileL step k σ S
    | some (.ret x) => .ok (.ret x) S
/-- the classes: which is one of which; the names of what they keep -/
structure Cls where
  sub : Nat → Nat → Bool
  keeps : Nat → List Str
mutual
def execS (T : Cls) (C : Ora) : St → Sig → Store → Res Out
  | .asg i e, σ, S => (evalE C e σ S).bind fun d S => .ok (.nx (σ.set i (some d))) S
  | .asgT is e, σ, S => (evalE C e σ S).bind fun d S => (lift S (target σ true is d)).bind fun σ S => .ok (.nx σ) S
  | .par is es, σ, S => (evalEs C es σ S).bind fun ds S => (lift S (setAll σ is ds)).bind fun σ S => .ok (.nx σ) S
  | .seti o i e, σ, S => (evalE C e σ S).bind fun v S => (evalE C o σ S).bind fun x S => (evalE C i σ S).bind fun y S => match x, y with
    | .ref n, .int k => match S[n]? with
      | some (.lst ds) => match natIx ds.length k with
        | some j => .ok (.nx σ) (S.set n (.lst (ds.set j v)))
        | none => .bad
      | none => .bad
    | _, _ => .bad
  | .exp e, σ, S => (evalE C e σ S).bind fun _ S => .ok (.nx σ) S
  | .ret e, σ, S => (evalE C e σ S).bind fun d S => .ok (.ret d) S
  | .ite c a b, σ, S => (evalE C c σ S).bind fun x S => (lift S (truth S x)).bind fun k S => if k then execs T C a σ S else execs T C b σ S
  | .loop tup tgt sk es body, σ, S => (evalEs C es σ S).bind fun ds S => match srcOf S sk ds with
    | none => .bad
    | some it => forL (fun d σ S => match target σ tup tgt d with
        | none => .bad
        | some σ2 => execs T C body σ2 S) (fun S => still S it) it.1 σ S
  | .while c body, σ, S => whileL (fun σ S => (evalE C c σ S).bind fun x S => (lift S (truth S x)).bind fun k S =>
      if k then (execs T C body σ S).bind fun o S => .ok (some o) S else .ok none S) C.turns σ S
  | .raise k es, σ, S => (evalEs C es σ S).bind fun ds S => .exc ⟨k, (T.keeps k).zip ds⟩ S
  | .tri body hs, σ, S => match execs T C body σ S with
    | .exc x S => handle T C x hs (σ.map fun _ => none) S
    | r => r
  | .pass, σ, S => .ok (.nx σ) S
  | .stuck, _, _ => .bad
def execs (T : Cls) (C : Ora) : List St → Sig → Store → Res Out
  | [], σ, S => .ok (.nx σ) S
  | s :: r, σ, S => (execS T C s σ S).bind fun o S => match o with
    | .nx σ => execs T C r σ S
    | .ret d => .ok (.ret d) S
def handle (T : Cls) (C : Ora) (x : Exn) : List Hd → Sig → Store → Res Out
  | [], _, S => .exc x S
  | .mk k _ body :: r, σ, S => if T.sub x.k k then (execs T { C with ex := some x } body σ S).noexc else handle T C x r σ S
end

structure Fn where
  np : Nat
  ns : Nat
  body : List St
def start (n : Nat) (ds : List D) : Sig := ds.map some ++ List.replicate (n - ds.length) none
def fin : Res Out → Res D
  | .ok (.nx _) S => .ok .non S
  | .ok (.ret d) S => .ok d S
  | .exc x S => .exc x S
  | .bad => .bad
/-- behind a call within a try -/
def lamEnd (T : Cls) (C : Ora) (n : Nat) (hs : List Hd) (rest : List St) (r : Res Out) : Res D := fin ((match r with
  | .exc x S' => handle T C x hs (List.replicate n none) S'
  | r => r).bind fun o S => match o with
    | .nx σ => execs T C rest σ S
    | .ret d => .ok (.ret d) S)
/-- a def that is handed a lambda: it calls it first, within a try -/
def lamRun (T : Cls) (C : Ora) (n : Nat) (body : List St) (th : Store → Res D) (S : Store) : Res D := match body with
  | .tri [.exp .thunk] hs :: rest => lamEnd T C n hs rest ((th S).bind fun _ S => .ok (.nx (List.replicate n none)) S)
  | .tri [.ret .thunk] hs :: rest => lamEnd T C n hs rest ((th S).bind fun d S => .ok (.ret d) S)
  | _ => .bad
def ora0 (fn : Nat → List D → Store → Res D) (W : Nat) : Ora := { fn := fn, lam := fun _ _ _ => .bad, th := fun _ => .bad, ex := none, turns := W }
def ora1 (T : Cls) (Γ : List Fn) (fn : Nat → List D → Store → Res D) (W : Nat) : Ora :=
  { fn := fn, lam := fun g th S => match Γ[g]? with
      | none => .bad
      | some gn => lamRun T (ora0 fn W) gn.ns gn.body th S,
    th := fun _ => .bad, ex := none, turns := W }
/-- the calls to the level k -/
def callF (T : Cls) (Γ : List Fn) (W : Nat) : Nat → Nat → List D → Store → Res D
  | 0, _, _, _ => .bad
  | k + 1, f, ds, S => match Γ[f]? with
    | none => .bad
    | some fn => if ds.length = fn.np then fin (execs T (ora1 T Γ (callF T Γ W k) W) fn.body (start fn.ns ds) S) else .bad
end RA

set_option autoImplicit false
/-! A2: from the program's trees to the interpreter's. -/
namespace RA
open PySem (Str Scope Pos Stmt Expr Operator CmpOp Const NameKind ExceptHandler Comprehension Keyword)

/-- what is known where a tree stands -/
structure Cc where
  /-- the slots -/
  N : List Str
  sc : Scope
  /-- the defs, the constants, the exceptions' classes of the module -/
  fns : List (Str × Nat)
  cons : List (Str × D)
  clss : List (Str × Nat)
  /-- the defs that are handed a lambda -/
  lams : List (Str × Nat)
  /-- where lists are made that will change -/
  news : List (Nat × Nat)
  /-- names that may be set -/
  fn : Str → Bool
  /-- a def's body, a comprehension's block (not an except's suite) -/
  calm : Bool
  /-- a def's body -/
  top : Bool

def okName (x : Str) : Bool := !(x == ("__debug__" : Str)) && !(x == ("__classdict__" : Str)) && !(x == ("__name__" : Str))
def seen (sc : Scope) (x : Str) : Bool := match sc.names.lookup x with
  | some .local => true
  | some .cell => true
  | some .free => true
  | _ => false
def slotIn (N : List Str) (x : Str) : Option Nat := match N.findIdx? (· == x) with
  | some i => if N[i]? = some x then some i else none
  | none => none
def slotOf (c : Cc) (x : Str) : Option Nat := if okName x && seen c.sc x then slotIn c.N x else none
def isLoc (sc : Scope) (x : Str) : Bool := match sc.names.lookup x with
  | some .local => true
  | some .cell => true
  | _ => false
def plainLoc (sc : Scope) (x : Str) : Bool := match sc.names.lookup x with
  | some .local => true
  | _ => false
/-- a name that may be set -/
def setOf (c : Cc) (x : Str) : Option Nat := if isLoc c.sc x && (c.fn x || plainLoc c.sc x) then slotIn c.N x else none
def isGlob (sc : Scope) (x : Str) : Bool := match sc.names.lookup x with
  | some .globalImplicit => true
  | _ => false
def bltOf (x : Str) : Option BF :=
  if x = "len" then some .len else if x = "abs" then some .abs else if x = "max" then some .max else if x = "min" then some .min else if x = "sum" then some .sum
  else if x = "all" then some .all else if x = "any" then some .any else if x = "tuple" then some .tuple else if x = "list" then some .list else if x = "int" then some .int
  else if x = "str" then some .str else if x = "repr" then some .repr else if x = "isinstance" then some .isinst else none
def tyName (x : Str) : Option String :=
  if x = "int" then some "int" else if x = "str" then some "str" else if x = "bool" then some "bool" else if x = "tuple" then some "tuple" else if x = "list" then some "list" else if x = "dict" then some "dict" else none
def bopOf : Operator → Option BOp
  | .Add => some .add
  | .Sub => some .sub
  | .Mult => some .mul
  | .FloorDiv => some .fdiv
  | .Mod => some .mod
  | .Pow => some .pow
  | _ => none
def copOf : CmpOp → COp
  | .Eq => .eq
  | .NotEq => .ne
  | .Lt => .lt
  | .LtE => .le
  | .Gt => .gt
  | .GtE => .ge
  | .Is => .is
  | .IsNot => .isn
  | .In => .isin
  | .NotIn => .nin
def isNew (c : Cc) (p : Pos) : Bool := c.news.any fun q => q.1 == p.line && q.2 == p.col
/-- a list that is made at p -/
def made (c : Cc) (p : Pos) (e : E) : E := if isNew c p then .new e else e
def isSet : Expr → Bool
  | .Set .. => true
  | _ => false
def isStar : Expr → Bool
  | .Starred .. => true
  | _ => false
def isSlice : Expr → Bool
  | .Slice .. => true
  | .Tuple .. => true
  | _ => false
def isName : Expr → Bool
  | .Name .. => true
  | .Subscript .. => true
  | _ => false
def noTest : Expr → Bool
  | .IfExp .. => true
  | _ => false
def isOneRev : Option Expr → Option Expr → Option Expr → Bool
  | none, none, some (.UnaryOp .USub (.Constant (.int i) _ _) _) => i == 1
  | _, _, _ => false
def ownOf (N : List Str) (scope : Scope) : List (Str × Nat) := scope.names.filterMap fun (n, k) => match k with
  | .local => (slotIn N n).map fun i => (n, i)
  | .cell => (slotIn N n).map fun i => (n, i)
  | _ => none
def ownIx (N : List Str) (scope : Scope) : List Nat := (ownOf N scope).map Prod.snd
def blkCc (c : Cc) (scope : Scope) : Cc := { c with sc := L2.relS scope c.sc, fn := fun x => scope.names.lookup x == some .cell, top := false }
def lamCc (c : Cc) (scope : Scope) : Cc := { c with sc := scope, fn := fun _ => false, top := false }
def cName (c : Cc) (x : Str) : Option E := match slotOf c x with
  | some i => some (.var i)
  | none => if okName x && isGlob c.sc x then (match c.cons.lookup x with
    | some d => some (.con d)
    | none => match c.fns.lookup x with
      | some i => some (.con (.fn i))
      | none => (tyName x).map fun t => .con (.ty t)) else none
def cConst : Const → Option D
  | .int i => some (.int i)
  | .str s => some (.str s)
  | .bool b => some (.bl b)
  | .none => some .non
  | _ => none
/-- the names of a target -/
def cNames (c : Cc) : List Expr → Option (List Nat)
  | [] => some []
  | .Name x _ :: r => (setOf c x).bind fun i => (cNames c r).map fun l => i :: l
  | _ => none
def cTarget (c : Cc) : Expr → Option (Bool × List Nat)
  | .Name x _ => (setOf c x).map fun i => (false, [i])
  | .Tuple es _ _ => if c.calm then (cNames c es).map fun l => (true, l) else none
  | _ => none
def nodup : List Str → Bool
  | [] => true
  | x :: r => !r.contains x && nodup r
def noParams : PySem.Arguments → Bool
  | ⟨[], [], none, [], [], none, []⟩ => true
  | _ => false
def boolE : PySem.BoolOp → E → E → E
  | .And, x, y => .and x y
  | .Or, x, y => .or x y
mutual
def cE : Nat → Cc → Expr → Option E
  | 0, _, _ => none
  | n + 1, c, e => match e with
    | .Name x _ => cName c x
    | .Constant k _ _ => (cConst k).map .con
    | .BinOp a op b pos => (bopOf op).bind fun o => (cE n c a).bind fun x => (cE n c b).bind fun y => if isNew c pos then (if o = .add || o = .mul then some (.new (.bin o x y)) else none) else some (.bin o x y)
    | .UnaryOp op a _ => match op with
      | .Not => (cE n c a).bind fun x => if noTest a then none else some (.not x)
      | .USub => (cE n c a).map .neg
      | _ => none
    | .BoolOp op vs _ => cB n c op vs
    | .IfExp t a b _ => if noTest t then none else (cE n c t).bind fun x => (cE n c a).bind fun y => (cE n c b).map fun z => .ife x y z
    | .Compare a ops bs _ => match ops, bs with
      | [op], [b] => if isSet b then none else (cE n c a).bind fun x => (cE n c b).map fun y => .cmp (copOf op) x y
      | [o1, o2], [b, d] => if isSet b || isSet d then none else (cE n c a).bind fun x => (cE n c b).bind fun y => (cE n c d).map fun z => .chain (copOf o1) (copOf o2) x y z
      | _, _ => none
    | .Tuple es _ _ => if es.length ≤ 1000 then (cEs n c es).map .tup else none
    | .List es pos => if es.length ≤ 1000 then (cEs n c es).map fun l => made c pos (.lst l) else none
    | .Subscript a i _ => match i with
      | .Slice lo hi st _ => if isOneRev lo hi st then (cE n c a).map .rev else match st with
        | none => (cE n c a).bind fun x => (cO n c lo).bind fun y => (cO n c hi).map fun z => .slice x y z
        | _ => none
      | i => if isSlice i then none else (cE n c a).bind fun x => (cE n c i).map fun y => .sub x y
    | .Call f es ks pos => match ks with
      | [] => match f with
        | .Name x _ => cCall n c x es pos
        | .Attribute o x apos => match es with
          | [e] => if isName o && !isStar e && (apos.endLine == pos.line) && c.calm then (cE n c o).bind fun a => (cE n c e).bind fun b => if x = "append" then some (.append a b) else if x = "pop" then some (.pop a b) else none else none
          | _ => none
        | _ => none
      | _ => none
    | .ListComp elt gs scope pos => (cL n c elt gs scope).map (made c pos)
    | .Dict ks vs _ => match ks, vs with
      | [], [] => some (.con (.vd [] []))
      | _, _ => none
    | _ => none
def cB : Nat → Cc → PySem.BoolOp → List Expr → Option E
  | 0, _, _, _ => none
  | n + 1, c, op, vs => match vs with
    | [a] => if noTest a then none else cE n c a
    | a :: b :: r => if noTest a then none else (cE n c a).bind fun x => (cB n c op (b :: r)).map fun y => boolE op x y
    | _ => none
def cEs : Nat → Cc → List Expr → Option (List E)
  | 0, _, _ => none
  | n + 1, c, es => match es with
    | [] => some []
    | e :: r => if isStar e then none else (cE n c e).bind fun x => (cEs n c r).map fun l => x :: l
def cO : Nat → Cc → Option Expr → Option E
  | 0, _, _ => none
  | n + 1, c, o => match o with
    | none => some (.con .non)
    | some e => (cE n c e).map .ofInt
def cCall : Nat → Cc → Str → List Expr → Pos → Option E
  | 0, _, _, _, _ => none
  | n + 1, c, x, es, pos => if !okName x then none else match es with
    | [] => none
    | [.Lambda ps body scope _] => if c.top && isGlob c.sc x && noParams ps && LamX.lamSB c.sc scope then (c.lams.lookup x).bind fun i => (cE n (lamCc c scope) body).map fun b => .lam i b else none
    | e :: r => if !c.calm && !(x = "repr" || x = "str") then none else match slotOf c x with
      | some i => if c.calm then (cEs n c (e :: r)).map fun l => .callv (.var i) l else none
      | none => if isGlob c.sc x then (match c.fns.lookup x with
        | some i => if c.calm then (cEs n c (e :: r)).map fun l => .call i l else none
        | none => (bltOf x).bind fun f => (cEs n c (e :: r)).bind fun l => if isNew c pos then (if f = .list then some (.new (.bcall f l)) else none) else some (.bcall f l)) else none
def cI : Nat → Cc → Expr → Option (SK × List E)
  | 0, _, _ => none
  | n + 1, c, e => match e with
    | .Call (.Name x _) [a] [] _ => if x = "range" && isGlob c.sc x && !isStar a then (cE n c a).map fun y => (.rng1, [y]) else (cE n c e).map fun y => (.val, [y])
    | .Call (.Name x _) [a, b] [] _ => if x = "range" && isGlob c.sc x && !isStar a && !isStar b then (cE n c a).bind fun y => (cE n c b).map fun z => (.rng2, [y, z]) else (cE n c e).map fun y => (.val, [y])
    | .Set .. => none
    | e => (cE n c e).map fun y => (.val, [y])
def cL : Nat → Cc → Expr → List Comprehension → Scope → Option E
  | 0, _, _, _, _ => none
  | n + 1, c, elt, gs, scope => if !c.calm then none else match gs with
    | [⟨tg, iter, ifs, 0⟩] => (cI n c iter).bind fun (it : SK × List E) => if L2.blkC c.N c.sc scope (ownOf c.N scope) then (cTarget (blkCc c scope) tg).bind fun (t : Bool × List Nat) =>
        if t.2.all (fun i => (ownIx c.N scope).contains i) then (match ifs with
          | [] => some (E.con (.bl true))
          | [t] => if noTest t then none else cE n (blkCc c scope) t
          | _ => none).bind fun (f : E) => (cE n (blkCc c scope) elt).map fun y => .comp (ownIx c.N scope) t.1 t.2 it.1 it.2 f y else none
      else none
    | _ => none
end
def isComp : Expr → Bool
  | .ListComp .. => true
  | .SetComp .. => true
  | .DictComp .. => true
  | _ => false
/-- a comprehension goes to the name x at p within the line -/
def swaps (c : Cc) (x : Str) (p : Pos) : Expr → Bool
  | .ListComp _ _ scope pos => (match c.sc.kind with | .function => true | _ => false) && plainLoc c.sc x && (p.line == pos.line) && !(scope.names.any fun (n, k) => n == x && (k == .local || k == .cell))
  | _ => false
def isTuple : Expr → Bool
  | .Tuple .. => true
  | _ => false
def suiteCc (c : Cc) : Cc := { c with calm := false, top := false }
/-- X('..') -/
def cRaise (c : Cc) : Expr → Option Nat
  | .Call (.Name x _) [.Constant (.str _) _ _] [] _ => if okName x && isGlob c.sc x then c.clss.lookup x else none
  | _ => none
/-- a, b = x, y: the stores are swapped -/
def parGood (c : Cc) (x y : Str) (px py : Pos) (vs : List Expr) : Bool := plainLoc c.sc x && plainLoc c.sc y && !(x == y) && (px.line == py.line) && (match c.sc.kind with | .function => true | _ => false) &&
  !(vs.any isStar) && !(vs.all (PySem.foldedForSure 8)) && !(vs.all (PySem.constantsAlone 8))
def oneOf : List Expr → Option Expr
  | [t] => some t
  | _ => none
def eltsOf : Expr → List Expr
  | .Tuple vs _ _ => vs
  | _ => []
def cPar (n : Nat) (c : Cc) : List Expr → List Expr → Option St
  | [.Name x px, .Name y py], [a, b] => if parGood c x y px py [a, b] && c.calm then (setOf c x).bind fun i => (setOf c y).bind fun j => (cEs n c [a, b]).map fun l => .par [i, j] l else none
  | _, _ => none
def cAsg (n : Nat) (c : Cc) (t e : Expr) : Option St := match t with
  | .Name x p => if isComp e && !swaps c x p e then none else (setOf c x).bind fun i => (cE n c e).map fun v => .asg i v
  | .Tuple ts k q => if isTuple e then cPar n c ts (eltsOf e) else if isComp e then none else (cTarget c (.Tuple ts k q)).bind fun t => (cE n c e).map fun v => .asgT t.2 v
  | .Subscript o i _ => if isComp e || isSlice i then none else (cE n c e).bind fun v => (cE n c o).bind fun x => (cE n c i).map fun y => .seti x y v
  | _ => none
mutual
def cS : Nat → Cc → Stmt → Option St
  | 0, _, _ => none
  | n + 1, c, s => match s with
    | .Assign ts e _ => (oneOf ts).bind fun t => cAsg n c t e
    | .Expr e _ => if isComp e then none else (cE n c e).map .exp
    | .Return o _ => match o with
      | none => some (.ret (.con .non))
      | some e => (cE n c e).map .ret
    | .If t a b _ => if noTest t then none else (cE n c t).bind fun x => (cSs n c a).bind fun y => (cSs n c b).map fun z => .ite x y z
    | .For tg iter body orelse _ => match orelse with
      | [] => if c.calm then (cI n c iter).bind fun (it : SK × List E) => (cTarget c tg).bind fun (t : Bool × List Nat) => (cSs n c body).map fun b => .loop t.1 t.2 it.1 it.2 b else none
      | _ => none
    | .While t body orelse _ => match orelse with
      | [] => if noTest t then none else if c.calm then (cE n c t).bind fun x => (cSs n c body).map fun b => .while x b else none
      | _ => none
    | .Raise (some e) none _ => if c.calm then (cRaise c e).map fun k => .raise k [] else none
    | .Try body hds orelse fin _ => match orelse, fin with
      | [], [] => if c.top && c.calm then (cSs n { c with top := false } body).bind fun b => (cHs n c hds).bind fun l => match l with | [] => none | _ => some (.tri b l) else none
      | _, _ => none
    | .Pass _ => some .pass
    | _ => none
def cSs : Nat → Cc → List Stmt → Option (List St)
  | 0, _, _ => none
  | n + 1, c, ss => match ss with
    | [] => some []
    | s :: r => (cSs n c r).map fun l => (cS n c s).getD .stuck :: l
def cHs : Nat → Cc → List ExceptHandler → Option (List Hd)
  | 0, _, _ => none
  | n + 1, c, hs => match hs with
    | [] => some []
    | .ExceptHandler (some (.Name x _)) none (b :: body) _ :: r => if okName x && isGlob c.sc x then (c.clss.lookup x).bind fun k => (cSs n (suiteCc c) (b :: body)).bind fun y => (cHs n c r).map fun l => .mk k none y :: l else none
    | _ => none
end
/-- the body of a def that is handed a lambda as a -/
def cLam (n : Nat) (c : Cc) (a : Str) : List Stmt → Option (List St)
  | .Try [.Expr (.Call (.Name x _) [] [] _) _] hds [] [] _ :: rest => if x = a ∧ hds ≠ [] then (cHs n c hds).bind fun l => (cSs n c rest).map fun r => .tri [.exp .thunk] l :: r else none
  | .Try [.Return (some (.Call (.Name x _) [] [] _)) _] hds [] [] _ :: rest => if x = a ∧ hds ≠ [] then (cHs n c hds).bind fun l => (cSs n c rest).map fun r => .tri [.ret .thunk] l :: r else none
  | _ => none
end RA

set_option Elab.async false
set_option linter.all false
set_option maxRecDepth 100000
set_option maxHeartbeats 4000000
set_option autoImplicit false
/-! B1: how values of the interpreter stand in the heap of the hand layer. -/
namespace RA
open PySem L2 LamX

/-- a list of the written part -/
def KL (K : PySem.W.Frag) (a : Addr) (xs : List V) : Prop :=
  ∃ (o : Obj) (its : Array Value) (n : Nat), K.lookup a = some o ∧ o.cls = .type "list" ∧ o.dict = none ∧ o.data = .seq its n ∧ its.size ≤ sizeLine ∧ Vals xs its.toList

/-- where the store's things stand; what no value may lead to (a list that is being made) -/
structure Mm where
  l : List Addr
  b : List Addr
def Mm.out (m : Mm) (a : Addr) : Prop := a ∉ m.l ∧ a ∉ m.b

/-- what is fixed: the written part, the tables of code objects, the addresses of the defs, of the exceptions' classes -/
structure Gd where
  K : PySem.W.Frag
  T : List (Addr × Str)
  FA : Nat → Option Addr
  CA : Nat → Option Addr

section
variable (G : Gd)
mutual
inductive VR (m : Mm) (H : Hp) : V → D → Prop where
  | non : VR m H .non .non
  | bl (b : Bool) : VR m H (.bl b) (.bl b)
  | int (i : Int) : VR m H (.int i) (.int i)
  | str (s : Str) : VR m H (.str s) (.str s)
  | tup {a : Addr} {xs : List V} {ds : List D} : SqT G.K H a xs → VRs m H xs ds → VR m H (.ref a) (.tup ds)
  | vl {a : Addr} {xs : List V} {ds : List D} : H a = some (.lst xs) → m.out a → VRs m H xs ds → VR m H (.ref a) (.vl ds)
  | ro {a : Addr} {xs : List V} {ds : List D} : (Rd H a (.lst xs) ∧ m.out a) ∨ KL G.K a xs → VRs m H xs ds → VR m H (.ref a) (.ro ds)
  | vd {a : Addr} {kvs : List (Key × V)} {ks vs : List D} : Rd H a (.dK kvs) → m.out a → VRs m H (kvs.map fun p => kV p.1) ks → VRs m H (kvs.map (·.2)) vs → VR m H (.ref a) (.vd ks vs)
  | ref {n : Nat} {a : Addr} : m.l[n]? = some a → VR m H (.ref a) (.ref n)
  | fn {i : Nat} {f : Addr} : G.FA i = some f → VR m H (.ref f) (.fn i)
  | ty (n : String) : VR m H (.ty n) (.ty n)
inductive VRs (m : Mm) (H : Hp) : List V → List D → Prop where
  | nil : VRs m H [] []
  | cons {x : V} {d : D} {xs : List V} {ds : List D} : VR m H x d → VRs m H xs ds → VRs m H (x :: xs) (d :: ds)
end
end

/-- the store stands in the heap -/
structure Cf (G : Gd) (m : Mm) (S : Store) (H : Hp) : Prop where
  len : m.l.length = S.length
  nd : m.l.Nodup
  at_ : ∀ (n : Nat) (ds : List D), S[n]? = some (.lst ds) → ∃ a xs, m.l[n]? = some a ∧ H a = some (.lst xs) ∧ VRs G m H xs ds
  bn : ∀ a ∈ m.b, ∃ xs, H a = some (.lst xs)
  tabs : Tabs G.T H
/-- all but a table of code objects -/
def NoTbl (o : HO) : Prop := ∀ ps, o ≠ .tbl ps
/-- free, but for a table -/
def Fr (H : Hp) (a : Addr) : Prop := ∀ o, H a = some o → ∃ ps, o = .tbl ps
theorem Fr.of {H : Hp} {a : Addr} (h : H a = none) : Fr H a := fun o e => by rw [h] at e; cases e
theorem Fr.no {H : Hp} {a : Addr} {o : HO} (h : Fr H a) (e : H a = some o) (n : NoTbl o) : False := by
  obtain ⟨ps, z⟩ := h o e
  exact n ps z
/-- what may have happened: new things; the store's own things changed -/
structure Stp (m : Mm) (H : Hp) (m' : Mm) (H' : Hp) : Prop where
  more : ∃ t, m'.l = m.l ++ t ∧ ∀ a ∈ t, Fr H a
  ban : m'.b = m.b
  keep : ∀ a o, H a = some o → NoTbl o → a ∉ m.l → H' a = some o
  there : ∀ a, Fr H' a → Fr H a
/-- the frame's values -/
structure SR (G : Gd) (m : Mm) (H : Hp) (σ : L2.St) (τ : Sig) : Prop where
  len : σ.length = τ.length
  at_ : ∀ (i : Nat) (d : D), τ[i]? = some (some d) → ∃ v, σ[i]? = some (some v) ∧ VR G m H v d
/-- an exception -/
def ER (G : Gd) (m : Mm) (H : Hp) (cls : Value) (dd : Option Addr) (x : Exn) : Prop :=
  ∃ c, G.CA x.k = some c ∧ cls = .ref c ∧ ((x.fs = [] ∧ dd = none) ∨ ∃ d fs, dd = some d ∧ H d = some (.xd fs) ∧ ∀ n v, x.fs.lookup n = some v → ∃ u, fs.lookup n = some u ∧ VR G m H u v)

variable {G : Gd} {m m' m1 m2 : Mm} {S S' S1 : Store} {H H' H1 H2 : Hp} {σ σ' : L2.St} {τ τ' : Sig}

theorem NoTbl.lst {xs : List V} : NoTbl (.lst xs) := fun _ z => by cases z
theorem NoTbl.tup {xs : List V} : NoTbl (.tup xs) := fun _ z => by cases z
theorem NoTbl.dK {xs : List (Key × V)} : NoTbl (.dK xs) := fun _ z => by cases z
theorem NoTbl.xd {xs : List (Str × V)} : NoTbl (.xd xs) := fun _ z => by cases z
theorem NoTbl.frz {o : Obj} {u : HO} : NoTbl (.frz o u) := fun _ z => by cases z
/-- a tracked thing that is no table and no code object changes, or comes -/
theorem tabs_upd {T : List (Addr × Str)} {H : Hp} {a : Addr} {o : HO} (t : Tabs T H) (ha : H a = none ∨ ∃ xs, H a = some (.lst xs)) : Tabs T (upd H a o) := fun p hp => by
  obtain ⟨ps, h1, h2, h3⟩ := t p hp
  have ne : ∀ b u, H b = some u → (∀ xs, u ≠ .lst xs) → b ≠ a := fun b u e n z => by
    subst z
    rcases ha with ha | ⟨xs, ha⟩
    · rw [ha] at e; cases e
    · rw [ha] at e; exact n xs (Option.some.inj e).symm
  refine ⟨ps, by rw [upd_ne (ne _ _ h1 fun _ z => by cases z)]; exact h1, h2, fun pos cv e => ?_⟩
  obtain ⟨c, e1, e2⟩ := h3 pos cv e
  exact ⟨c, e1, by rw [upd_ne (ne _ _ e2 fun _ z => by unfold CodeO at z; cases z)]; exact e2⟩
theorem Stp.refl : Stp m H m H := ⟨⟨[], by simp, fun _ h => nomatch h⟩, rfl, fun _ _ h _ _ => h, fun _ h => h⟩
theorem Stp.trans (a : Stp m H m1 H1) (b : Stp m1 H1 m2 H2) : Stp m H m2 H2 := by
  obtain ⟨⟨t, e, f⟩, b1, k, h⟩ := a
  obtain ⟨⟨u, e', f'⟩, b2, k', h'⟩ := b
  refine ⟨⟨t ++ u, by rw [e', e, List.append_assoc], fun a ha => ?_⟩, b2.trans b1, fun a o h1 hn hm => ?_, fun a z => h a (h' a z)⟩
  · rcases List.mem_append.mp ha with z | z
    · exact f a z
    · exact h a (f' a z)
  · refine k' a o (k a o h1 hn hm) hn fun z => ?_
    rw [e] at z
    rcases List.mem_append.mp z with z | z
    · exact hm z
    · exact (f a z).no h1 hn
theorem Stp.notin (st : Stp m H m' H') {a : Addr} {o : HO} (h : H a = some o) (hn : NoTbl o) (hm : a ∉ m.l) : a ∉ m'.l := by
  obtain ⟨t, e, f⟩ := st.more
  rw [e]
  intro z
  rcases List.mem_append.mp z with z | z
  · exact hm z
  · exact (f a z).no h hn
theorem Stp.out (st : Stp m H m' H') {a : Addr} {o : HO} (h : H a = some o) (hn : NoTbl o) (hm : m.out a) : m'.out a := ⟨st.notin h hn hm.1, by rw [st.ban]; exact hm.2⟩
theorem Stp.at_ (st : Stp m H m' H') {n : Nat} {a : Addr} (h : m.l[n]? = some a) : m'.l[n]? = some a := by
  obtain ⟨t, e, _⟩ := st.more
  rw [e, List.getElem?_append_left (List.getElem?_eq_some_iff.mp h).1]; exact h
/-- what a place of the store is -/
theorem Cf.of_mem (c : Cf G m S H) {a : Addr} (h : a ∈ m.l) : ∃ xs, H a = some (.lst xs) := by
  obtain ⟨n, hn, e⟩ := List.mem_iff_getElem.mp h
  have hs : n < S.length := c.len ▸ hn
  cases q : S[n] with
  | lst ds =>
    obtain ⟨b, xs, e1, e2, _⟩ := c.at_ n ds (by rw [List.getElem?_eq_getElem hs, q])
    rw [List.getElem?_eq_getElem hn, e] at e1
    cases e1
    exact ⟨xs, e2⟩
theorem Cf.tup_notin (c : Cf G m S H) {a : Addr} {xs : List V} (h : Rd H a (.tup xs)) : a ∉ m.l := fun z => by
  obtain ⟨ys, e⟩ := c.of_mem z
  rcases h with h | ⟨o, h⟩ <;> (rw [h] at e; cases e)
theorem Rd.step {a : Addr} {o : HO} (st : Stp m H m' H') (h : Rd H a o) (hn : NoTbl o) (hm : a ∉ m.l) : Rd H' a o := by
  rcases h with h | ⟨u, h⟩
  · exact .inl (st.keep _ _ h hn hm)
  · exact .inr ⟨u, st.keep _ _ h NoTbl.frz hm⟩
theorem Rd.out {a : Addr} {o : HO} (st : Stp m H m' H') (h : Rd H a o) (hn : NoTbl o) (hm : m.out a) : m'.out a := by
  rcases h with h | ⟨u, h⟩
  · exact st.out h hn hm
  · exact st.out h NoTbl.frz hm
theorem SqT.step {a : Addr} {xs : List V} (c : Cf G m S H) (st : Stp m H m' H') (h : SqT G.K H a xs) : SqT G.K H' a xs := by
  rcases h with h | h
  · exact .inl (Rd.step st h NoTbl.tup (c.tup_notin h))
  · exact .inr h
mutual
theorem VR.step (c : Cf G m S H) (st : Stp m H m' H') : ∀ {v : V} {d : D}, VR G m H v d → VR G m' H' v d
  | _, _, .non => .non
  | _, _, .bl b => .bl b
  | _, _, .int i => .int i
  | _, _, .str s => .str s
  | _, _, .tup h r => .tup (SqT.step c st h) (VRs.step c st r)
  | _, _, .vl h hm r => .vl (st.keep _ _ h NoTbl.lst hm.1) (st.out h NoTbl.lst hm) (VRs.step c st r)
  | _, _, .ro h r => .ro (by
      rcases h with ⟨h, hm⟩ | h
      · exact .inl ⟨Rd.step st h NoTbl.lst hm.1, Rd.out st h NoTbl.lst hm⟩
      · exact .inr h) (VRs.step c st r)
  | _, _, .vd h hm r q => .vd (Rd.step st h NoTbl.dK hm.1) (Rd.out st h NoTbl.dK hm) (VRs.step c st r) (VRs.step c st q)
  | _, _, .ref h => .ref (st.at_ h)
  | _, _, .fn h => .fn h
  | _, _, .ty n => .ty n
theorem VRs.step (c : Cf G m S H) (st : Stp m H m' H') : ∀ {vs : List V} {ds : List D}, VRs G m H vs ds → VRs G m' H' vs ds
  | _, _, .nil => .nil
  | _, _, .cons a b => .cons (VR.step c st a) (VRs.step c st b)
end
theorem SR.step (c : Cf G m S H) (st : Stp m H m' H') (r : SR G m H σ τ) : SR G m' H' σ τ := ⟨r.len, fun i d h => by
  obtain ⟨v, e, q⟩ := r.at_ i d h
  exact ⟨v, e, q.step c st⟩⟩
theorem VRs.length : ∀ {vs : List V} {ds : List D}, VRs G m H vs ds → vs.length = ds.length
  | _, _, .nil => rfl
  | _, _, .cons _ t => by rw [List.length_cons, List.length_cons, VRs.length t]
theorem VRs.get : ∀ {vs : List V} {ds : List D} {i : Nat} {d : D}, VRs G m H vs ds → ds[i]? = some d → ∃ v, vs[i]? = some v ∧ VR G m H v d
  | _, _, _, _, .nil, e => by simp at e
  | _, _, 0, _, .cons r _, e => by simp at e; subst e; exact ⟨_, rfl, r⟩
  | _, _, i + 1, _, .cons _ t, e => by
    obtain ⟨u, h1, h2⟩ := VRs.get (i := i) t (by simpa using e)
    exact ⟨u, by simpa using h1, h2⟩
theorem VRs.append : ∀ {vs ws : List V} {ds es : List D}, VRs G m H vs ds → VRs G m H ws es → VRs G m H (vs ++ ws) (ds ++ es)
  | _, _, _, _, .nil, s => s
  | _, _, _, _, .cons r t, s => .cons r (VRs.append t s)
theorem VRs.set {x : V} {d : D} (r : VR G m H x d) : ∀ {xs : List V} {ds : List D} (i : Nat), VRs G m H xs ds → VRs G m H (xs.set i x) (ds.set i d)
  | _, _, _, .nil => .nil
  | _, _, 0, .cons _ t => .cons r t
  | _, _, i + 1, .cons q t => .cons q (VRs.set r i t)
theorem VRs.eraseIdx : ∀ {xs : List V} {ds : List D} (i : Nat), VRs G m H xs ds → VRs G m H (xs.eraseIdx i) (ds.eraseIdx i)
  | _, _, _, .nil => .nil
  | _, _, 0, .cons _ t => t
  | _, _, i + 1, .cons q t => .cons q (VRs.eraseIdx i t)
theorem VRs.take : ∀ {xs : List V} {ds : List D} (n : Nat), VRs G m H xs ds → VRs G m H (xs.take n) (ds.take n)
  | _, _, 0, _ => .nil
  | _, _, _ + 1, .nil => .nil
  | _, _, n + 1, .cons r t => .cons r (VRs.take n t)
theorem VRs.drop : ∀ {xs : List V} {ds : List D} (n : Nat), VRs G m H xs ds → VRs G m H (xs.drop n) (ds.drop n)
  | _, _, 0, r => r
  | _, _, _ + 1, .nil => .nil
  | _, _, n + 1, .cons _ t => VRs.drop n t
theorem VRs.reverse : ∀ {xs : List V} {ds : List D}, VRs G m H xs ds → VRs G m H xs.reverse ds.reverse
  | _, _, .nil => .nil
  | _, _, .cons r t => by rw [List.reverse_cons, List.reverse_cons]; exact (VRs.reverse t).append (.cons r .nil)
theorem VRs.ints_of : ∀ {vs : List V} {ds : List D} {l : List Int}, VRs G m H vs ds → intsOf ds = some l → vs = l.map V.int
  | _, _, _, .nil, e => by cases e; rfl
  | _, _, l, .cons (xs := xs) (ds := ds) r t, e => by
    cases r with
    | int i =>
      unfold intsOf at e
      cases q : intsOf ds with
      | none => rw [q] at e; cases e
      | some r => rw [q] at e; cases e; rw [List.map_cons, ← VRs.ints_of t q]
    | _ => cases e
theorem VRs.bools_of : ∀ {vs : List V} {ds : List D} {l : List Bool}, VRs G m H vs ds → boolsOf ds = some l → vs = l.map V.bl
  | _, _, _, .nil, e => by cases e; rfl
  | _, _, l, .cons (xs := xs) (ds := ds) r t, e => by
    cases r with
    | bl i =>
      unfold boolsOf at e
      cases q : boolsOf ds with
      | none => rw [q] at e; cases e
      | some r => rw [q] at e; cases e; rw [List.map_cons, ← VRs.bools_of t q]
    | _ => cases e
theorem VRs.of_ints : ∀ (l : List Int), VRs G m H (l.map V.int) (l.map D.int)
  | [] => .nil
  | i :: r => .cons (.int i) (VRs.of_ints r)
/-- a changed list of the store -/
theorem Cf.write (c : Cf G m S H) {n : Nat} {a : Addr} {xs ys : List V} {ds es : List D} (ha : m.l[n]? = some a) (h0 : S[n]? = some (.lst ds)) (hx : H a = some (.lst xs)) (r : VRs G m H ys es) :
    Cf G m (S.set n (.lst es)) (upd H a (.lst ys)) ∧ Stp m H m (upd H a (.lst ys)) := by
  have hm : a ∈ m.l := List.mem_of_getElem? ha
  have st : Stp m H m (upd H a (.lst ys)) := ⟨⟨[], by simp, fun _ h => nomatch h⟩, rfl, fun b o e _ hb => by
    rw [upd_ne (fun z => hb (by rw [z]; exact hm))]; exact e, fun b z => by
    by_cases e : b = a
    · exact (z.no (by rw [e, upd_same]) NoTbl.lst).elim
    · exact fun u hu => z u (by rw [upd_ne e]; exact hu)⟩
  refine ⟨⟨by rw [List.length_set]; exact c.len, c.nd, fun k fs hk => ?_, fun b hb => ?_, tabs_upd c.tabs (.inr ⟨xs, hx⟩)⟩, st⟩
  case refine_2 =>
    by_cases e : b = a
    · exact ⟨ys, by rw [e, upd_same]⟩
    · obtain ⟨zs, z⟩ := c.bn b hb
      exact ⟨zs, by rw [upd_ne e]; exact z⟩
  by_cases e : k = n
  · subst e
    have hl : k < S.length := (List.getElem?_eq_some_iff.mp h0).1
    rw [List.getElem?_set_self hl] at hk
    cases hk
    exact ⟨a, ys, ha, upd_same, r.step c st⟩
  · rw [List.getElem?_set_ne (Ne.symm e)] at hk
    obtain ⟨b, zs, e1, e2, e3⟩ := c.at_ k fs hk
    have hb : b ≠ a := fun z => by
      subst z
      obtain ⟨p1, q1⟩ := List.getElem?_eq_some_iff.mp e1
      obtain ⟨p2, q2⟩ := List.getElem?_eq_some_iff.mp ha
      exact e ((List.getElem_inj c.nd).mp (q1.trans q2.symm))
    exact ⟨b, zs, e1, by rw [upd_ne hb]; exact e2, e3.step c st⟩
/-- a new thing beside the store -/
theorem Stp.new {p : Addr} {o : HO} (hp : H p = none) : Stp m H m (upd H p o) := ⟨⟨[], by simp, fun _ h => nomatch h⟩, rfl, fun b u e _ _ => by
  rw [upd_ne (ne_of_none e hp)]; exact e, fun b z => by
    by_cases e : b = p
    · rw [e]; exact .of hp
    · exact fun u hu => z u (by rw [upd_ne e]; exact hu)⟩
theorem Cf.keep (c : Cf G m S H) (st : Stp m H m H') (h : ∀ a o, H a = some o → H' a = some o) : Cf G m S H' := ⟨c.len, c.nd, fun n ds hn => by
  obtain ⟨a, xs, e1, e2, e3⟩ := c.at_ n ds hn
  exact ⟨a, xs, e1, h a _ e2, e3.step c st⟩, fun a ha => by
  obtain ⟨xs, e⟩ := c.bn a ha
  exact ⟨xs, h a _ e⟩, c.tabs.ext h⟩
theorem Cf.new (c : Cf G m S H) {p : Addr} {o : HO} (hp : H p = none) : Cf G m S (upd H p o) := c.keep (Stp.new hp) fun a u e => by rw [upd_ne (ne_of_none e hp)]; exact e
theorem Cf.outN (c : Cf G m S H) {p : Addr} (hp : H p = none) : m.out p := by
  constructor
  · intro z
    obtain ⟨xs, e⟩ := c.of_mem z
    rw [hp] at e; cases e
  · intro z
    obtain ⟨xs, e⟩ := c.bn p z
    rw [hp] at e; cases e
/-- nothing is known of what is not tracked -/
theorem Cf.notin (c : Cf G m S H) {p : Addr} (hp : H p = none) : p ∉ m.l := fun z => by
  obtain ⟨xs, e⟩ := c.of_mem z
  rw [hp] at e; cases e

/-! ### a list that is being made -/
/-- q may be led to by nothing -/
def Mm.with (m : Mm) (q : Addr) : Mm := ⟨m.l, q :: m.b⟩
/-- q goes to the store -/
def Mm.put (m : Mm) (q : Addr) : Mm := ⟨m.l ++ [q], m.b⟩
theorem Mm.out_with {m : Mm} {q a : Addr} (h : (m.with q).out a) : m.out a ∧ a ≠ q := ⟨⟨h.1, fun z => h.2 (List.mem_cons_of_mem _ z)⟩, fun z => h.2 (by rw [z]; exact List.mem_cons_self)⟩
mutual
/-- what was known ahead of q is known beside it -/
theorem VR.ban {q : Addr} (hq : H q = none) : ∀ {v : V} {d : D}, VR G m H v d → VR G (m.with q) H v d
  | _, _, .non => .non
  | _, _, .bl b => .bl b
  | _, _, .int i => .int i
  | _, _, .str s => .str s
  | _, _, .tup h r => .tup h (VRs.ban hq r)
  | _, _, .vl h hm r => .vl h ⟨hm.1, fun z => (List.mem_cons.mp z).elim (fun e => by rw [e, hq] at h; cases h) hm.2⟩ (VRs.ban hq r)
  | _, _, .ro h r => .ro (by
      rcases h with ⟨h, hm⟩ | h
      · refine .inl ⟨h, hm.1, fun z => (List.mem_cons.mp z).elim (fun e => ?_) hm.2⟩
        rcases h with h | ⟨u, h⟩ <;> (rw [e, hq] at h; cases h)
      · exact .inr h) (VRs.ban hq r)
  | _, _, .vd h hm r s => .vd h ⟨hm.1, fun z => (List.mem_cons.mp z).elim (fun e => by rcases h with h | ⟨u, h⟩ <;> (rw [e, hq] at h; cases h)) hm.2⟩ (VRs.ban hq r) (VRs.ban hq s)
  | _, _, .ref h => .ref h
  | _, _, .fn h => .fn h
  | _, _, .ty n => .ty n
theorem VRs.ban {q : Addr} (hq : H q = none) : ∀ {vs : List V} {ds : List D}, VRs G m H vs ds → VRs G (m.with q) H vs ds
  | _, _, .nil => .nil
  | _, _, .cons a b => .cons (VR.ban hq a) (VRs.ban hq b)
end
mutual
/-- .. and free again -/
theorem VR.unban {q : Addr} : ∀ {v : V} {d : D}, VR G (m.with q) H v d → VR G m H v d
  | _, _, .non => .non
  | _, _, .bl b => .bl b
  | _, _, .int i => .int i
  | _, _, .str s => .str s
  | _, _, .tup h r => .tup h (VRs.unban r)
  | _, _, .vl h hm r => .vl h (Mm.out_with hm).1 (VRs.unban r)
  | _, _, .ro h r => .ro (by
      rcases h with ⟨h, hm⟩ | h
      · exact .inl ⟨h, (Mm.out_with hm).1⟩
      · exact .inr h) (VRs.unban r)
  | _, _, .vd h hm r s => .vd h (Mm.out_with hm).1 (VRs.unban r) (VRs.unban s)
  | _, _, .ref h => .ref h
  | _, _, .fn h => .fn h
  | _, _, .ty n => .ty n
theorem VRs.unban {q : Addr} : ∀ {vs : List V} {ds : List D}, VRs G (m.with q) H vs ds → VRs G m H vs ds
  | _, _, .nil => .nil
  | _, _, .cons a b => .cons (VR.unban a) (VRs.unban b)
end
theorem Cf.unban {q : Addr} (c : Cf G (m.with q) S H) : Cf G m S H := ⟨c.len, c.nd, fun n ds h => by
  obtain ⟨a, xs, e1, e2, e3⟩ := c.at_ n ds h
  exact ⟨a, xs, e1, e2, VRs.unban e3⟩, fun a ha => c.bn a (List.mem_cons_of_mem _ ha), c.tabs⟩
theorem Mm.put_out {m : Mm} {q a : Addr} (h : (m.with q).out a) : (m.put q).out a := ⟨fun z => (List.mem_append.mp z).elim h.1 fun z => (Mm.out_with h).2 (by simpa using z), (Mm.out_with h).1.2⟩
mutual
/-- .. or of the store -/
theorem VR.put {q : Addr} : ∀ {v : V} {d : D}, VR G (m.with q) H v d → VR G (m.put q) H v d
  | _, _, .non => .non
  | _, _, .bl b => .bl b
  | _, _, .int i => .int i
  | _, _, .str s => .str s
  | _, _, .tup h r => .tup h (VRs.put r)
  | _, _, .vl h hm r => .vl h (Mm.put_out hm) (VRs.put r)
  | _, _, .ro h r => .ro (by
      rcases h with ⟨h, hm⟩ | h
      · exact .inl ⟨h, Mm.put_out hm⟩
      · exact .inr h) (VRs.put r)
  | _, _, .vd h hm r s => .vd h (Mm.put_out hm) (VRs.put r) (VRs.put s)
  | _, _, .ref h => .ref (by
      have h' : m.l[_]? = some _ := h
      show (m.l ++ [q])[_]? = _
      rw [List.getElem?_append_left (List.getElem?_eq_some_iff.mp h').1]; exact h')
  | _, _, .fn h => .fn h
  | _, _, .ty n => .ty n
theorem VRs.put {q : Addr} : ∀ {vs : List V} {ds : List D}, VRs G (m.with q) H vs ds → VRs G (m.put q) H vs ds
  | _, _, .nil => .nil
  | _, _, .cons a b => .cons (VR.put a) (VRs.put b)
end
theorem Cf.put {q : Addr} {xs : List V} {ds : List D} (c : Cf G (m.with q) S H) (hq : H q = some (.lst xs)) (hm : q ∉ m.l) (r : VRs G (m.with q) H xs ds) : Cf G (m.put q) (S ++ [.lst ds]) H := by
  have hl : m.l.length = S.length := c.len
  refine ⟨by show (m.l ++ [q]).length = _; rw [List.length_append, List.length_append, hl]; rfl, ?_, fun n es hn => ?_, fun a ha => c.bn a (List.mem_cons_of_mem _ ha), c.tabs⟩
  · show (m.l ++ [q]).Nodup
    rw [List.nodup_append]
    refine ⟨c.nd, by simp, fun a ha b hb => ?_⟩
    have : b = q := by simpa using hb
    subst this
    exact fun z => hm (z ▸ ha)
  · by_cases h : n < S.length
    · rw [List.getElem?_append_left h] at hn
      obtain ⟨a, ys, e1, e2, e3⟩ := c.at_ n es hn
      refine ⟨a, ys, ?_, e2, VRs.put e3⟩
      show (m.l ++ [q])[n]? = _
      rw [List.getElem?_append_left (hl ▸ h)]; exact e1
    · rw [List.getElem?_append_right (Nat.le_of_not_lt h)] at hn
      have e : n - S.length = 0 := by
        cases z : n - S.length with
        | zero => rfl
        | succ k => rw [z] at hn; simp at hn
      rw [e] at hn
      simp at hn
      subst hn
      refine ⟨q, xs, ?_, hq, VRs.put r⟩
      show (m.l ++ [q])[n]? = _
      rw [List.getElem?_append_right (by rw [hl]; omega), hl, e]
      rfl
mutual
/-- the list that is being made grows: what is known stays -/
theorem VR.grow {q : Addr} {ys : List V} (hq : ∀ o, H q = some o → ∃ xs, o = .lst xs) : ∀ {v : V} {d : D}, VR G (m.with q) H v d → VR G (m.with q) (upd H q (.lst ys)) v d
  | _, _, .non => .non
  | _, _, .bl b => .bl b
  | _, _, .int i => .int i
  | _, _, .str s => .str s
  | _, _, .tup h r => .tup (by
      rcases h with (h | ⟨u, h⟩) | h
      · exact .inl (.inl (by rw [upd_ne (fun z => by obtain ⟨xs, e⟩ := hq _ (z ▸ h); cases e)]; exact h))
      · exact .inl (.inr ⟨u, by rw [upd_ne (fun z => by obtain ⟨xs, e⟩ := hq _ (z ▸ h); cases e)]; exact h⟩)
      · exact .inr h) (VRs.grow hq r)
  | _, _, .vl h hm r => .vl (by rw [upd_ne (Mm.out_with hm).2]; exact h) hm (VRs.grow hq r)
  | _, _, .ro h r => .ro (by
      rcases h with ⟨h, hm⟩ | h
      · refine .inl ⟨?_, hm⟩
        rcases h with h | ⟨u, h⟩
        · exact .inl (by rw [upd_ne (Mm.out_with hm).2]; exact h)
        · exact .inr ⟨u, by rw [upd_ne (Mm.out_with hm).2]; exact h⟩
      · exact .inr h) (VRs.grow hq r)
  | _, _, .vd h hm r s => .vd (by
      rcases h with h | ⟨u, h⟩
      · exact .inl (by rw [upd_ne (Mm.out_with hm).2]; exact h)
      · exact .inr ⟨u, by rw [upd_ne (Mm.out_with hm).2]; exact h⟩) hm (VRs.grow hq r) (VRs.grow hq s)
  | _, _, .ref h => .ref h
  | _, _, .fn h => .fn h
  | _, _, .ty n => .ty n
theorem VRs.grow {q : Addr} {ys : List V} (hq : ∀ o, H q = some o → ∃ xs, o = .lst xs) : ∀ {vs : List V} {ds : List D}, VRs G (m.with q) H vs ds → VRs G (m.with q) (upd H q (.lst ys)) vs ds
  | _, _, .nil => .nil
  | _, _, .cons a b => .cons (VR.grow hq a) (VRs.grow hq b)
end
theorem lst_only {q : Addr} {xs : List V} (hq : H q = some (.lst xs)) : ∀ o, H q = some o → ∃ xs, o = .lst xs := fun o e => ⟨xs, by rw [hq] at e; exact (Option.some.inj e).symm⟩
theorem none_only {q : Addr} (hq : H q = none) : ∀ o, H q = some o → ∃ xs, o = .lst xs := fun o e => by rw [hq] at e; cases e
theorem Cf.grow {q : Addr} {xs ys : List V} (c : Cf G (m.with q) S H) (hq : H q = some (.lst xs)) (hm : q ∉ m.l) : Cf G (m.with q) S (upd H q (.lst ys)) := ⟨c.len, c.nd, fun n ds h => by
  obtain ⟨a, zs, e1, e2, e3⟩ := c.at_ n ds h
  exact ⟨a, zs, e1, by rw [upd_ne (fun z => hm (by rw [← z]; exact List.mem_of_getElem? e1))]; exact e2, VRs.grow (lst_only hq) e3⟩, fun a ha => by
  by_cases e : a = q
  · exact ⟨ys, by rw [e, upd_same]⟩
  · obtain ⟨zs, z⟩ := c.bn a ha
    exact ⟨zs, by rw [upd_ne e]; exact z⟩, tabs_upd c.tabs (.inr ⟨xs, hq⟩)⟩
theorem SR.grow {q : Addr} {xs ys : List V} (hq : H q = some (.lst xs)) (r : SR G (m.with q) H σ τ) : SR G (m.with q) (upd H q (.lst ys)) σ τ := ⟨r.len, fun i d h => by
  obtain ⟨v, e1, e2⟩ := r.at_ i d h
  exact ⟨v, e1, e2.grow (lst_only hq)⟩⟩
/-- its making begins -/
theorem VRs.start {q : Addr} {ys : List V} (hq : H q = none) {vs : List V} {ds : List D} (r : VRs G m H vs ds) : VRs G (m.with q) (upd H q (.lst ys)) vs ds := VRs.grow (none_only hq) (VRs.ban hq r)
theorem VR.start {q : Addr} {ys : List V} (hq : H q = none) {v : V} {d : D} (r : VR G m H v d) : VR G (m.with q) (upd H q (.lst ys)) v d := VR.grow (none_only hq) (VR.ban hq r)
theorem SR.start {q : Addr} {ys : List V} (hq : H q = none) (r : SR G m H σ τ) : SR G (m.with q) (upd H q (.lst ys)) σ τ := ⟨r.len, fun i d h => by
  obtain ⟨v, e1, e2⟩ := r.at_ i d h
  exact ⟨v, e1, e2.start hq⟩⟩
theorem Cf.start {q : Addr} {ys : List V} (c : Cf G m S H) (hq : H q = none) : Cf G (m.with q) S (upd H q (.lst ys)) := ⟨c.len, c.nd, fun n ds h => by
  obtain ⟨a, zs, e1, e2, e3⟩ := c.at_ n ds h
  exact ⟨a, zs, e1, by rw [upd_ne (ne_of_none e2 hq)]; exact e2, e3.start hq⟩, fun a ha => by
  rcases List.mem_cons.mp ha with e | ha
  · exact ⟨ys, by rw [e, upd_same]⟩
  · obtain ⟨zs, z⟩ := c.bn a ha
    exact ⟨zs, by rw [upd_ne (ne_of_none z hq)]; exact z⟩, tabs_upd c.tabs (.inl hq)⟩
/-- a list's making comes behind what was ahead of it -/
theorem Stp.unban {q : Addr} (h : Stp (m.with q) H m' H') : Stp m H ⟨m'.l, m.b⟩ H' := ⟨h.more, rfl, h.keep, h.there⟩
theorem Stp.isWith {q : Addr} (h : Stp (m.with q) H m' H') : m' = (Mm.mk m'.l m.b).with q := by
  cases m' with
  | mk l b =>
    have : b = q :: m.b := h.ban
    subst this
    rfl

/-! ### what is wanted of a result -/
/-- from the store's state m, H: what each end of r must meet -/
def Post {α β : Type} (G : Gd) (m : Mm) (H : Hp) (r : Res α) (R : Mm → Hp → β → α → Prop) (Q : β → Hp → Prop) (E : Value → Option Addr → Hp → Prop) : Prop :=
  match r with
  | .ok d S' => ∀ v m' H', Cf G m' S' H' → Stp m H m' H' → R m' H' v d → Q v H'
  | .exc x S' => ∀ c d m' H', Cf G m' S' H' → Stp m H m' H' → ER G m' H' c d x → E c d H'
  | .bad => False
section
variable {α β γ δ : Type} {r : Res α} {R : Mm → Hp → β → α → Prop} {Q Q' : β → Hp → Prop} {E E' : Value → Option Addr → Hp → Prop}
theorem Post.later (st : Stp m H m1 H1) (p : Post G m H r R Q E) : Post G m1 H1 r R Q E := by
  cases r with
  | ok d S' => exact fun v m' H' c s q => p v m' H' c (st.trans s) q
  | exc x S' => exact fun c d m' H' cf s q => p c d m' H' cf (st.trans s) q
  | bad => exact p
theorem Post.mono (p : Post G m H r R Q E) (hQ : ∀ v H', Q v H' → Q' v H') (hE : ∀ c d H', E c d H' → E' c d H') : Post G m H r R Q' E' := by
  cases r with
  | ok d S' => exact fun v m' H' c s q => hQ _ _ (p v m' H' c s q)
  | exc x S' => exact fun c d m' H' cf s q => hE _ _ _ (p c d m' H' cf s q)
  | bad => exact p
/-- a result, then what is made of it -/
theorem Post.bind {f : α → Store → Res γ} {R1 : Mm → Hp → δ → γ → Prop} {Q1 : δ → Hp → Prop} (p : Post G m H (r.bind f) R1 Q1 E)
    (h : ∀ v d S1 m1 H1, Cf G m1 S1 H1 → Stp m H m1 H1 → R m1 H1 v d → Post G m1 H1 (f d S1) R1 Q1 E → Q v H1) : Post G m H r R Q E := by
  cases r with
  | ok d S' => exact fun v m' H' c s q => h v d S' m' H' c s q (Post.later s p)
  | exc x S' => exact p
  | bad => exact p
theorem Post.ok {a : α} (c : Cf G m S H) {v : β} (q : R m H v a) (p : Post G m H (.ok a S) R Q E) : Q v H := p v m H c Stp.refl q
theorem Post.lift {o : Option α} (p : Post G m H (lift S o) R Q E) : ∃ a, o = some a ∧ Post G m H (.ok a S) R Q E := by
  cases o with
  | some a => exact ⟨a, rfl, p⟩
  | none => exact p.elim
end

abbrev Ev (α : Type) := Sig → Store → Res α
/-- the reading of an expression that gives what ev gives -/
def rdE (G : Gd) (W : WX) (ev : Ev D) : TE := fun σ H Q => ∃ m S τ, Cf G m S H ∧ SR G m H σ τ ∧ Post G m H (ev τ S) (VR G) Q fun c d H' => W c d σ H'
def rdA (G : Gd) (W : WX) (ev : Ev (List D)) : TA := fun σ H Q => ∃ m S τ, Cf G m S H ∧ SR G m H σ τ ∧ Post G m H (ev τ S) (VRs G) Q fun c d H' => W c d σ H'
/-- of a test: the truth -/
def rdT (G : Gd) (W : WX) (ev : Ev Bool) : TT := fun σ H Q => ∃ m S τ, Cf G m S H ∧ SR G m H σ τ ∧ Post G m H (ev τ S) (fun _ _ b k => b = k) Q fun c d H' => W c d σ H'
def rdB (G : Gd) (W : WX) (ev : Ev D) : TT := rdT G W fun τ S => (ev τ S).bind fun x S => lift S (truth S x)
/-- what is wanted where a new list has been made -/
def PostF (G : Gd) (m : Mm) (H : Hp) (r : Res D) (Q : VK) (E : Value → Option Addr → Hp → Prop) : Prop :=
  match r with
  | .ok (.vl ds) S' => ∀ p xs m' H', Cf G (m'.with p) S' H' → Stp m H m' H' → Fr H p → H' p = some (.lst xs) → p ∉ m'.l → VRs G (m'.with p) H' xs ds → Q (.ref p) H'
  | .ok _ _ => False
  | .exc x S' => ∀ c d m' H', Cf G m' S' H' → Stp m H m' H' → ER G m' H' c d x → E c d H'
  | .bad => False
def rdF (G : Gd) (W : WX) (ev : Ev D) : TE := fun σ H Q => ∃ m S τ, Cf G m S H ∧ SR G m H σ τ ∧ PostF G m H (ev τ S) Q fun c d H' => W c d σ H'

def EOk (G : Gd) (X : Cx) (W : WX) (e : Expr) (ev : Ev D) : Prop := PE X e (rdE G W ev)
def AOk (G : Gd) (X : Cx) (W : WX) (es : List Expr) (ev : Ev (List D)) : Prop := PA X es (rdA G W ev)
def TOk (G : Gd) (X : Cx) (W : WX) (e : Expr) (ev : Ev D) : Prop := PT X e (rdB G W ev)
def FOk (G : Gd) (X : Cx) (W : WX) (e : Expr) (ev : Ev D) : Prop := PE X e (rdF G W ev)

theorem PE.weak {X : Cx} {e : Expr} {t t' : TE} (h : PE X e t) (w : ∀ σ H Q, t' σ H Q → t σ H Q) : PE X e t' := ⟨fun pins s σ H Q I q => h.run pins s σ H Q I (w σ H Q q)⟩
theorem PA.weak {X : Cx} {es : List Expr} {t t' : TA} (h : PA X es t) (w : ∀ σ H Q, t' σ H Q → t σ H Q) : PA X es t' := ⟨fun pos pins s σ H Q I q => h.run pos pins s σ H Q I (w σ H Q q)⟩
theorem PT.weak {X : Cx} {e : Expr} {t t' : TT} (h : PT X e t) (w : ∀ σ H Q, t' σ H Q → t σ H Q) : PT X e t' := ⟨fun pins s σ H Q I q => h.run pins s σ H Q I (w σ H Q q)⟩
theorem PW.weak {X : Cx} {e : Expr} {t t' : TT} (h : PW X e t) (w : ∀ σ H Q, t' σ H Q → t σ H Q) : PW X e t' := ⟨fun whole pins s σ H Q I q => h.run whole pins s σ H Q I (w σ H Q q)⟩

section
variable {W : WX} {X : Cx} {ev : Ev D} {Q : VK} {δ γ : Type} {R1 : Mm → Hp → δ → γ → Prop} {Q1 : δ → Hp → Prop}
/-- an expression's reading, and what follows -/
theorem rdE.seq {K : VK} {f : D → Store → Res γ} (c : Cf G m S H) (sr : SR G m H σ τ) (p : Post G m H ((ev τ S).bind f) R1 Q1 fun c d H' => W c d σ H')
    (h : ∀ v d S1 m1 H1, Cf G m1 S1 H1 → Stp m H m1 H1 → VR G m1 H1 v d → Post G m1 H1 (f d S1) R1 Q1 (fun c d H' => W c d σ H') → K v H1) : rdE G W ev σ H K :=
  ⟨m, S, τ, c, sr, Post.bind p h⟩
theorem rdA.seq {K : List V → Hp → Prop} {ev : Ev (List D)} {f : List D → Store → Res γ} (c : Cf G m S H) (sr : SR G m H σ τ) (p : Post G m H ((ev τ S).bind f) R1 Q1 fun c d H' => W c d σ H')
    (h : ∀ v d S1 m1 H1, Cf G m1 S1 H1 → Stp m H m1 H1 → VRs G m1 H1 v d → Post G m1 H1 (f d S1) R1 Q1 (fun c d H' => W c d σ H') → K v H1) : rdA G W ev σ H K :=
  ⟨m, S, τ, c, sr, Post.bind p h⟩
theorem rdT.seq {K : Bool → Hp → Prop} {ev : Ev Bool} {f : Bool → Store → Res γ} (c : Cf G m S H) (sr : SR G m H σ τ) (p : Post G m H ((ev τ S).bind f) R1 Q1 fun c d H' => W c d σ H')
    (h : ∀ k S1 m1 H1, Cf G m1 S1 H1 → Stp m H m1 H1 → Post G m1 H1 (f k S1) R1 Q1 (fun c d H' => W c d σ H') → K k H1) : rdT G W ev σ H K :=
  ⟨m, S, τ, c, sr, Post.bind p fun v d S1 m1 H1 c1 st e q => by subst e; exact h v S1 m1 H1 c1 st q⟩
theorem bind_assoc {α β γ : Type} (r : Res α) (f : α → Store → Res β) (g : β → Store → Res γ) : (r.bind f).bind g = r.bind fun a S => (f a S).bind g := by cases r <;> rfl
theorem bind_lift {α β : Type} (S : Store) (o : Option α) (f : α → Store → Res β) : (lift S o).bind f = match o with | some a => f a S | none => .bad := by cases o <;> rfl
/-- .. of a test -/
theorem rdB.seq {K : Bool → Hp → Prop} {f : Bool → Store → Res γ} (c : Cf G m S H) (sr : SR G m H σ τ) (p : Post G m H ((ev τ S).bind fun x S => (lift S (truth S x)).bind f) R1 Q1 fun c d H' => W c d σ H')
    (h : ∀ k S1 m1 H1, Cf G m1 S1 H1 → Stp m H m1 H1 → Post G m1 H1 (f k S1) R1 Q1 (fun c d H' => W c d σ H') → K k H1) : rdB G W ev σ H K :=
  rdT.seq c sr (by rw [bind_assoc]; exact p) h
end
end RA

set_option Elab.async false
set_option linter.all false
set_option maxRecDepth 100000
set_option maxHeartbeats 4000000
set_option autoImplicit false
/-! B2: the operations by values. -/
namespace RA
open PySem L2

/-- a list -/
theorem VR.lst {G : Gd} {m : Mm} {S : Store} {H : Hp} {v : V} {d : D} {ds : List D} (c : Cf G m S H) (r : VR G m H v d) (e : asL S d = some ds) : ∃ a xs, v = .ref a ∧ H a = some (.lst xs) ∧ VRs G m H xs ds := by
  cases r with
  | vl h hm q => cases e; exact ⟨_, _, rfl, h, q⟩
  | ref h =>
    rename_i n a
    have e' : (match S[n]? with | some (.lst ds) => some ds | none => none) = some ds := e
    cases q : S[n]? with
    | none => rw [q] at e'; cases e'
    | some o =>
      cases o with
      | lst es =>
        rw [q] at e'; cases e'
        obtain ⟨b, xs, e1, e2, e3⟩ := c.at_ n _ q
        rw [h] at e1; cases e1
        exact ⟨_, _, rfl, e2, e3⟩
  | _ => cases e
theorem VR.seq {G : Gd} {m : Mm} {S : Store} {H : Hp} {v : V} {d : D} {ds : List D} (c : Cf G m S H) (r : VR G m H v d) (e : asQ S d = some ds) :
    ∃ a xs, v = .ref a ∧ (SqL G.K H a xs ∨ SqT G.K H a xs) ∧ VRs G m H xs ds := by
  cases r with
  | tup h q => cases e; exact ⟨_, _, rfl, .inr h, q⟩
  | ro h q =>
    cases e
    refine ⟨_, _, rfl, .inl ?_, q⟩
    rcases h with ⟨h, _⟩ | h
    · exact .inl h
    · exact .inr h
  | vl h hm q => obtain ⟨a, xs, e1, e2, e3⟩ := VR.lst c (.vl h hm q) (show asL S _ = some ds from e); exact ⟨a, xs, e1, .inl (.of e2), e3⟩
  | ref h => obtain ⟨a, xs, e1, e2, e3⟩ := VR.lst c (.ref h) (show asL S _ = some ds from e); exact ⟨a, xs, e1, .inl (.of e2), e3⟩
  | _ => cases e

section
variable {G : Gd} {X : Cx} {m : Mm} {S : Store} {H : Hp} {pins : List (Addr × Obj)} {σ : L2.St} {s : Shared}
/-! ### values as data -/
theorem toPs_len (r : Nat → Option PyData) : ∀ {ds : List D} {ps : List PyData}, toPs r ds = some ps → ps.length = ds.length
  | [], _, e => by cases e; rfl
  | d :: ds, ps, e => by
    unfold toPs at e
    cases q : toP r d with
    | none => rw [q] at e; cases e
    | some x =>
      rw [q] at e
      cases q2 : toPs r ds with
      | none => rw [q2] at e; cases e
      | some xs =>
        rw [q2] at e; cases e
        rw [List.length_cons, List.length_cons, toPs_len r q2]
/-- what a place reads as -/
def PlaceReads (G : Gd) (m : Mm) (h : Heap) (r : Nat → Option PyData) : Prop := ∀ n a p, m.l[n]? = some a → r n = some p → p.plain = true ∧ ∃ as, Reads h (.ref a) p as
mutual
theorem reads_w (hK : X.K = G.K) (I : Inv X pins σ H s) {r : Nat → Option PyData} (hr : PlaceReads G m s.heap r) : ∀ {v : V} {d : D} {p : PyData} {u : Value}, VR G m H v d → toP r d = some p → RelV v u → p.plain = true ∧ ∃ as, Reads s.heap u p as
  | _, _, _, _, .non, e, q => by cases e; cases q; exact ⟨rfl, _, .none⟩
  | _, _, _, _, .bl b, e, q => by cases e; cases q; exact ⟨rfl, _, .bool b⟩
  | _, _, _, _, .int i, e, q => by cases e; obtain ⟨t, rfl⟩ := q; exact ⟨rfl, _, .int i t⟩
  | _, _, _, _, .str x, e, q => by cases e; obtain ⟨t, rfl⟩ := q; exact ⟨rfl, _, .str x t⟩
  | _, _, _, _, .tup (ds := ds) h q1, e, q => by
    cases q
    unfold toP at e
    cases z : toPs r ds with
    | none => rw [z] at e; cases e
    | some ps =>
      rw [z] at e; cases e
      obtain ⟨its, rv, ⟨o, ho, hc, n, hd⟩, _⟩ := I.tuple (hK ▸ h)
      obtain ⟨hp, as, ra⟩ := reads_ws hK I hr q1 z rv
      exact ⟨by simp only [PyData.plain]; exact hp, _, .tuple ho hc hd ra⟩
  | _, _, _, _, .vl (ds := ds) h _ q1, e, q => by
    cases q
    unfold toP at e
    cases z : toPs r ds with
    | none => rw [z] at e; cases e
    | some ps =>
      rw [z] at e; cases e
      obtain ⟨its, rv, ⟨o, n, ho, hc, _, hd⟩, _⟩ := I.list (SqL.of h)
      obtain ⟨hp, as, ra⟩ := reads_ws hK I hr q1 z rv
      exact ⟨by simp only [PyData.plain]; exact hp, _, .list ho hc hd ra⟩
  | _, _, _, _, .ro (ds := ds) h q1, e, q => by
    cases q
    unfold toP at e
    cases z : toPs r ds with
    | none => rw [z] at e; cases e
    | some ps =>
      rw [z] at e; cases e
      obtain ⟨its, rv, ⟨o, n, ho, hc, _, hd⟩, _⟩ := I.list (hK ▸ (show SqL G.K H _ _ from by
        rcases h with ⟨h, _⟩ | h
        · exact .inl h
        · exact .inr h))
      obtain ⟨hp, as, ra⟩ := reads_ws hK I hr q1 z rv
      exact ⟨by simp only [PyData.plain]; exact hp, _, .list ho hc hd ra⟩
  | _, _, _, _, .vd _ _ _ _, e, _ => by cases e
  | _, _, _, _, .ref h, e, q => by cases q; exact hr _ _ _ h e
  | _, _, _, _, .fn _, e, _ => by cases e
  | _, _, _, _, .ty _, e, _ => by cases e
theorem reads_ws (hK : X.K = G.K) (I : Inv X pins σ H s) {r : Nat → Option PyData} (hr : PlaceReads G m s.heap r) : ∀ {vs : List V} {ds : List D} {ps : List PyData} {us : List Value}, VRs G m H vs ds → toPs r ds = some ps → Vals vs us → PyData.plainAll ps = true ∧ ∃ as, ReadsAll s.heap us ps as
  | _, _, _, _, .nil, e, q => by cases e; cases q; exact ⟨rfl, _, .nil⟩
  | _, _, _, _, .cons (d := d) (ds := ds) a b, e, q => by
    cases q with
    | cons q1 q2 =>
      unfold toPs at e
      cases z : toP r d with
      | none => rw [z] at e; cases e
      | some x =>
        rw [z] at e
        cases z2 : toPs r ds with
        | none => rw [z2] at e; cases e
        | some xs =>
          rw [z2] at e; cases e
          obtain ⟨h1, as, r1⟩ := reads_w hK I hr a z q1
          obtain ⟨h2, bs, r2⟩ := reads_ws hK I hr b z2 q2
          exact ⟨by simp only [PyData.plainAll, h1, h2, Bool.and_self], _, .cons r1 r2⟩
end
theorem place_deep (hK : X.K = G.K) (I : Inv X pins σ H s) (c : Cf G m S H) : ∀ k, PlaceReads G m s.heap (deep k S)
  | 0 => fun n a p _ e => by cases e
  | k + 1 => fun n a p h e => by
    have e' : (match S[n]? with | some (.lst ds) => (toPs (deep k S) ds).map .list | none => none) = some p := e
    cases q : S[n]? with
    | none => rw [q] at e'; cases e'
    | some o =>
      cases o with
      | lst es =>
        rw [q] at e'
        have e2 : (toPs (deep k S) es).map PyData.list = some p := e'
        cases z : toPs (deep k S) es with
        | none => rw [z] at e2; cases e2
        | some ps =>
          rw [z] at e2; cases e2
          obtain ⟨b, xs, h1, h2, h3⟩ := c.at_ n _ q
          rw [h] at h1; cases h1
          obtain ⟨its, rv, ⟨ob, n, ho, hc, _, hd⟩, _⟩ := I.list (SqL.of h2)
          obtain ⟨hp, as, ra⟩ := reads_ws hK I (place_deep hK I c k) h3 z rv
          exact ⟨by simp only [PyData.plain]; exact hp, _, .list ho hc hd ra⟩
theorem reads_of (hK : X.K = G.K) (I : Inv X pins σ H s) (c : Cf G m S H) {v : V} {d : D} {p : PyData} {u : Value} (r : VR G m H v d) (e : pd S d = some p) (q : RelV v u) : p.plain = true ∧ ∃ as, Reads s.heap u p as :=
  reads_w hK I (place_deep hK I c 8) r e q
theorem readsAll_of (hK : X.K = G.K) (I : Inv X pins σ H s) (c : Cf G m S H) {vs : List V} {ds : List D} {ps : List PyData} {us : List Value} (r : VRs G m H vs ds) (e : pds S ds = some ps) (q : Vals vs us) : PyData.plainAll ps = true ∧ ∃ as, ReadsAll s.heap us ps as :=
  reads_ws hK I (place_deep hK I c 8) r e q

/-! ### truth -/
theorem tru_of (c : Cf G m S H) {v : V} {d : D} {k : Bool} (r : VR G m H v d) (e : truth S d = some k) : TruV G.K v H k := by
  have em : ∀ {xs : List V} {ds : List D}, VRs G m H xs ds → (!ds.isEmpty) = !xs.isEmpty := fun r => by cases r <;> rfl
  cases r with
  | non => cases e; rfl
  | bl b => cases e; rfl
  | int i => cases e; rfl
  | str x =>
    have e' : (if x.length ≤ LINE then some ((x.length : Int) != 0) else none) = some k := e
    by_cases h : x.length ≤ LINE
    · rw [if_pos h] at e'; cases e'
      exact ⟨by rw [sizeLine_eq]; exact h, rfl⟩
    · rw [if_neg h] at e'; cases e'
  | tup h q => cases e; exact .inr (.inl ⟨_, h, em q⟩)
  | vl h _ q => cases e; exact .inl ⟨_, .of h, em q⟩
  | ro h q =>
    cases e
    refine .inl ⟨_, ?_, em q⟩
    rcases h with ⟨h, _⟩ | h
    · exact .inl h
    · exact .inr h
  | ref h =>
    rename_i n a
    have e' : (match S[n]? with | some (.lst ds) => some !ds.isEmpty | none => none) = some k := e
    cases q : S[n]? with
    | none => rw [q] at e'; cases e'
    | some o =>
      cases o with
      | lst es =>
        rw [q] at e'; cases e'
        obtain ⟨b, xs, e1, e2, e3⟩ := c.at_ n _ q
        rw [h] at e1; cases e1
        exact .inl ⟨_, .inl (.inl e2), em e3⟩
  | _ => cases e

/-! ### operators -/
/-- by values: what f gives -/
def rD (G : Gd) (f : Store → D → D → Option D) : R2 := fun x y H Q => ∃ m S d1 d2, Cf G m S H ∧ VR G m H x d1 ∧ VR G m H y d2 ∧ Post G m H (lift S (f S d1 d2)) (VR G) Q fun _ _ _ => False
theorem Post.val {m : Mm} {S : Store} {H : Hp} {o : Option D} {Q : VK} {E : Value → Option Addr → Hp → Prop} (p : Post G m H (RA.lift S o) (VR G) Q E) : ∃ d, o = some d ∧ ∀ v m' H', Cf G m' S H' → Stp m H m' H' → VR G m' H' v d → Q v H' := by
  cases o with
  | some d => exact ⟨d, rfl, p⟩
  | none => exact p.elim
theorem int_bits {i : Int} {n : Nat} (h : i.natAbs.log2 < n) : i.natAbs < 2 ^ n := by
  by_cases e : i.natAbs = 0
  · rw [e]; exact Nat.two_pow_pos n
  · exact (Nat.log2_lt e).mp h
theorem opD_sub : OpR X (binaryOp .Sub) (rD G fun S => binop S .sub) := by
  intro pins s σ H x y v u Q I rx ry ⟨m, S, d1, d2, c, r1, r2, p⟩
  obtain ⟨d, e, k⟩ := p.val
  cases r1 <;> cases r2 <;> first | (cases e; exact op_sub pins s σ H _ _ v u Q I rx ry ⟨_, _, rfl, rfl, k _ m H c Stp.refl (.int _)⟩) | cases e
theorem opD_mod : OpR X (binaryOp .Mod) (rD G fun S => binop S .mod) := by
  intro pins s σ H x y v u Q I rx ry ⟨m, S, d1, d2, c, r1, r2, p⟩
  obtain ⟨d, e, k⟩ := p.val
  cases r1 <;> cases r2 <;> try cases e
  rename_i i j
  have e' : (if j ≠ 0 then some (D.int (i.fmod j)) else none) = some d := e
  by_cases h : j ≠ 0
  · rw [if_pos h] at e'; cases e'
    exact op_modN pins s σ H _ _ v u Q I rx ry ⟨_, _, rfl, rfl, h, k _ m H c Stp.refl (.int _)⟩
  · rw [if_neg h] at e'; cases e'
/-- // by any divisor but 0, below 2 ^ 9000 -/
theorem op_fdivA : OpR X (binaryOp .FloorDiv) (rI (fun _ j => j ≠ 0 ∧ j.natAbs.log2 < 9000) fun i j => .int (i.fdiv j)) := opI fun i j _ _ _ _ _ hc q =>
  PyProof.Rows.floordiv_int hc.1 q (.inl (PyProof.noPylong_of_log2 hc.2))
theorem opD_fdiv : OpR X (binaryOp .FloorDiv) (rD G fun S => binop S .fdiv) := by
  intro pins s σ H x y v u Q I rx ry ⟨m, S, d1, d2, c, r1, r2, p⟩
  obtain ⟨d, e, k⟩ := p.val
  cases r1 <;> cases r2 <;> try cases e
  rename_i i j
  have e' : (if j ≠ 0 ∧ j.natAbs.log2 < 9000 then some (D.int (i.fdiv j)) else none) = some d := e
  by_cases h : j ≠ 0 ∧ j.natAbs.log2 < 9000
  · rw [if_pos h] at e'; cases e'
    exact op_fdivA pins s σ H _ _ v u Q I rx ry ⟨_, _, rfl, rfl, h, k _ m H c Stp.refl (.int _)⟩
  · rw [if_neg h] at e'; cases e'
theorem op_powA : OpR X (binaryOp .Pow) (rI (fun i j => 0 ≤ j ∧ j ≤ 1000 ∧ i.natAbs.log2 < 1000) fun i j => .int (i ^ j.toNat)) := opI fun i j _ _ _ _ _ hc q => by
  obtain ⟨h1, h2, h3⟩ := hc
  refine PyProof.Rows.pow_int h1 ?_ q
  have b : Builtin.Int.intBits i ≤ 1000 := by
    unfold Builtin.Int.intBits
    split <;> omega
  have b' : (Builtin.Int.intBits i : Int) ≤ 1000 := by omega
  calc (Builtin.Int.intBits i : Int) * j ≤ 1000 * j := Int.mul_le_mul_of_nonneg_right b' h1
    _ ≤ 1000 * 1000 := Int.mul_le_mul_of_nonneg_left h2 (by decide)
    _ ≤ 2 ^ 27 := by decide
theorem opD_pow : OpR X (binaryOp .Pow) (rD G fun S => binop S .pow) := by
  intro pins s σ H x y v u Q I rx ry ⟨m, S, d1, d2, c, r1, r2, p⟩
  obtain ⟨d, e, k⟩ := p.val
  cases r1 <;> cases r2 <;> try cases e
  rename_i i j
  have e' : (if 0 ≤ j ∧ j ≤ 1000 ∧ i.natAbs.log2 < 1000 then some (D.int (i ^ j.toNat)) else none) = some d := e
  by_cases h : 0 ≤ j ∧ j ≤ 1000 ∧ i.natAbs.log2 < 1000
  · rw [if_pos h] at e'; cases e'
    exact op_powA pins s σ H _ _ v u Q I rx ry ⟨_, _, rfl, rfl, h, k _ m H c Stp.refl (.int _)⟩
  · rw [if_neg h] at e'; cases e'
theorem line_eq : LINE = sizeLine := by rw [sizeLine_eq]; rfl
theorem VRs.nil_iff {m : Mm} {H : Hp} {xs : List V} {ds : List D} (r : VRs G m H xs ds) : xs = [] ↔ ds = [] := by
  cases r with
  | nil => simp
  | cons a b => simp
/-- two lists put together -/
theorem opD_addL (hK : X.K = G.K) {pins : List (Addr × Obj)} {s : Shared} {σ : L2.St} {H : Hp} {x y : V} {v u : Value} {Q : VK} (I : Inv X pins σ H s) (rx : RelV x v) (ry : RelV y u) {m : Mm} {S : Store} {d1 d2 d : D} {a b : List D} (c : Cf G m S H)
    (r1 : VR G m H x d1) (r2 : VR G m H y d2) (e1 : asL S d1 = some a) (e2 : asL S d2 = some b) (hl : a.length + b.length ≤ LINE)
    (k : ∀ p xs, H p = none → VRs G m (upd H p (.lst xs)) xs (a ++ b) → Q (.ref p) (upd H p (.lst xs))) : wpAny (model X.prog X.w) X.A (binaryOp .Add v u) (EP X pins σ Q) X.xe s := by
  obtain ⟨p1, xs, rfl, h1, q1⟩ := VR.lst c r1 e1
  obtain ⟨p2, ys, rfl, h2, q2⟩ := VR.lst c r2 e2
  refine op_cat pins s σ H _ _ v u Q I rx ry ⟨p1, p2, xs, ys, rfl, rfl, h1, h2, ?_, fun p hp => ?_⟩
  · rw [q1.length, q2.length, ← line_eq]; exact hl
  · exact k p _ hp ((q1.append q2).step c (Stp.new hp))
theorem Rd.of_upd {H : Hp} {p : Addr} {o : HO} : Rd (upd H p o) p o := .inl upd_same
end
end RA

set_option Elab.async false
set_option linter.all false
set_option maxRecDepth 100000
set_option maxHeartbeats 4000000
set_option autoImplicit false
/-! B3: more operations: + and * of everything, comparisons. -/
namespace RA
open PySem PySem.Spec PyProof.Rows L2
/-- t * 1, () * k: t itself -/
theorem tuple_mul1 (l : Addr) (items : Array Value) (n : Nat) (dd : Option Addr) (sl : Array (Option Value)) (x : Int) (u : Tok) (c0 : (decide (x < -(2 ^ 63)) || decide (x ≥ 2 ^ 63)) = false) (c1 : (items.isEmpty || x == 1) = true)  :
    Meets (Builtin.«tuple.__mul__» ⟨[.ref l, .int x u], []⟩) (fun _ R s => s.heap.get? l = some { cls := .type "tuple", dict := dd, data := .seq items n, slots := sl } ∧
      R (.ok (.ret (Value.ref l))) s) :=
  .of_wp fun prog w A R s h => by
    obtain ⟨hp, g, d, tk, os⟩ := s
    obtain ⟨hl, h⟩ := h
    have f1 := AutoSeq1.idx_int
    wp_walk using wpAny_loadPart' hl
    repeat (first
      | (refine wpAny_ite_false (decide_eq_false (by rw [c0]; exact Bool.false_ne_true)) ?_; wp_walk using wpAny_loadPart' hl)
      | (refine wpAny_ite_true (decide_eq_true (by rw [c1])) ?_; wp_walk using wpAny_loadPart' hl))
    exact ⟨_, rfl, h⟩
/-- t * k, k below 1: an empty one -/
theorem tuple_mul0 (l : Addr) (items : Array Value) (n : Nat) (dd : Option Addr) (sl : Array (Option Value)) (x : Int) (u : Tok) (c0 : (decide (x < -(2 ^ 63)) || decide (x ≥ 2 ^ 63)) = false) (c1 : (items.isEmpty || x == 1) = false) (c2 : (decide (x ≤ 0) || items.isEmpty) = true) :
    Meets (Builtin.«tuple.__mul__» ⟨[.ref l, .int x u], []⟩) (fun _ R s => s.heap.get? l = some { cls := .type "tuple", dict := dd, data := .seq items n, slots := sl } ∧
      R (.ok (.ret (Value.ref s.heap.objs.size))) { s with heap := s.heap.push { cls := Value.type "tuple", data := Data.seq #[] }, toks := s.toks }) :=
  .of_wp fun prog w A R s h => by
    obtain ⟨hp, g, d, tk, os⟩ := s
    obtain ⟨hl, h⟩ := h
    have f1 := AutoSeq1.idx_int
    wp_walk using wpAny_loadPart' hl
    repeat (first
      | (refine wpAny_ite_false (decide_eq_false (by rw [c0]; exact Bool.false_ne_true)) ?_; wp_walk using wpAny_loadPart' hl)
      | (refine wpAny_ite_false (decide_eq_false (by rw [c1]; exact Bool.false_ne_true)) ?_; wp_walk using wpAny_loadPart' hl)
      | (refine wpAny_ite_true (decide_eq_true (by rw [c2])) ?_; wp_walk using wpAny_loadPart' hl))
    exact ⟨_, rfl, h⟩
theorem flatten_nil : ∀ n : Nat, (List.replicate n ([] : List V)).flatten = []
  | 0 => rfl
  | n + 1 => by rw [List.replicate_succ, List.flatten_cons, flatten_nil n]; rfl
/-- t * k, any small k -/
def rRepA (K : PySem.W.Frag) : R2 := fun x y H Q => ∃ l k xs, x = .ref l ∧ y = .int k ∧ SqT K H l xs ∧ -1000 ≤ k ∧ k ≤ 1000 ∧ xs.length ≤ 1000 ∧
  (((List.replicate k.toNat xs).flatten = xs → Q (.ref l) H) ∧ ∀ p, H p = none → Q (.ref p) (upd H p (.tup (List.replicate k.toNat xs).flatten)))
section
variable {X : Cx}
theorem op_repTA : OpR X (binaryOp .Mult) (rRepA X.K) := by
  intro pins s σ H x y v u Q I rx ry h
  obtain ⟨l, k, xs, e1, e2, hT, h1, h2, hz, q1, q2⟩ := h
  by_cases big : xs ≠ [] ∧ 2 ≤ k
  · exact op_repT pins s σ H x y v u Q I rx ry ⟨l, k, xs, e1, e2, hT, big.1, big.2, h2, hz, q2⟩
  subst e1; subst e2
  cases rx
  obtain ⟨t, rfl⟩ := ry
  obtain ⟨its, r, ⟨⟨cls, dd, data, sl⟩, ho, hc, n, hd⟩, hs⟩ := I.tuple hT
  simp only at hc hd
  subst hc hd
  have hle : its.length = xs.length := r.length.symm
  have c0 : (decide (k < -(2 ^ 63)) || decide (k ≥ 2 ^ 63)) = false := by
    rw [decide_eq_false (by omega), decide_eq_false (by omega)] <;> rfl
  by_cases c1 : (its.toArray.isEmpty || k == 1) = true
  · refine wpAny_binaryOp_repeat_ref (T := "tuple") (U := "int") (by decide) ⟨_, ho, rfl⟩ (fun s' => typeIs_int s' k t) noFill_tuple_mul F.fills_int_mul F.slot_int_rmul repeat_tuple F.slot_int_index.lookup
      (call_meets F.slot_int_rmul (typeIs_int s k t) F.entry_int_rmul (F.args_int_rmul_2 _ _) (int_rmul_tuple k t l its.toArray n dd sl)
        ⟨ho, rfl, ⟨_, ho, rfl⟩, call_meets F.slot_tuple_mul ⟨_, ho, rfl⟩ F.entry_tuple_mul (F.args_tuple_mul_2 _ _) (tuple_mul1 l its.toArray n dd sl k t c0 c1) ⟨ho, ?_⟩⟩)
    refine ⟨.ref l, H, I, rfl, q1 ?_⟩
    rw [Bool.or_eq_true] at c1
    rcases c1 with c1 | c1
    · have : its = [] := by
        cases its with
        | nil => rfl
        | cons a b => cases c1
      subst this
      have : xs = [] := List.eq_nil_of_length_eq_zero hle.symm
      subst this
      exact flatten_nil _
    · have : k = 1 := by simpa using c1
      subst this
      show (List.replicate 1 xs).flatten = xs
      simp
  · have c1' : (its.toArray.isEmpty || k == 1) = false := by simpa using c1
    have hk : k ≤ 0 := by
      have : xs ≠ [] := fun z => by
        subst z
        have : its = [] := List.eq_nil_of_length_eq_zero hle
        subst this
        simp at c1
      have hk1 : k ≠ 1 := fun z => by subst z; simp at c1
      have : ¬ 2 ≤ k := fun z => big ⟨this, z⟩
      omega
    have c2 : (decide (k ≤ 0) || its.toArray.isEmpty) = true := by rw [decide_eq_true hk]; rfl
    refine wpAny_binaryOp_repeat_ref (T := "tuple") (U := "int") (by decide) ⟨_, ho, rfl⟩ (fun s' => typeIs_int s' k t) noFill_tuple_mul F.fills_int_mul F.slot_int_rmul repeat_tuple F.slot_int_index.lookup
      (call_meets F.slot_int_rmul (typeIs_int s k t) F.entry_int_rmul (F.args_int_rmul_2 _ _) (int_rmul_tuple k t l its.toArray n dd sl)
        ⟨ho, rfl, ⟨_, ho, rfl⟩, call_meets F.slot_tuple_mul ⟨_, ho, rfl⟩ F.entry_tuple_mul (F.args_tuple_mul_2 _ _) (tuple_mul0 l its.toArray n dd sl k t c0 c1' c2) ⟨ho, ?_⟩⟩)
    have e0 : (List.replicate k.toNat xs).flatten = [] := by
      have : k.toNat = 0 := by omega
      rw [this]; rfl
    have q := q2 s.heap.objs.size (I.hok.fresh (Nat.le_refl _))
    rw [e0] at q
    refine ⟨.ref s.heap.objs.size, _, I.laid (t' := s.toks) (o := .tup []) (fun b ob q => Heap.get?_push_of_some _ q) (Nat.le_refl _) ?_, rfl, q⟩
    exact ⟨by rw [sizeLine_eq]; exact Nat.zero_le _, [], .nil, IsTup.new _ _⟩
end
section
variable {G : Gd} {X : Cx} {m : Mm} {S : Store} {H : Hp} {pins : List (Addr × Obj)} {σ : L2.St} {s : Shared}
theorem VRs.rep {xs : List V} {ds : List D} (r : VRs G m H xs ds) : ∀ n : Nat, VRs G m H (List.replicate n xs).flatten (List.replicate n ds).flatten
  | 0 => .nil
  | n + 1 => by
    rw [List.replicate_succ, List.replicate_succ, List.flatten_cons, List.flatten_cons]
    exact r.append (VRs.rep r n)
theorem some_if {α : Type} {p : Prop} [Decidable p] {a b : α} (h : (if p then some a else none) = some b) : p ∧ a = b := by
  by_cases c : p
  · rw [if_pos c] at h; exact ⟨c, Option.some.inj h⟩
  · rw [if_neg c] at h; cases h
theorem some_bind {α β : Type} {o : Option α} {f : α → Option β} {b : β} (h : o.bind f = some b) : ∃ a, o = some a ∧ f a = some b := by
  cases o with
  | some a => exact ⟨a, rfl, h⟩
  | none => cases h
theorem some_map {α β : Type} {o : Option α} {f : α → β} {b : β} (h : o.map f = some b) : ∃ a, o = some a ∧ f a = b := by
  cases o with
  | some a => exact ⟨a, rfl, Option.some.inj h⟩
  | none => cases h
/-- a new tuple, the same as t if it is t -/
theorem VR.newT (c : Cf G m S H) {p : Addr} {xs : List V} {ds : List D} (hp : H p = none) (r : VRs G m H xs ds) : Cf G m S (upd H p (.tup xs)) ∧ Stp m H m (upd H p (.tup xs)) ∧ VR G m (upd H p (.tup xs)) (.ref p) (.tup ds) :=
  ⟨c.new hp, Stp.new hp, .tup (.inl (.inl upd_same)) (r.step c (Stp.new hp))⟩
theorem VR.newL (c : Cf G m S H) {p : Addr} {xs : List V} {ds : List D} (hp : H p = none) (r : VRs G m H xs ds) : Cf G m S (upd H p (.lst xs)) ∧ Stp m H m (upd H p (.lst xs)) ∧ VR G m (upd H p (.lst xs)) (.ref p) (.vl ds) :=
  ⟨c.new hp, Stp.new hp, .vl upd_same (c.outN hp) (r.step c (Stp.new hp))⟩
/-- by values, a new list -/
def rDF (G : Gd) (f : Store → D → D → Option D) : R2 := fun x y H Q => ∃ m S d1 d2 ds, Cf G m S H ∧ VR G m H x d1 ∧ VR G m H y d2 ∧ f S d1 d2 = some (.vl ds) ∧ ∀ p xs, H p = none → VRs G m H xs ds → Q (.ref p) (upd H p (.lst xs))
theorem binop_add_L {S : Store} {d1 d2 d : D} (e : binop S .add d1 d2 = some d) (h1 : ∀ i, d1 ≠ .int i) (h2 : ∀ i, d1 ≠ .str i) (h3 : ∀ i, d1 ≠ .tup i) :
    ∃ a b, asL S d1 = some a ∧ asL S d2 = some b ∧ a.length + b.length ≤ LINE ∧ d = .vl (a ++ b) := by
  have e' : ((asL S d1).bind fun a => (asL S d2).bind fun b => if a.length + b.length ≤ LINE then some (D.vl (a ++ b)) else none) = some d := by
    cases d1 <;> first | exact e | exact absurd rfl (h1 _) | exact absurd rfl (h2 _) | exact absurd rfl (h3 _)
  obtain ⟨a, ea, e'⟩ := some_bind e'
  obtain ⟨b, eb, e'⟩ := some_bind e'
  obtain ⟨hl, e'⟩ := some_if e'
  exact ⟨a, b, ea, eb, hl, e'.symm⟩
theorem opD_add (hK : X.K = G.K) : OpR X (binaryOp .Add) (rD G fun S => binop S .add) := by
  intro pins s σ H x y v u Q I rx ry ⟨m, S, d1, d2, c, r1, r2, p⟩
  obtain ⟨d, e, k⟩ := p.val
  have lists : (∀ i, d1 ≠ .int i) → (∀ i, d1 ≠ .str i) → (∀ i, d1 ≠ .tup i) → wpAny (model X.prog X.w) X.A (binaryOp .Add v u) (EP X pins σ Q) X.xe s := fun h1 h2 h3 => by
    obtain ⟨a, b, ea, eb, hl, rfl⟩ := binop_add_L e h1 h2 h3
    exact opD_addL hK I rx ry (d := .non) c r1 r2 ea eb hl fun p xs hp r => k _ m _ (c.new hp) (Stp.new hp) (.vl upd_same (c.outN hp) r)
  cases r1 with
  | int i =>
    cases r2 <;> try cases e
    exact op_add pins s σ H _ _ v u Q I rx ry ⟨_, _, rfl, rfl, k _ m H c Stp.refl (.int _)⟩
  | str i =>
    cases r2 with
    | str j =>
      obtain ⟨hl, rfl⟩ := some_if (show (if i.length + j.length ≤ LINE then some (D.str (i ++ j)) else none) = some d from e)
      exact op_add_str pins s σ H _ _ v u Q I rx ry ⟨_, _, rfl, rfl, by rw [← line_eq]; exact hl, k _ m H c Stp.refl (.str _)⟩
    | _ => cases e
  | tup h q =>
    cases r2 with
    | tup h2 q2 =>
      rename_i a xs ds b ys es
      obtain ⟨hl, rfl⟩ := some_if (show (if ds.length + es.length ≤ LINE then some (D.tup (ds ++ es)) else none) = some d from e)
      refine op_catA pins s σ H _ _ v u Q I rx ry ⟨_, _, _, _, rfl, rfl, hK ▸ h, hK ▸ h2, by rw [q.length, q2.length, ← line_eq]; exact hl, fun z => ?_, fun _ z => ?_, fun _ _ p hp => ?_⟩
      · have : ds = [] := q.nil_iff.mp z
        subst this
        exact k _ m H c Stp.refl (.tup h2 q2)
      · have : es = [] := q2.nil_iff.mp z
        subst this
        rw [List.append_nil] at k
        exact k _ m H c Stp.refl (.tup h q)
      · obtain ⟨c', st, r⟩ := VR.newT c hp (q.append q2)
        exact k _ m _ c' st r
    | _ => cases e
  | _ => exact lists (fun _ z => nomatch z) (fun _ z => nomatch z) (fun _ z => nomatch z)
theorem opD_addF (hK : X.K = G.K) : OpR X (binaryOp .Add) (rDF G fun S => binop S .add) := by
  intro pins s σ H x y v u Q I rx ry ⟨m, S, d1, d2, ds, c, r1, r2, e, k⟩
  have n1 : ∀ i, d1 ≠ .int i := fun i z => by
    subst z
    cases d2 <;> cases e
  have n2 : ∀ i, d1 ≠ .str i := fun i z => by
    subst z
    cases d2 <;> try cases e
    rename_i j
    obtain ⟨_, e⟩ := some_if (show (if i.length + j.length ≤ LINE then some (D.str (i ++ j)) else none) = some (.vl ds) from e)
    cases e
  have n3 : ∀ i, d1 ≠ .tup i := fun i z => by
    subst z
    cases d2 <;> try cases e
    rename_i j
    obtain ⟨_, e⟩ := some_if (show (if i.length + j.length ≤ LINE then some (D.tup (i ++ j)) else none) = some (.vl ds) from e)
    cases e
  obtain ⟨a, b, ea, eb, hl, e'⟩ := binop_add_L e n1 n2 n3
  cases e'
  obtain ⟨p1, xs, rfl, h1, q1⟩ := VR.lst c r1 ea
  obtain ⟨p2, ys, rfl, h2, q2⟩ := VR.lst c r2 eb
  refine op_cat pins s σ H _ _ v u Q I rx ry ⟨p1, p2, xs, ys, rfl, rfl, h1, h2, ?_, fun p hp => ?_⟩
  · rw [q1.length, q2.length, ← line_eq]; exact hl
  · exact k p _ hp (q1.append q2)
theorem binop_mul_L {S : Store} {d1 d : D} {k : Int} (e : binop S .mul d1 (.int k) = some d) (h1 : ∀ i, d1 ≠ .int i) (h2 : ∀ i, d1 ≠ .str i) (h3 : ∀ i, d1 ≠ .tup i) :
    ∃ a, asL S d1 = some a ∧ -1000 ≤ k ∧ k ≤ 1000 ∧ a.length ≤ 1000 ∧ d = .vl (rep k a) := by
  have e' : ((asL S d1).bind fun a => if -1000 ≤ k ∧ k ≤ 1000 ∧ a.length ≤ 1000 then some (D.vl (rep k a)) else none) = some d := by
    cases d1 <;> first | exact absurd rfl (h1 _) | exact absurd rfl (h2 _) | exact absurd rfl (h3 _) | exact e
  obtain ⟨a, ea, e'⟩ := some_bind e'
  obtain ⟨⟨a1, a2, a3⟩, e'⟩ := some_if e'
  exact ⟨a, ea, a1, a2, a3, e'.symm⟩
theorem small_mul {n : Nat} {k : Int} (h : n ≤ 1000) (hk : k ≤ 1000) : n * k.toNat ≤ sizeLine := by
  rw [sizeLine_eq]
  have a1 : n * k.toNat ≤ 1000 * 1000 := Nat.mul_le_mul h (by omega)
  omega
theorem op_strTimes {x : Str} {j : Int} {pins : List (Addr × Obj)} {s : Shared} {σ : L2.St} {H : Hp} {v u : Value} {Q : VK} (I : Inv X pins σ H s) (rx : RelV (.str x) v) (ry : RelV (.int j) u) (h1 : -1000 ≤ j) (h2 : j ≤ 1000) (h3 : x.length ≤ 1000) (q : Q (.str (strTimes x j)) H) :
    wpAny (model X.prog X.w) X.A (binaryOp .Mult v u) (EP X pins σ Q) X.xe s := by
  obtain ⟨t, rfl⟩ := rx
  obtain ⟨t', rfl⟩ := ry
  have sz : x.length * j.toNat ≤ sizeLine := small_mul h3 h2
  refine P.mul_str (by rw [decide_eq_false (by omega), decide_eq_false (by omega)]; rfl) (fun a b => ?_) (fun a b => ?_) ?_
  · have hj : 0 < j := by omega
    intro z
    have : (x.length : Int) ≤ 1000 := by exact_mod_cast h3
    have e : (1000 : Int) ≤ (2 ^ 63 - 1) / j := by
      refine (Int.le_ediv_iff_mul_le hj).mpr ?_
      have : 1000 * j ≤ 1000 * 1000 := Int.mul_le_mul_of_nonneg_left h2 (by decide)
      omega
    omega
  · unfold Builtin.Str.tooLong
    exact decide_eq_false (by omega)
  · unfold strTimes at q
    by_cases c1 : j < 1
    · rw [if_pos c1] at q ⊢
      exact ⟨by decide, .str Str.empty, H, I.tok _, ⟨_, rfl⟩, q⟩
    · rw [if_neg c1] at q ⊢
      by_cases c2 : (j == 1 || x.length == 0) = true
      · rw [if_pos c2] at q ⊢
        exact ⟨.str x, H, I, ⟨_, rfl⟩, q⟩
      · rw [if_neg c2] at q ⊢
        refine ⟨?_, .str _, H, I.tok _, ⟨_, rfl⟩, q⟩
        have len : ∀ (n : Nat) (acc : Array Nat), ((List.replicate n x.cps).foldl (· ++ ·) acc).size = acc.size + n * x.cps.size := fun n => by
          induction n with
          | zero => intro acc; simp
          | succ n ih => intro acc; rw [List.replicate_succ, List.foldl_cons, ih, Array.size_append, Nat.succ_mul]; omega
        show ((List.replicate j.toNat x.cps).foldl (· ++ ·) #[]).size ≤ sizeLine
        rw [len, Array.size_empty, Nat.zero_add, Nat.mul_comm]
        exact sz
theorem opD_mulF : OpR X (binaryOp .Mult) (rDF G fun S => binop S .mul) := by
  intro pins s σ H x y v u Q I rx ry ⟨m, S, d1, d2, ds, c, r1, r2, e, k⟩
  have n1 : ∀ i, d1 ≠ .int i := fun i z => by
    subst z
    cases d2 <;> try cases e
    rename_i j
    obtain ⟨_, e⟩ := some_if (show (if i.natAbs.log2 + j.natAbs.log2 < 1000000 then some (D.int (i * j)) else none) = some (.vl ds) from e)
    cases e
  have n2 : ∀ i, d1 ≠ .str i := fun i z => by
    subst z
    cases d2 <;> try cases e
    rename_i j
    obtain ⟨_, e⟩ := some_if (show (if -1000 ≤ j ∧ j ≤ 1000 ∧ i.length ≤ 1000 then some (D.str (strTimes i j)) else none) = some (.vl ds) from e)
    cases e
  have n3 : ∀ i, d1 ≠ .tup i := fun i z => by
    subst z
    cases d2 <;> try cases e
    rename_i j
    obtain ⟨_, e⟩ := some_if (show (if -1000 ≤ j ∧ j ≤ 1000 ∧ i.length ≤ 1000 then some (D.tup (rep j i)) else none) = some (.vl ds) from e)
    cases e
  cases r2 with
  | int i =>
    obtain ⟨a, ea, a1, a2, a3, e'⟩ := binop_mul_L e n1 n2 n3
    cases e'
    obtain ⟨p1, xs, rfl, h1, q1⟩ := VR.lst c r1 ea
    exact op_rep pins s σ H _ _ v u Q I rx ry ⟨p1, i, xs, rfl, rfl, h1, by omega, by omega, by rw [q1.length]; exact small_mul a3 a2, fun p hp => k p _ hp (q1.rep _)⟩
  | _ => cases d1 <;> cases e
theorem opD_mul (hK : X.K = G.K) : OpR X (binaryOp .Mult) (rD G fun S => binop S .mul) := by
  intro pins s σ H x y v u Q I rx ry ⟨m, S, d1, d2, c, r1, r2, p⟩
  obtain ⟨d, e, k⟩ := p.val
  cases r2 with
  | int j =>
    have lists : (∀ i, d1 ≠ .int i) → (∀ i, d1 ≠ .str i) → (∀ i, d1 ≠ .tup i) → wpAny (model X.prog X.w) X.A (binaryOp .Mult v u) (EP X pins σ Q) X.xe s := fun h1 h2 h3 => by
      obtain ⟨a, ea, a1, a2, a3, rfl⟩ := binop_mul_L e h1 h2 h3
      obtain ⟨p1, xs, rfl, h1, q1⟩ := VR.lst c r1 ea
      refine op_rep pins s σ H _ _ v u Q I rx ry ⟨p1, j, xs, rfl, rfl, h1, by omega, by omega, by rw [q1.length]; exact small_mul a3 a2, fun p hp => ?_⟩
      obtain ⟨c', st, r⟩ := VR.newL c hp (q1.rep j.toNat)
      exact k _ m _ c' st r
    cases r1 with
    | int i =>
      obtain ⟨hl, rfl⟩ := some_if (show (if i.natAbs.log2 + j.natAbs.log2 < 1000000 then some (D.int (i * j)) else none) = some d from e)
      exact op_mulW pins s σ H _ _ v u Q I rx ry ⟨_, _, rfl, rfl, hl, k _ m H c Stp.refl (.int _)⟩
    | tup h q =>
      rename_i a xs ds
      obtain ⟨⟨a1, a2, a3⟩, rfl⟩ := some_if (show (if -1000 ≤ j ∧ j ≤ 1000 ∧ ds.length ≤ 1000 then some (D.tup (rep j ds)) else none) = some d from e)
      have qr : VRs G m H (List.replicate j.toNat xs).flatten (rep j ds) := q.rep j.toNat
      refine op_repTA pins s σ H _ _ v u Q I rx ry ⟨a, j, xs, rfl, rfl, hK ▸ h, a1, a2, by rw [q.length]; exact a3, fun z => ?_, fun p hp => ?_⟩
      · rw [z] at qr
        exact k _ m H c Stp.refl (.tup h qr)
      · obtain ⟨c', st, r⟩ := VR.newT c hp qr
        exact k _ m _ c' st r
    | str x =>
      obtain ⟨⟨a1, a2, a3⟩, rfl⟩ := some_if (show (if -1000 ≤ j ∧ j ≤ 1000 ∧ x.length ≤ 1000 then some (D.str (strTimes x j)) else none) = some d from e)
      exact op_strTimes I rx ry a1 a2 a3 (k _ m H c Stp.refl (.str _))
    | _ => exact lists (fun _ z => nomatch z) (fun _ z => nomatch z) (fun _ z => nomatch z)
  | _ => cases d1 <;> cases e
end
end RA

set_option Elab.async false
set_option linter.all false
set_option maxRecDepth 100000
set_option maxHeartbeats 4000000
set_option autoImplicit false
/-! B4: comparisons, subscripts, slices. -/
namespace RA
open PySem PySem.Spec PyProof.Rows L2
section
variable {G : Gd} {X : Cx} {m : Mm} {S : Store} {H : Hp} {pins : List (Addr × Obj)} {σ : L2.St} {s : Shared}
theorem some_if' {α : Type} {p : Prop} [Decidable p] {a : Option α} {b : α} (h : (if p then a else none) = some b) : p ∧ a = some b := by
  by_cases c : p
  · rw [if_pos c] at h; exact ⟨c, h⟩
  · rw [if_neg c] at h; cases h
theorem eqd_some {S : Store} {x y : D} {b : Bool} (e : eqd S x y = some b) : ∃ p q, pd S x = some p ∧ pd S y = some q ∧ min p.depth q.depth ≤ 60 ∧ p.eqv q = b := by
  obtain ⟨p, e1, e⟩ := some_bind e
  obtain ⟨q, e2, e⟩ := some_bind e
  obtain ⟨h, e⟩ := some_if e
  exact ⟨p, q, e1, e2, h, e⟩
theorem opD_eq (hK : X.K = G.K) (hu : X.A.units + 64 < cLine) : OpR X (compareOp .Eq) (rD G fun S => cmpop S .eq) := by
  intro pins s σ H x y v u Q I rx ry ⟨m, S, d1, d2, c, r1, r2, p⟩
  obtain ⟨d, e, k⟩ := p.val
  obtain ⟨b, e0, rfl⟩ := some_map (show (eqd S d1 d2).map D.bl = some d from e)
  obtain ⟨p, q, e1, e2, h, rfl⟩ := eqd_some e0
  obtain ⟨h1, as, ra⟩ := reads_of hK I c r1 e1 rx
  obtain ⟨h2, bs, rb⟩ := reads_of hK I c r2 e2 ry
  exact SeqAt.eq_plain ra rb h1 h2 (by omega) ⟨.bl _, H, I, rfl, k _ m H c Stp.refl (.bl _)⟩
theorem opD_ne (hK : X.K = G.K) (hu : X.A.units + 64 < cLine) : OpR X (compareOp .NotEq) (rD G fun S => cmpop S .ne) := by
  intro pins s σ H x y v u Q I rx ry ⟨m, S, d1, d2, c, r1, r2, p⟩
  obtain ⟨d, e, k⟩ := p.val
  obtain ⟨b, e0, rfl⟩ := some_map (show (eqd S d1 d2).map (fun b => D.bl (!b)) = some d from e)
  obtain ⟨p, q, e1, e2, h, rfl⟩ := eqd_some e0
  obtain ⟨h1, as, ra⟩ := reads_of hK I c r1 e1 rx
  obtain ⟨h2, bs, rb⟩ := reads_of hK I c r2 e2 ry
  exact SeqAt.ne_plain ra rb h1 h2 (by omega) ⟨.bl _, H, I, rfl, k _ m H c Stp.refl (.bl _)⟩
theorem opD_lt : OpR X (compareOp .Lt) (rD G fun S => cmpop S .lt) := by
  intro pins s σ H x y v u Q I rx ry ⟨m, S, d1, d2, c, r1, r2, p⟩
  obtain ⟨d, e, k⟩ := p.val
  obtain ⟨b, e0, rfl⟩ := some_map (show (lts d1 d2).map D.bl = some d from e)
  cases r1 <;> cases r2 <;> cases e0
  · exact op_lt pins s σ H _ _ v u Q I rx ry ⟨_, _, rfl, rfl, k _ m H c Stp.refl (.bl _)⟩
  · exact op_lt_str pins s σ H _ _ v u Q I rx ry ⟨_, _, rfl, rfl, k _ m H c Stp.refl (.bl _)⟩
theorem opD_gt : OpR X (compareOp .Gt) (rD G fun S => cmpop S .gt) := by
  intro pins s σ H x y v u Q I rx ry ⟨m, S, d1, d2, c, r1, r2, p⟩
  obtain ⟨d, e, k⟩ := p.val
  obtain ⟨b, e0, rfl⟩ := some_map (show (lts d2 d1).map D.bl = some d from e)
  cases r1 <;> cases r2 <;> cases e0
  · exact op_gt pins s σ H _ _ v u Q I rx ry ⟨_, _, rfl, rfl, k _ m H c Stp.refl (.bl _)⟩
  · exact op_gt_str pins s σ H _ _ v u Q I rx ry ⟨_, _, rfl, rfl, k _ m H c Stp.refl (.bl _)⟩
theorem opD_le : OpR X (compareOp .LtE) (rD G fun S => cmpop S .le) := by
  intro pins s σ H x y v u Q I rx ry ⟨m, S, d1, d2, c, r1, r2, p⟩
  obtain ⟨d, e, k⟩ := p.val
  obtain ⟨b, e0, rfl⟩ := some_map (show (les d1 d2).map D.bl = some d from e)
  cases r1 <;> cases r2 <;> cases e0
  exact op_le pins s σ H _ _ v u Q I rx ry ⟨_, _, rfl, rfl, k _ m H c Stp.refl (.bl _)⟩
theorem opD_ge : OpR X (compareOp .GtE) (rD G fun S => cmpop S .ge) := by
  intro pins s σ H x y v u Q I rx ry ⟨m, S, d1, d2, c, r1, r2, p⟩
  obtain ⟨d, e, k⟩ := p.val
  obtain ⟨b, e0, rfl⟩ := some_map (show (les d2 d1).map D.bl = some d from e)
  cases r1 <;> cases r2 <;> cases e0
  exact op_ge pins s σ H _ _ v u Q I rx ry ⟨_, _, rfl, rfl, k _ m H c Stp.refl (.bl _)⟩
/-- is, of None and of truth values -/
theorem is_of {f : Bool → Bool} {op : CmpOp} (h1 : OpR X (compareOp op) (fun x y H Q => y = .non ∧ Q (.bl (f (decide (x = .non)))) H)) (h2 : OpR X (compareOp op) (fun x y H Q => ∃ a b : Bool, x = .bl a ∧ y = .bl b ∧ Q (.bl (f (decide (a = b)))) H)) :
    OpR X (compareOp op) (rD G fun _ d1 d2 => (sameAs d1 d2).map fun b => .bl (f b)) := by
  intro pins s σ H x y v u Q I rx ry ⟨m, S, d1, d2, c, r1, r2, p⟩
  obtain ⟨d, e, k⟩ := p.val
  obtain ⟨b, e0, rfl⟩ := some_map (show (sameAs d1 d2).map (fun b => D.bl (f b)) = some d from e)
  cases r2 with
  | non =>
    refine h1 pins s σ H _ _ v u Q I rx ry ⟨rfl, ?_⟩
    have eb : b = decide (x = .non) := by cases r1 <;> cases e0 <;> simp
    rw [← eb]
    exact k _ m H c Stp.refl (.bl _)
  | bl b2 =>
    cases r1 with
    | bl b1 =>
      cases e0
      refine h2 pins s σ H _ _ v u Q I rx ry ⟨_, _, rfl, rfl, ?_⟩
      have : decide (b1 = b2) = (b1 == b2) := by cases b1 <;> cases b2 <;> rfl
      rw [this]
      exact k _ m H c Stp.refl (.bl _)
    | _ => cases e0
  | _ => cases r1 <;> cases e0
theorem opD_is : OpR X (compareOp .Is) (rD G fun S => cmpop S .is) := is_of (f := fun b => b) op_isN op_isBl
theorem opD_isn : OpR X (compareOp .IsNot) (rD G fun S => cmpop S .isn) := is_of (f := fun b => !b) op_notN op_notBl
theorem depthAll_le {ps : List PyData} {n : Nat} : min n (PyData.depthAll ps) ≤ n := Nat.min_le_left _ _
theorem opD_in_of {f : Bool → Bool} {op : CmpOp} (hK : X.K = G.K) (hu : X.A.units + 64 < cLine)
    (h1 : OpR X (compareOp op) (fun x y H Q => ∃ i j, x = .str i ∧ y = .str j ∧ Q (.bl (f (!(Builtin.Str.occurrences j i 0 j.length 1).isEmpty))) H))
    (h2 : ∀ {c x : Value} {xs : List PyData} {d : PyData} {as bs : List Addr} {Q : Value → Shared → Prop} {s : Shared}, Reads s.heap c (.list xs) as → Reads s.heap x d bs → PyData.plainAll xs = true → d.plain = true →
      X.A.units + 1 + min (PyData.depthAll xs) d.depth < cLine → Q (.bool (f (xs.any fun y => PyData.eqv y d))) s → wpAny (model X.prog X.w) X.A (compareOp op x c) Q X.xe s)
    (h3 : ∀ {c x : Value} {xs : List PyData} {d : PyData} {as bs : List Addr} {Q : Value → Shared → Prop} {s : Shared}, Reads s.heap c (.tuple xs) as → Reads s.heap x d bs → PyData.plainAll xs = true → d.plain = true →
      X.A.units + 1 + min (PyData.depthAll xs) d.depth < cLine → Q (.bool (f (xs.any fun y => PyData.eqv y d))) s → wpAny (model X.prog X.w) X.A (compareOp op x c) Q X.xe s) :
    OpR X (compareOp op) (rD G fun S d1 d2 => (isIn S d1 d2).map fun b => .bl (f b)) := by
  intro pins s σ H x y v u Q I rx ry ⟨m, S, d1, d2, c, r1, r2, p⟩
  obtain ⟨d, e, k⟩ := p.val
  obtain ⟨b, e0, rfl⟩ := some_map (show (isIn S d1 d2).map (fun b => D.bl (f b)) = some d from e)
  have seqs : (∀ i j, ¬ (d1 = .str i ∧ d2 = .str j)) → wpAny (model X.prog X.w) X.A (compareOp op v u) (EP X pins σ Q) X.xe s := fun no => by
    have e1 : ((asQ S d2).bind fun ds => (pd S d1).bind fun p => (pds S ds).bind fun qs => if p.depth ≤ 60 then some (qs.any fun q => q.eqv p) else none) = some b := by
      cases d1 <;> first
        | exact e0
        | (cases d2 <;> first
            | exact e0
            | exact absurd ⟨rfl, rfl⟩ (no _ _))
    obtain ⟨ds, q1, e1⟩ := some_bind e1
    obtain ⟨pv, q2, e1⟩ := some_bind e1
    obtain ⟨qs, q3, e1⟩ := some_bind e1
    obtain ⟨hd, e1⟩ := some_if e1
    subst e1
    obtain ⟨h5, bs, rb⟩ := reads_of hK I c r1 q2 rx
    obtain ⟨a, xs, rfl, hs, rs⟩ := VR.seq c r2 q1
    cases ry
    have hm : min (PyData.depthAll qs) pv.depth ≤ 60 := Nat.le_trans (Nat.min_le_right _ _) hd
    rcases hs with hs | hs
    · obtain ⟨its, rv, ⟨o, n, ho, hc, _, hd'⟩, _⟩ := I.list (hK ▸ hs)
      obtain ⟨h6, as, ra⟩ := readsAll_of hK I c rs q3 rv
      exact h2 (.list ho hc hd' ra) rb h6 h5 (by omega) ⟨.bl _, H, I, rfl, k _ m H c Stp.refl (.bl _)⟩
    · obtain ⟨its, rv, ⟨o, ho, hc, n, hd'⟩, _⟩ := I.tuple (hK ▸ hs)
      obtain ⟨h6, as, ra⟩ := readsAll_of hK I c rs q3 rv
      exact h3 (.tuple ho hc hd' ra) rb h6 h5 (by omega) ⟨.bl _, H, I, rfl, k _ m H c Stp.refl (.bl _)⟩
  cases r1 with
  | str i =>
    cases r2 with
    | str j =>
      cases e0
      exact h1 pins s σ H _ _ v u Q I rx ry ⟨_, _, rfl, rfl, k _ m H c Stp.refl (.bl _)⟩
    | _ => exact seqs fun _ _ z => nomatch z.2
  | _ => exact seqs fun _ _ z => nomatch z.1
theorem opD_in (hK : X.K = G.K) (hu : X.A.units + 64 < cLine) : OpR X (compareOp .In) (rD G fun S => cmpop S .isin) :=
  opD_in_of (f := fun b => b) hK hu op_in_str (fun a b c d e f => SeqAt.in_list_data a b c d e f) (fun a b c d e f => SeqAt.in_tuple_data a b c d e f)
theorem opD_nin (hK : X.K = G.K) (hu : X.A.units + 64 < cLine) : OpR X (compareOp .NotIn) (rD G fun S => cmpop S .nin) :=
  opD_in_of (f := fun b => !b) hK hu op_notin_str (fun a b c d e f => SeqAt.notIn_list_data a b c d e f) (fun a b c d e f => SeqAt.notIn_tuple_data a b c d e f)

/-! ### subscripts -/
theorem natIx_eq (n : Nat) (i : Int) : natIx n i = ixN n i := rfl
theorem ixD (hK : X.K = G.K) : IxR X (rD G sub) := by
  intro value slice pins s σ H x y v u Q I rx ry ⟨m, S, d1, d2, c, r1, r2, p⟩ hs
  obtain ⟨d, e, k⟩ := p.val
  cases r2 with
  | int i =>
    have seqs : (∀ z, d1 ≠ .str z) → wpAny (model X.prog X.w) X.A (subscriptTail value slice v u) (EP X pins σ Q) X.xe s := fun no => by
      have e1 : ((asQ S d1).bind fun ds => (natIx ds.length i).bind fun j => ds[j]?) = some d := by
        cases d1 <;> first | exact e | exact absurd rfl (no _)
      obtain ⟨ds, q1, e1⟩ := some_bind e1
      obtain ⟨j, q2, e1⟩ := some_bind e1
      obtain ⟨a, xs, rfl, hq, rs⟩ := VR.seq c r1 q1
      obtain ⟨z, hz, rz⟩ := rs.get e1
      have at' : atI xs i = some z := by
        unfold atI
        rw [rs.length, ← natIx_eq, q2]
        exact hz
      rcases hq with hq | hq
      · exact ix_list value slice pins s σ H _ _ v u Q I rx ry ⟨a, xs, i, z, rfl, rfl, hK ▸ hq, at', k _ m H c Stp.refl rz⟩ hs
      · exact ix_tup value slice pins s σ H _ _ v u Q I rx ry ⟨a, xs, i, z, rfl, rfl, hK ▸ hq, at', k _ m H c Stp.refl rz⟩ hs
    cases r1 with
    | str z =>
      obtain ⟨hl, e1⟩ := some_if' (show (if z.length ≤ LINE then (natIx z.length i).bind fun j => (z.cps[j]?).map fun c => D.str ⟨#[c]⟩ else none) = some d from e)
      obtain ⟨j, q2, e1⟩ := some_bind e1
      obtain ⟨cc, q3, rfl⟩ := some_map e1
      refine ix_str value slice pins s σ H _ _ v u Q I rx ry ⟨z, i, cc, rfl, rfl, by rw [← line_eq]; exact hl, ?_, k _ m H c Stp.refl (.str _)⟩ hs
      unfold atI
      rw [Array.length_toList]
      show (ixN z.length i).bind _ = _
      rw [← natIx_eq, q2]
      simpa using q3
    | _ => exact seqs fun _ z => nomatch z
  | _ => cases e
/-! ### slices -/
theorem cut_eq (xs : List V) (a b : Option Int) : cut xs a b = cutV xs a b := by
  have h : ∀ (n d : Nat) (o : Option Int), six n d o = HT.sIx n d o := fun n d o => by cases o <;> rfl
  unfold cut cutV
  rw [h, h]
theorem VRs.cut {xs : List V} {ds : List D} (r : VRs G m H xs ds) (a b : Option Int) : VRs G m H (RA.cut xs a b) (RA.cut ds a b) := by
  unfold RA.cut
  rw [r.length]
  exact (r.drop _).take _
/-- by values: a part of a slice -/
def partV (lo : Option Int) (d : D) : Prop := bound d = some lo
def rSD (G : Gd) : V → Option Int → Option Int → Hp → VK → Prop := fun x lo hi H Q => ∃ m S d1 d2 d3, Cf G m S H ∧ VR G m H x d1 ∧ bound d2 = some lo ∧ bound d3 = some hi ∧ Post G m H (lift S (slice S d1 d2 d3)) (VR G) Q fun _ _ _ => False
theorem slD (hK : X.K = G.K) : SlR X (rSD G) := by
  intro pins s σ H x v vl vu lo hi sl Q I rx hs pl pu ⟨m, S, d1, d2, d3, c, r1, b2, b3, p⟩
  obtain ⟨d, e, k⟩ := p.val
  have e1 : slice2 S d1 lo hi = some d := by
    unfold slice at e
    rw [b2, b3] at e
    exact e
  have lists : ∀ ds, asL S d1 = some ds → d = .vl (RA.cut ds lo hi) → ∃ T id, typeLookup (.type T) "__getitem__" = pure (some (.builtin id)) ∧ s.TypeIs v T ∧ wpAny (model X.prog X.w) X.A (getItem v (.ref sl)) (EP X pins σ Q) X.xe s := fun ds q1 q2 => by
    subst q2
    obtain ⟨a, xs, rfl, hq, rs⟩ := VR.lst c r1 q1
    refine sl_list pins s σ H _ v vl vu lo hi sl Q I rx hs pl pu ⟨a, xs, rfl, .of hq, fun p hp => ?_⟩
    rw [← cut_eq]
    obtain ⟨c', st, r⟩ := VR.newL c hp (rs.cut lo hi)
    exact k _ m _ c' st r
  cases r1 with
  | tup h q =>
    rename_i a xs ds
    cases e1
    refine sl_tupA pins s σ H _ v vl vu lo hi sl Q I rx hs pl pu ⟨a, xs, rfl, hK ▸ h, fun z => ?_, fun _ p hp => ?_⟩
    · have hq := q.cut lo hi
      have : RA.cut xs lo hi = xs := by
        rw [cut_eq]
        unfold cutV
        rw [z.1, z.2]
        simp
      rw [this] at hq
      exact k _ m H c Stp.refl (.tup h hq)
    · rw [← cut_eq]
      obtain ⟨c', st, r⟩ := VR.newT c hp (q.cut lo hi)
      exact k _ m _ c' st r
  | vl h hm q =>
    obtain ⟨ds, q1, q2⟩ := some_map (show (asL S (.vl _)).map (fun ds => D.vl (RA.cut ds lo hi)) = some d from e1)
    exact lists ds q1 q2.symm
  | ref h =>
    obtain ⟨ds, q1, q2⟩ := some_map (show (asL S (.ref _)).map (fun ds => D.vl (RA.cut ds lo hi)) = some d from e1)
    exact lists ds q1 q2.symm
  | _ => cases e1

/-! ### x[::-1] of a tuple, a list -/
theorem sliceApplied_rev {prog : Program} {w : World} {A : Around} {E : Value → Shared → Prop} {s : Shared} {sl : Addr} {t : Tok} {n : Nat} {Q : Int × Int × Nat → Shared → Prop} (hs : s.heap.IsSliceOf sl .none .none (.int (-1) t))
    (h : Q ((n : Int) - 1, -1, n) s) : wpAny (model prog w) A (Builtin.Slice.sliceApplied (.ref sl) (pure (n : Int))) Q E s := by
  obtain ⟨os, hos, hcs, hds⟩ := id hs
  unfold Builtin.Slice.sliceApplied Builtin.Slice.sliceFields
  refine wpAny_bind (wpAny_bind (wpAny_field hos hds (x := .none) rfl (wpAny_bind (wpAny_field hos hds (x := .none) rfl (wpAny_bind (wpAny_field hos hds (x := .int (-1) t) rfl (wpAny_pure ?_)))))))
  refine wpAny_bind (slicePart_int ?_)
  show wpAny _ _ (if ((-1 : Int) == 0) = true then _ else _) _ _ s
  rw [if_neg (by decide)]
  refine wpAny_bind (slicePart_none (wpAny_bind (slicePart_none (wpAny_bind (wpAny_pure ?_)))))
  show wpAny _ _ (match Builtin.Slice.sliceAdjust none none (-1) (n : Int) with | (lo, hi) => pure (lo, (-1 : Int), Builtin.Slice.slicePlaces lo hi (-1))) _ _ s
  have e1 : Builtin.Slice.sliceAdjust none none (-1) (n : Int) = ((n : Int) - 1, -1) := by
    unfold Builtin.Slice.sliceAdjust
    simp
  rw [e1]
  show wpAny _ _ (pure ((n : Int) - 1, (-1 : Int), Builtin.Slice.slicePlaces ((n : Int) - 1) (-1) (-1))) _ _ s
  have e2 : Builtin.Slice.slicePlaces ((n : Int) - 1) (-1) (-1) = n := by
    unfold Builtin.Slice.slicePlaces
    simp
    omega
  rw [e2]
  exact wpAny_pure h
theorem fm_congr {α β : Type} {f g : α → Option β} : ∀ l : List α, (∀ a ∈ l, f a = g a) → l.filterMap f = l.filterMap g
  | [], _ => rfl
  | a :: l, h => by rw [List.filterMap_cons, List.filterMap_cons, h a List.mem_cons_self, fm_congr l fun b hb => h b (List.mem_cons_of_mem _ hb)]
theorem pick_rev (xs : Array Value) : ((List.range xs.size).filterMap fun (m : Nat) => xs[((xs.size : Int) - 1 + (m : Int) * (-1)).toNat]?).toArray = xs.toList.reverse.toArray := by
  have h := PySem.W.krv_pick xs
  unfold slicePick at h
  rw [PySem.W.krv_bounds] at h
  have h' : ((sliceRange ((xs.size : Int) - 1) (-1) (-1)).filterMap (xs[·]?)).toArray = xs.toList.reverse.toArray := h
  rw [PySem.W.krv_sliceRange, List.filterMap_map] at h'
  rw [← h']
  congr 1
  refine fm_congr _ fun k hk => ?_
  have := List.mem_range.mp hk
  show xs[((xs.size : Int) - 1 + (k : Int) * (-1)).toNat]? = xs[xs.size - 1 - k]?
  congr 1
  omega
end
end RA

set_option Elab.async false
set_option linter.all false
set_option maxRecDepth 100000
set_option maxHeartbeats 4000000
set_option autoImplicit false
/-! B5: reversed slices, the built-in functions. -/
namespace RA
open PySem PySem.Spec PyProof.Rows L2
section
variable {G : Gd} {X : Cx} {m : Mm} {S : Store} {H : Hp} {pins : List (Addr × Obj)} {σ : L2.St} {s : Shared}
/-- t[::-1] -/
theorem getItem_tuple_rev {prog : Program} {w : World} {A : Around} {E : Value → Shared → Prop} {s : Shared} {t sl : Addr} {k : Tok} {items : Array Value} {Q : Value → Shared → Prop} (ht : IsTup s.heap t items) (hs : s.heap.IsSliceOf sl .none .none (.int (-1) k))
    (h : Q (.ref s.heap.objs.size) { s with heap := s.heap.push { cls := .type "tuple", data := .seq items.toList.reverse.toArray } })
    (hsz : items.size ≤ sizeLine) : wpAny (model prog w) A (getItem (.ref t) (.ref sl)) Q E s := by
  have htake : sizeOk (.seq items.toList.reverse.toArray) := by
    show items.toList.reverse.toArray.size ≤ sizeLine
    rw [List.size_toArray, List.length_reverse, Array.length_toList]
    exact hsz
  obtain ⟨os, hos, hcs, hds⟩ := id hs
  have hTs : s.TypeIs (.ref sl) "slice" := ⟨os, hos, hcs⟩
  unfold getItem
  try with_reducible refine wpAny_holding ?_
  first | refine wpAny_bind (wpAny_pure ?_) | skip
  refine wpAny_bind (wpAny_sequenceKey ht.typeIs (by decide) ?_)
  refine wpAny_bind (wpAny_callSpecial?_slot (name := Str.ofString "__getitem__") ht.typeIs PyProof.Rows.slot_tuple_getitem
    (wpAny_call_entry PyProof.Rows.slot_tuple_getitem ht.typeIs entry_tuple_getitem ?_ (args_tuple_getitem _ _)))
  show wpAny _ _ (Builtin.Tuple.tupleItemsOf (.ref t) >>= _) _ _ s
  refine wpAny_bind (tupleItemsOf_ ht ?_)
  refine wpAny_bind (wpAny_typeOf hTs ?_)
  rw [if_pos (by decide)]
  refine wpAny_bind (sliceApplied_rev hs ?_)
  have hno : ¬ ((((items.size : Int) - 1) == 0 && (-1 : Int) == 1 && items.size == items.size) = true) := by
    intro q
    rw [Bool.and_eq_true, Bool.and_eq_true] at q
    exact absurd q.1.2 (by decide)
  show wpAny _ _ (if (((items.size : Int) - 1) == 0 && (-1 : Int) == 1 && items.size == items.size) = true then _ else _) _ _ s
  rw [if_neg hno, pick_rev]
  first
    | exact wpAny_bind (m := Builtin.Tuple.tupleExact _) (wpAny_newObj_type (wpAny_pure ⟨_, rfl, wpAny_pure h⟩) htake)
    | exact wpAny_bind (m := Builtin.Tuple.tupleExact _) (wpAny_newObj_type (wpAny_bind (wpAny_pure (wpAny_pure ⟨_, rfl, wpAny_pure h⟩))) htake)
    | exact wpAny_bind (wpAny_bind (m := Builtin.Tuple.tupleExact _) (wpAny_newObj_type (wpAny_pure (wpAny_pure ⟨_, rfl, wpAny_pure h⟩)) htake))
    | exact wpAny_bind (wpAny_bind (m := Builtin.Tuple.tupleExact _) (wpAny_newObj_type (wpAny_pure ⟨_, rfl, wpAny_pure h⟩) htake))
def rRev (G : Gd) (x : V) (H : Hp) (Q : VK) : Prop := ∃ m S d, Cf G m S H ∧ VR G m H x d ∧ Post G m H (lift S (rev S d)) (VR G) Q fun _ _ _ => False
theorem pe_rev (hK : X.K = G.K) {e : Expr} {te : TE} {k : Nat} {p1 p2 p3 pos : Pos} (he : PE X e te) : PE X (.Subscript e (.Slice none none (some (.UnaryOp .USub (.Constant (.int 1) k p1) p2)) p3) pos) (fun σ H Q => te σ H fun x H1 => rRev G x H1 Q) := by
  refine ⟨fun pins s σ H Q I h => ?_⟩
  refine Subscript_ (thn (he.run pins s σ H _ I h) fun v s1 ⟨x, H1, I1, r1, q1⟩ => ?_)
  obtain ⟨m, S, d, c, r, p⟩ := q1
  obtain ⟨d', e', q⟩ := p.val
  have hst : PO X (some (.UnaryOp .USub (.Constant (.int 1) k p1) p2)) (tPart (tUn (rU fun i => .int (-i)) (tC (.int 1)))) := po_some (pe_un un_neg pe_int)
  refine wpAny_Slice (thn (po_none.run pins s1 σ H1 (fun o H2 => o = none ∧ H2 = H1) I1 ⟨rfl, rfl⟩) fun vl s2 ⟨l, H2, I2, pl, el, e2⟩ => ?_)
  subst el e2
  refine thn (po_none.run pins s2 σ H2 (fun o H3 => o = none ∧ H3 = H2) I2 ⟨rfl, rfl⟩) fun vu s3 ⟨u, H3, I3, pu, eu, e3⟩ => ?_
  subst eu e3
  refine thn (hst.run pins s3 σ H3 (fun o H4 => o = some (-1) ∧ H4 = H3) I3 ⟨1, rfl, -1, rfl, rfl, rfl⟩) fun vs s4 ⟨o, H4, I4, ps, eo, e4⟩ => ?_
  subst eo e4
  have I5 : Inv X pins σ H4 { s4 with heap := s4.heap.push { cls := .type "slice", data := .fields #[vl, vu, vs] } } := I4.kept (t' := s4.toks) fun b ob q => Heap.get?_push_of_some _ q
  have lists : ∀ ds, asL S d = some ds → d' = .vl ds.reverse → wpAny (model X.prog X.w) X.A (subscriptTail e (.Slice none none (some (.UnaryOp .USub (.Constant (.int 1) k p1) p2)) p3) v (.ref s4.heap.objs.size)) (EP X pins σ Q) X.xe { s4 with heap := s4.heap.push { cls := .type "slice", data := .fields #[vl, vu, vs] } } := fun ds q1 q2 => by
    subst q2
    obtain ⟨a, xs, rfl, hx, rs⟩ := VR.lst c r q1
    cases r1
    obtain ⟨its, rv, ht, hz⟩ := I5.list (.of hx)
    have hlen := rv.length
    refine tail_any (ops := [.ref a, .ref s4.heap.objs.size]) ht.isList.typeIs (PySem.slot_list_getitem.lookup) ?_ (by with_unfolding_all rfl)
    refine wpAny_getItem_list_slice ht.isList (Heap.IsSliceOf.new _ vl vu vs) pl pu ps (by decide) ?_ (by rw [List.size_toArray]; omega)
    rw [PySem.W.krv_pick]
    obtain ⟨c', st, rr⟩ := VR.newL c (I5.hok.fresh (Nat.le_refl _)) rs.reverse
    refine ⟨.ref _, _, I5.laid (t' := s4.toks) (o := .lst xs.reverse) (fun b ob q => Heap.get?_push_of_some _ q) (Nat.le_refl _) ?_, rfl, q _ m _ c' st rr⟩
    exact ⟨by rw [List.length_reverse]; exact hz, _, 0, rv.reverse, Heap.get?_push_size _ rfl⟩
  show wpAny (model X.prog X.w) X.A (subscriptTail e (.Slice none none (some (.UnaryOp .USub (.Constant (.int 1) k p1) p2)) p3) v (.ref s4.heap.objs.size)) (EP X pins σ Q) X.xe { s4 with heap := s4.heap.push { cls := .type "slice", data := .fields #[vl, vu, vs] } }
  cases r with
  | tup h rs =>
    rename_i a xs ds
    cases e'
    cases r1
    cases pl; cases pu
    obtain ⟨t, rfl⟩ : ∃ t, vs = .int (-1) t := by cases ps; exact ⟨_, rfl⟩
    obtain ⟨its, rv, ht, hz⟩ := I5.tuple (hK ▸ h)
    have hlen := rv.length
    refine tail_any (ops := [.ref a, .ref s4.heap.objs.size]) ht.typeIs PyProof.Rows.slot_tuple_getitem.lookup ?_ (by with_unfolding_all rfl)
    refine getItem_tuple_rev ht (Heap.IsSliceOf.new _ _ _ _) ?_ (by rw [List.size_toArray]; omega)
    obtain ⟨c', st, rr⟩ := VR.newT c (I5.hok.fresh (Nat.le_refl _)) rs.reverse
    refine ⟨.ref _, _, I5.laid (t' := s4.toks) (o := .tup xs.reverse) (fun b ob q => Heap.get?_push_of_some _ q) (Nat.le_refl _) ?_, rfl, q _ m _ c' st rr⟩
    exact ⟨by rw [List.length_reverse]; exact hz, its.reverse, rv.reverse, _, Heap.get?_push_size _ rfl, rfl, _, rfl⟩
  | vl h hm rs => cases e'; exact lists _ rfl rfl
  | ref h =>
    obtain ⟨ds, q1, q2⟩ := some_map (show (asL S (.ref _)).map (fun ds => D.vl ds.reverse) = some d' from e')
    exact lists ds q1 q2.symm
  | _ => cases e'

/-! ### built-in functions -/
def rB (G : Gd) (f : BF) : List V → Hp → VK → Prop := fun xs H Q => ∃ m S ds, Cf G m S H ∧ VRs G m H xs ds ∧ Post G m H (lift S (bcall S f ds)) (VR G) Q fun _ _ _ => False
theorem VRs.one {xs : List V} {ds : List D} {d : D} (r : VRs G m H xs ds) (e : ds = [d]) : ∃ x, xs = [x] ∧ VR G m H x d := by
  subst e
  cases r with
  | cons a b => cases b; exact ⟨_, rfl, a⟩
theorem VRs.two {xs : List V} {ds : List D} {d e' : D} (r : VRs G m H xs ds) (e : ds = [d, e']) : ∃ x y, xs = [x, y] ∧ VR G m H x d ∧ VR G m H y e' := by
  subst e
  cases r with
  | cons a b =>
    cases b with
    | cons b c => cases c; exact ⟨_, _, rfl, a, b⟩
theorem one_some {α : Type} {f : D → Option α} {ds : List D} {a : α} (e : one f ds = some a) : ∃ x, ds = [x] ∧ f x = some a := by
  match ds, e with
  | [x], e => exact ⟨x, rfl, e⟩
theorem two_some {α : Type} {f : D → D → Option α} {ds : List D} {a : α} (e : two f ds = some a) : ∃ x y, ds = [x, y] ∧ f x y = some a := by
  match ds, e with
  | [x, y], e => exact ⟨x, y, rfl, e⟩
theorem bD_abs : CallR X (.builtin "abs") (rB G .abs) := by
  intro pins s σ H xs us Q I rv ⟨m, S, ds, c, r, p⟩
  obtain ⟨d, e, k⟩ := p.val
  obtain ⟨x, rfl, e⟩ := one_some (show one absD ds = some d from e)
  obtain ⟨v, rfl, r1⟩ := r.one rfl
  cases r1 <;> cases e
  exact call_abs pins s σ H _ us Q I rv ⟨_, rfl, k _ m H c Stp.refl (.int _)⟩
theorem bD_int : CallR X (.type "int") (rB G .int) := by
  intro pins s σ H xs us Q I rv ⟨m, S, ds, c, r, p⟩
  obtain ⟨d, e, k⟩ := p.val
  obtain ⟨x, rfl, e⟩ := one_some (show one intD ds = some d from e)
  obtain ⟨v, rfl, r1⟩ := r.one rfl
  cases r1 <;> cases e
  · exact call_int1 pins s σ H _ us Q I rv (.inr ⟨_, rfl, k _ m H c Stp.refl (.int _)⟩)
  · exact call_int1 pins s σ H _ us Q I rv (.inl ⟨_, rfl, k _ m H c Stp.refl (.int _)⟩)
theorem bD_str : CallR X (.type "str") (rB G .str) := by
  intro pins s σ H xs us Q I rv ⟨m, S, ds, c, r, p⟩
  obtain ⟨d, e, k⟩ := p.val
  obtain ⟨x, rfl, e⟩ := one_some (show one strD ds = some d from e)
  obtain ⟨v, rfl, r1⟩ := r.one rfl
  cases r1 with
  | int i =>
    obtain ⟨h, rfl⟩ := some_if (show (if i.natAbs.log2 < 1920 then some (D.str (toString i)) else none) = some d from e)
    exact call_str_int pins s σ H _ us Q I rv ⟨i, rfl, h, k _ m H c Stp.refl (.str _)⟩
  | str i =>
    cases e
    exact SkE.call_str_str pins s σ H _ us Q I rv ⟨i, rfl, k _ m H c Stp.refl (.str _)⟩
  | _ => cases e
theorem bD_sum (hc : X.calm = true) : CallR X (.builtin "sum") (rB G .sum) := by
  intro pins s σ H xs us Q I rv ⟨m, S, ds, c, r, p⟩
  obtain ⟨d, e, k⟩ := p.val
  obtain ⟨x, rfl, e⟩ := one_some (show one (fun x => (asL S x).bind fun ds => (intsOf ds).map fun l => D.int l.sum) ds = some d from e)
  obtain ⟨v, rfl, r1⟩ := r.one rfl
  obtain ⟨ds, q1, e⟩ := some_bind e
  obtain ⟨l, q2, rfl⟩ := some_map e
  obtain ⟨a, xs, rfl, hx, rs⟩ := VR.lst c r1 q1
  have := rs.ints_of q2
  subst this
  exact cr_sum hc pins s σ H _ us Q I rv ⟨a, l, rfl, .of hx, k _ m H c Stp.refl (.int _)⟩
theorem bD_all (hc : X.calm = true) : CallR X (.builtin "all") (rB G .all) := by
  intro pins s σ H xs us Q I rv ⟨m, S, ds, c, r, p⟩
  obtain ⟨d, e, k⟩ := p.val
  obtain ⟨x, rfl, e⟩ := one_some (show one (fun x => (asL S x).bind fun ds => (boolsOf ds).map fun l => D.bl (l.all id)) ds = some d from e)
  obtain ⟨v, rfl, r1⟩ := r.one rfl
  obtain ⟨ds, q1, e⟩ := some_bind e
  obtain ⟨l, q2, rfl⟩ := some_map e
  obtain ⟨a, xs, rfl, hx, rs⟩ := VR.lst c r1 q1
  have := rs.bools_of q2
  subst this
  exact cr_all hc pins s σ H _ us Q I rv ⟨a, l, rfl, .of hx, k _ m H c Stp.refl (.bl _)⟩
theorem bD_any (hc : X.calm = true) : CallR X (.builtin "any") (rB G .any) := by
  intro pins s σ H xs us Q I rv ⟨m, S, ds, c, r, p⟩
  obtain ⟨d, e, k⟩ := p.val
  obtain ⟨x, rfl, e⟩ := one_some (show one (fun x => (asL S x).bind fun ds => (boolsOf ds).map fun l => D.bl (l.any id)) ds = some d from e)
  obtain ⟨v, rfl, r1⟩ := r.one rfl
  obtain ⟨ds, q1, e⟩ := some_bind e
  obtain ⟨l, q2, rfl⟩ := some_map e
  obtain ⟨a, xs, rfl, hx, rs⟩ := VR.lst c r1 q1
  have := rs.bools_of q2
  subst this
  exact cr_any hc pins s σ H _ us Q I rv ⟨a, l, rfl, .of hx, k _ m H c Stp.refl (.bl _)⟩
theorem bD_len (hK : X.K = G.K) : CallR X (.builtin "len") (rB G .len) := by
  intro pins s σ H xs us Q I rv ⟨m, S, ds, c, r, p⟩
  obtain ⟨d, e, k⟩ := p.val
  obtain ⟨x, rfl, e⟩ := one_some (show one (lenD S) ds = some d from e)
  obtain ⟨v, rfl, r1⟩ := r.one rfl
  have seqs : (∀ z, x ≠ .str z) → wpAny (model X.prog X.w) X.A (call (.builtin "len") us) (EP X pins σ Q) X.xe s := fun n1 => by
    have e1 : ((asQ S x).map fun ds => D.int ds.length) = some d := by
      cases x <;> first | exact e | exact absurd rfl (n1 _)
    obtain ⟨ds, q1, rfl⟩ := some_map e1
    obtain ⟨a, xs, rfl, hq, rs⟩ := VR.seq c r1 q1
    refine call_len_seq pins s σ H _ us Q I rv ⟨a, xs, rfl, ?_, ?_⟩
    · rcases hq with hq | hq
      · exact .inl (hK ▸ hq)
      · exact .inr (hK ▸ hq)
    · rw [rs.length]; exact k _ m H c Stp.refl (.int _)
  cases r1 with
  | str z =>
    obtain ⟨h, rfl⟩ := some_if (show (if z.length ≤ LINE then some (D.int z.length) else none) = some d from e)
    exact call_len_str pins s σ H _ us Q I rv ⟨z, rfl, by rw [← line_eq]; exact h, k _ m H c Stp.refl (.int _)⟩
  | _ => exact seqs (fun _ z => by cases z)
theorem bD_tuple (hK : X.K = G.K) : CallR X (.type "tuple") (rB G .tuple) := by
  intro pins s σ H xs us Q I rv ⟨m, S, ds, c, r, p⟩
  obtain ⟨d, e, k⟩ := p.val
  obtain ⟨x, rfl, e⟩ := one_some (show one (fun x => (asQ S x).map D.tup) ds = some d from e)
  obtain ⟨v, rfl, r1⟩ := r.one rfl
  obtain ⟨ds, q1, rfl⟩ := some_map e
  obtain ⟨a, xs, rfl, hq, rs⟩ := VR.seq c r1 q1
  refine call_tuple_of pins s σ H _ us Q I rv ⟨a, xs, rfl, ?_⟩
  rcases hq with hq | hq
  · refine .inl ⟨hK ▸ hq, fun l hl => ?_⟩
    obtain ⟨c', st, rr⟩ := VR.newT c hl rs
    exact k _ m _ c' st rr
  · exact .inr ⟨hK ▸ hq, k _ m H c Stp.refl (.tup hq rs)⟩
/-- a built-in that makes a new list -/
def rBF (G : Gd) (f : BF) : List V → Hp → VK → Prop := fun xs H Q => ∃ m S ds es, Cf G m S H ∧ VRs G m H xs ds ∧ bcall S f ds = some (.vl es) ∧ ∀ p ys, H p = none → VRs G m H ys es → Q (.ref p) (upd H p (.lst ys))
theorem bD_listF (hK : X.K = G.K) : CallR X (.type "list") (rBF G .list) := by
  intro pins s σ H xs us Q I rv ⟨m, S, ds, es, c, r, e, k⟩
  obtain ⟨x, rfl, e⟩ := one_some (show one (fun x => (asQ S x).map D.vl) ds = some (.vl es) from e)
  obtain ⟨v, rfl, r1⟩ := r.one rfl
  obtain ⟨ds, q1, e⟩ := some_map e
  cases e
  obtain ⟨a, xs, rfl, hq, rs⟩ := VR.seq c r1 q1
  refine call_list_of pins s σ H _ us Q I rv ⟨a, xs, rfl, ?_, fun l hl => k l _ hl rs⟩
  rcases hq with hq | hq
  · exact .inl (hK ▸ hq)
  · exact .inr (hK ▸ hq)
/-- a rule for a new list is a rule for a list's value -/
theorem bD_ofF {f : BF} {fv : Value} (h : CallR X fv (rBF G f)) (hf : ∀ S ds d, bcall S f ds = some d → ∃ es, d = .vl es) : CallR X fv (rB G f) := by
  intro pins s σ H xs us Q I rv ⟨m, S, ds, c, r, p⟩
  obtain ⟨d, e, k⟩ := p.val
  obtain ⟨es, rfl⟩ := hf S ds d e
  exact h pins s σ H xs us Q I rv ⟨m, S, ds, es, c, r, e, fun p ys hp ry => by
    obtain ⟨c', st, rr⟩ := VR.newL c hp ry
    exact k _ m _ c' st rr⟩
theorem bD_list (hK : X.K = G.K) : CallR X (.type "list") (rB G .list) := bD_ofF (bD_listF hK) fun S ds d e => by
  obtain ⟨x, rfl, e⟩ := one_some (show one (fun x => (asQ S x).map D.vl) ds = some d from e)
  obtain ⟨ds, q1, rfl⟩ := some_map e
  exact ⟨_, rfl⟩
theorem known_cases {t : String} (h : known t = true) : t = "int" ∨ t = "str" ∨ t = "bool" ∨ t = "tuple" ∨ t = "list" ∨ t = "dict" := by
  unfold known at h
  simp only [Bool.or_eq_true, beq_iff_eq] at h
  rcases h with ((((h | h) | h) | h) | h) | h
  · exact .inl h
  · exact .inr (.inl h)
  · exact .inr (.inr (.inl h))
  · exact .inr (.inr (.inr (.inl h)))
  · exact .inr (.inr (.inr (.inr (.inl h))))
  · exact .inr (.inr (.inr (.inr (.inr h))))
theorem kit_known {a t : String} (ha : a = "NoneType" ∨ a = "bool" ∨ a = "int" ∨ a = "str" ∨ a = "tuple" ∨ a = "list" ∨ a = "dict") (h : known t = true) : kitB a t = some (a == t || (a == "bool" && t == "int")) := by
  rcases ha with rfl | rfl | rfl | rfl | rfl | rfl | rfl <;> rcases known_cases h with rfl | rfl | rfl | rfl | rfl | rfl <;> decide +kernel
theorem VR.tyX (c : Cf G m S H) {v : V} {d : D} {a : String} (r : VR G m H v d) (e : tyOf d = some a) : TyX G.K H v (.type a) ∧ (a = "NoneType" ∨ a = "bool" ∨ a = "int" ∨ a = "str" ∨ a = "tuple" ∨ a = "list" ∨ a = "dict") := by
  cases r with
  | non => cases e; exact ⟨.base .non, by simp⟩
  | bl b => cases e; exact ⟨.base (.bl b), by simp⟩
  | int b => cases e; exact ⟨.base (.int b), by simp⟩
  | str b => cases e; exact ⟨.base (.str b), by simp⟩
  | tup h q =>
    cases e
    refine ⟨?_, by simp⟩
    rcases h with (h | ⟨o, h⟩) | ⟨o, its, n, h, hc, _⟩
    · exact .base (.tup h)
    · exact .fTuple h
    · exact .kTuple h hc
  | vl h _ q => cases e; exact ⟨.base (.lst h), by simp⟩
  | ro h q =>
    cases e
    refine ⟨?_, by simp⟩
    rcases h with ⟨h | ⟨o, h⟩, _⟩ | ⟨o, its, n, h, hc, _⟩
    · exact .base (.lst h)
    · exact .base (.frz h)
    · exact .kList h hc
  | vd h _ q q2 =>
    cases e
    refine ⟨?_, by simp⟩
    rcases h with h | ⟨o, h⟩
    · exact .base (.dK h)
    · exact .fDict h
  | _ => cases e
theorem bD_isinst (hK : X.K = G.K) : CallR X (.builtin "isinstance") (rB G .isinst) := by
  intro pins s σ H xs us Q I rv ⟨m, S, ds, c, r, p⟩
  obtain ⟨d, e, k⟩ := p.val
  obtain ⟨x, y, rfl, e⟩ := two_some (show two (isinstD S) ds = some d from e)
  obtain ⟨v, w, rfl, r1, r2⟩ := r.two rfl
  have fin : ∀ (v : V) (x : D) (t : String), (isTy x t).map D.bl = some d → w = .ty t → (∀ a, tyOf x = some a → TyX G.K H v (.type a) ∧ (a = "NoneType" ∨ a = "bool" ∨ a = "int" ∨ a = "str" ∨ a = "tuple" ∨ a = "list" ∨ a = "dict")) → Vals [v, w] us → wpAny (model X.prog X.w) X.A (call (.builtin "isinstance") us) (EP X pins σ Q) X.xe s := fun v x t e hw ht rv => by
    obtain ⟨b, e1, rfl⟩ := some_map e
    obtain ⟨hk, e1⟩ := some_if' (show (if known t = true then (tyOf x).map fun a => a == t || (a == "bool" && t == "int") else none) = some b from e1)
    obtain ⟨a, ea, rfl⟩ := some_map e1
    obtain ⟨h1, h2⟩ := ht a ea
    subst hw
    exact call_isi pins s σ H _ us Q I rv ⟨v, .ty t, .type a, .type t, _, rfl, .ty t, hK ▸ h1, kit_ty (kit_known h2 hk), k _ m H c Stp.refl (.bl _)⟩
  have bad : ∀ (x : D) (t : String), (isTy x t).map D.bl = some d → tyOf x = Option.none → wpAny (model X.prog X.w) X.A (call (.builtin "isinstance") us) (EP X pins σ Q) X.xe s := fun x t e h0 => by
    obtain ⟨b, e1, _⟩ := some_map e
    obtain ⟨_, e2⟩ := some_if' (show (if known t = true then (tyOf x).map fun a => a == t || (a == "bool" && t == "int") else Option.none) = some b from e1)
    rw [h0] at e2; cases e2
  cases r2 with
  | ty t =>
    cases r1 with
    | @ref n a h =>
      have e1 : (match S[n]? with | some (.lst _) => (isTy (.vl []) t).map D.bl | none => none) = some d := e
      cases q : S[n]? with
      | none => rw [q] at e1; cases e1
      | some o =>
        cases o with
        | lst es =>
          rw [q] at e1
          obtain ⟨b, xs, h1, h2, h3⟩ := c.at_ n _ q
          rw [h] at h1; cases h1
          exact fin _ (.vl []) t e1 rfl (fun a' ea => by cases ea; exact ⟨.base (.lst h2), by simp⟩) rv
    | fn h => exact bad (.fn _) t e rfl
    | non => exact fin _ _ t e rfl (fun a ea => VR.tyX c .non ea) rv
    | bl b => exact fin _ _ t e rfl (fun a ea => VR.tyX c (.bl b) ea) rv
    | int b => exact fin _ _ t e rfl (fun a ea => VR.tyX c (.int b) ea) rv
    | str b => exact fin _ _ t e rfl (fun a ea => VR.tyX c (.str b) ea) rv
    | tup h q => exact fin _ _ t e rfl (fun a ea => VR.tyX c (.tup h q) ea) rv
    | vl h h2 q => exact fin _ _ t e rfl (fun a ea => VR.tyX c (.vl h h2 q) ea) rv
    | ro h q => exact fin _ _ t e rfl (fun a ea => VR.tyX c (.ro h q) ea) rv
    | vd h h2 q q2 => exact fin _ _ t e rfl (fun a ea => VR.tyX c (.vd h h2 q q2) ea) rv
    | ty n => exact bad (.ty _) t e rfl
  | _ => cases r1 <;> cases e
theorem noDict_of_plain : ∀ p : PyData, p.plain = true → p.hasDict = false
  | .none, _ => rfl
  | .bool _, _ => rfl
  | .int _, _ => rfl
  | .str _, _ => rfl
  | .list xs, h => by simp only [PyData.hasDict]; exact go xs (by simpa [PyData.plain] using h)
  | .tuple xs, h => by simp only [PyData.hasDict]; exact go xs (by simpa [PyData.plain] using h)
  | .dict _, h => nomatch h
where go : ∀ xs : List PyData, PyData.plainAll xs = true → PyData.hasDictAll xs = false
  | [], _ => rfl
  | x :: xs, h => by
    have h' : x.plain = true ∧ PyData.plainAll xs = true := by simpa [PyData.plainAll] using h
    simp only [PyData.hasDictAll, noDict_of_plain x h'.1, go xs h'.2, Bool.or_self]
theorem bD_repr (hK : X.K = G.K) (hu : X.A.units + 64 < cLine) (hg : X.A.guards = some []) : CallR X (.builtin "repr") (rB G .repr) := by
  intro pins s σ H xs us Q I rv ⟨m, S, ds, c, r, p⟩
  obtain ⟨d, e, k⟩ := p.val
  obtain ⟨x, rfl, e⟩ := one_some (show one (reprD S) ds = some d from e)
  obtain ⟨v, rfl, r1⟩ := r.one rfl
  obtain ⟨pv, q1, e⟩ := some_bind (show ((pd S x).bind fun p => if p.showable = true ∧ p.depth ≤ 60 ∧ p.shown.length + 64 ≤ LINE then some (D.str p.shown) else none) = some d from e)
  obtain ⟨⟨h1, h2, h3⟩, rfl⟩ := some_if e
  obtain ⟨u, rfl, ru⟩ := vals1 rv
  rw [line_eq] at h3
  obtain ⟨hp, as, rd⟩ := reads_of hK I c r1 q1 ru
  have done : ∀ h' tk u, (∀ b o, s.heap.get? b = some o → h'.get? b = some o) → EP X pins σ Q (.str pv.shown u) { s with heap := h', toks := tk } := fun h' tk u hk => ⟨.str pv.shown, H, I.kept (t' := tk) hk, ⟨u, rfl⟩, k _ m H c Stp.refl (.str _)⟩
  cases rd with
  | none => exact P.repr_of_none (done s.heap _ _ fun _ _ e => e)
  | bool b => exact P.repr_of_bool (by simpa [PyData.shown] using done s.heap (s.toks + 1) s.toks fun _ _ e => e)
  | int i t => exact P.repr_of_int (by simpa [PyData.showable] using h1) (by simpa [PyData.shown] using done s.heap (s.toks + 1) s.toks fun _ _ e => e)
  | str z t => exact P.repr_of_str (by simpa [PyData.shown] using done s.heap (s.toks + 1) s.toks fun _ _ e => e) (hsz := by simp only [PyData.shown] at h3; omega)
  | list a b c' d' => exact repr_of_reads' (.list a b c' d') h1 (PyData.noDict_hsm (noDict_of_plain _ hp)) hg (by omega) (fun _ _ e => e) (fun h' u tk hk => done h' tk u hk) (by omega)
  | tuple a b c' d' => exact repr_of_reads' (.tuple a b c' d') h1 (PyData.noDict_hsm (noDict_of_plain _ hp)) hg (by omega) (fun _ _ e => e) (fun h' u tk hk => done h' tk u hk) (by omega)
  | dict a b c' d' e' => exact nomatch hp
/-! min, max -/
theorem depthAll_mem : ∀ {ps : List PyData} {p : PyData}, p ∈ ps → p.depth ≤ PyData.depthAll ps
  | x :: xs, p, h => by
    rw [PyData.depthAll]
    rcases List.mem_cons.mp h with rfl | h
    · exact Nat.le_max_left _ _
    · exact Nat.le_trans (depthAll_mem h) (Nat.le_max_right _ _)
theorem alikes_all {ps : List PyData} (h : alikes ps = true) : ∀ p ∈ ps, ∀ q ∈ ps, PySem.W.alike p q = true := fun p hp q hq =>
  List.all_eq_true.mp (List.all_eq_true.mp h p hp) q hq
theorem leastBy_zip {α β : Type} (f : α × β → α × β → Bool) (g : β → β → Bool) (hf : ∀ a b, f a b = g a.2 b.2) : ∀ (l : List (α × β)) (x : α × β), (leastBy f x l).2 = (l.map (·.2)).foldl (fun a y => if g y a then y else a) x.2 ∧ leastBy f x l ∈ x :: l
  | [], x => ⟨rfl, by simp [leastBy]⟩
  | y :: l, x => by
    have hg : f y x = g y.2 x.2 := hf _ _
    unfold leastBy
    rw [List.map_cons, List.foldl_cons]
    by_cases c : g y.2 x.2 = true
    · rw [if_pos c, if_pos (by rw [hg]; exact c)]
      obtain ⟨h1, h2⟩ := leastBy_zip f g hf l y
      exact ⟨h1, List.mem_cons_of_mem _ h2⟩
    · rw [if_neg c, if_neg (by rw [hg]; exact c)]
      obtain ⟨h1, h2⟩ := leastBy_zip f g hf l x
      refine ⟨h1, ?_⟩
      rcases List.mem_cons.mp h2 with e | h
      · rw [e]; exact List.mem_cons_self
      · exact List.mem_cons_of_mem _ (List.mem_cons_of_mem _ h)
mutual
theorem pure_inj {r : Nat → Option PyData} : ∀ {d e : D} {p : PyData}, pureD d = true → pureD e = true → toP r d = some p → toP r e = some p → d = e
  | .non, e, p, _, h, a, b => by cases a; cases e <;> first | rfl | (cases h; done) | (simp [toP] at b; done)
  | .bl x, e, p, _, h, a, b => by cases a; cases e <;> first | (cases h; done) | (cases b; rfl) | (simp [toP] at b; done)
  | .int x, e, p, _, h, a, b => by cases a; cases e <;> first | (cases h; done) | (cases b; rfl) | (simp [toP] at b; done)
  | .str x, e, p, _, h, a, b => by cases a; cases e <;> first | (cases h; done) | (cases b; rfl) | (simp [toP] at b; done)
  | .tup ds, e, p, h1, h, a, b => by
    simp only [toP] at a
    obtain ⟨ps, q1, rfl⟩ := some_map a
    cases e with
    | tup es =>
      simp only [toP] at b
      obtain ⟨qs, q2, b⟩ := some_map b
      cases b
      rw [pures_inj (by simpa only [pureD] using h1) (by simpa only [pureD] using h) q1 q2]
    | non => cases b
    | bl _ => cases b
    | int _ => cases b
    | str _ => cases b
    | _ => cases h
  | .vl _, _, _, h, _, _, _ => by cases h
  | .ro _, _, _, h, _, _, _ => by cases h
  | .vd _ _, _, _, h, _, _, _ => by cases h
  | .ref _, _, _, h, _, _, _ => by cases h
  | .fn _, _, _, h, _, _, _ => by cases h
  | .ty _, _, _, h, _, _, _ => by cases h
theorem pures_inj {r : Nat → Option PyData} : ∀ {ds es : List D} {ps : List PyData}, pureDs ds = true → pureDs es = true → toPs r ds = some ps → toPs r es = some ps → ds = es
  | [], es, ps, _, _, a, b => by
    cases a
    cases es with
    | nil => rfl
    | cons d ds => unfold toPs at b; obtain ⟨_, _, b⟩ := some_bind b; obtain ⟨_, _, b⟩ := some_map b; cases b
  | d :: ds, es, ps, h1, h2, a, b => by
    unfold toPs at a
    obtain ⟨x, q1, a⟩ := some_bind a
    obtain ⟨xs, q2, rfl⟩ := some_map a
    cases es with
    | nil => cases b
    | cons e es =>
      unfold toPs at b
      obtain ⟨y, q3, b⟩ := some_bind b
      obtain ⟨ys, q4, b⟩ := some_map b
      injection b with e1 e2
      subst e1; subst e2
      have h1' : pureD d = true ∧ pureDs ds = true := by simpa [pureDs] using h1
      have h2' : pureD e = true ∧ pureDs es = true := by simpa [pureDs] using h2
      rw [pure_inj h1'.1 h2'.1 q1 q3, pures_inj h1'.2 h2'.2 q2 q4]
end
theorem toPs_at {r : Nat → Option PyData} : ∀ {ds : List D} {ps : List PyData} {i : Nat} {d : D}, toPs r ds = some ps → ds[i]? = some d → ∃ p, ps[i]? = some p ∧ toP r d = some p ∧ (d, p) ∈ ds.zip ps
  | d :: ds, ps, i, d', e, h => by
    unfold toPs at e
    obtain ⟨x, q1, e⟩ := some_bind e
    obtain ⟨xs, q2, rfl⟩ := some_map e
    cases i with
    | zero => cases h; exact ⟨x, rfl, q1, List.mem_cons_self⟩
    | succ i =>
      obtain ⟨p, a, b, c⟩ := toPs_at (i := i) q2 (by simpa using h)
      exact ⟨p, by simpa using a, b, List.mem_cons_of_mem _ c⟩
theorem zip_toP {r : Nat → Option PyData} : ∀ {ds : List D} {ps : List PyData} {z : D × PyData}, toPs r ds = some ps → z ∈ ds.zip ps → z.1 ∈ ds ∧ toP r z.1 = some z.2 ∧ z.2 ∈ ps
  | d :: ds, ps, z, e, h => by
    unfold toPs at e
    obtain ⟨x, q1, e⟩ := some_bind e
    obtain ⟨xs, q2, rfl⟩ := some_map e
    rcases List.mem_cons.mp h with rfl | h
    · exact ⟨List.mem_cons_self, q1, List.mem_cons_self⟩
    · obtain ⟨a, b, c⟩ := zip_toP q2 h
      exact ⟨List.mem_cons_of_mem _ a, b, List.mem_cons_of_mem _ c⟩
theorem pures_mem : ∀ {ds : List D} {d : D}, pureDs ds = true → d ∈ ds → pureD d = true
  | x :: xs, d, h, hm => by
    have h' : pureD x = true ∧ pureDs xs = true := by simpa [pureDs] using h
    rcases List.mem_cons.mp hm with rfl | hm
    · exact h'.1
    · exact pures_mem h'.2 hm
/-- what min, max of data leave -/
theorem best_done (hK : X.K = G.K) (I : Inv X pins σ H s) (c : Cf G m S H) {gt : Bool} {ds : List D} {xs : List V} {its : List Value} {d : D} (rs : VRs G m H xs ds) (rv : Vals xs its) (e : best S gt ds = some d) :
    ∃ x r as, pds S ds = some (x :: r) ∧ ReadsAll s.heap its (x :: r) as ∧ PySem.W.AlikeAll (x :: r) ∧ PyData.depthAll (x :: r) ≤ 60 ∧
      ∀ (i : Nat) (v : Value) (h' : Heap) (bs : List Addr), its.toArray[i]? = some v → Reads h' v (r.foldl (fun a y => if (if gt then PySem.W.dataLt a y else PySem.W.dataLt y a) then y else a) x) bs → (∀ b o, s.heap.get? b = some o → h'.get? b = some o) → ∃ u, RelV u v ∧ VR G m H u d := by
  obtain ⟨ps, q1, e⟩ := some_bind e
  have hl := toPs_len _ q1
  cases hz : ds.zip ps with
  | nil => rw [hz] at e; cases e
  | cons z zs =>
    rw [hz] at e
    obtain ⟨⟨h1, h2, h3, h4⟩, rfl⟩ := some_if (show (if alikes ps = true ∧ PyData.depthAll ps ≤ 60 ∧ pureDs ds = true ∧ (ps.all fun p => match p with | .none => false | _ => true) = true then some (leastBy (fun a b => if gt then PySem.W.dataLt b.2 a.2 else PySem.W.dataLt a.2 b.2) z zs).1 else Option.none) = some d from e)
    obtain ⟨as, ra⟩ := (readsAll_of hK I c rs q1 rv).2
    have hp : ps = z.2 :: zs.map (·.2) := by
      have : (ds.zip ps).map (·.2) = ps := by rw [List.map_snd_zip]; omega
      rw [hz] at this
      exact this.symm
    refine ⟨z.2, zs.map (·.2), as, hp ▸ q1, hp ▸ ra, hp ▸ ⟨fun x hx y hy => alikes_all h1 x hx y hy, fun x hx ex => by subst ex; have := List.all_eq_true.mp h4 _ hx; cases this⟩, hp ▸ h2, fun i v h' bs hi rd hk => ?_⟩
    obtain ⟨e1, e2⟩ := leastBy_zip (fun a b : D × PyData => if gt then PySem.W.dataLt b.2 a.2 else PySem.W.dataLt a.2 b.2) (fun y a => if gt then PySem.W.dataLt a y else PySem.W.dataLt y a) (fun _ _ => rfl) zs z
    rw [← hz] at e2
    obtain ⟨m1, m2, m3⟩ := zip_toP q1 e2
    -- the value at i
    have hi' : its[i]? = some v := by simpa using hi
    obtain ⟨j1, j2⟩ := List.getElem?_eq_some_iff.mp hi'
    have hix : i < xs.length := by rw [rv.length]; exact j1
    have hid : i < ds.length := by rw [← rs.length]; exact hix
    obtain ⟨u, hu, ru⟩ := rs.get (List.getElem?_eq_getElem hid)
    obtain ⟨w, hw, rw'⟩ := Vals.get rv hu
    rw [hi'] at hw; cases hw
    obtain ⟨p, hp1, hp2, hp3⟩ := toPs_at q1 (List.getElem?_eq_getElem hid)
    obtain ⟨pl, bs', rb⟩ := reads_of hK I c ru hp2 rw'
    have same : p = (leastBy (fun a b : D × PyData => if gt then PySem.W.dataLt b.2 a.2 else PySem.W.dataLt a.2 b.2) z zs).2 := by
      rw [e1]
      exact SeqAt.plain_unique _ _ _ _ _ pl (PyProof.Rows.Reads.keeps hk rb) rd
    have : ds[i] = (leastBy (fun a b : D × PyData => if gt then PySem.W.dataLt b.2 a.2 else PySem.W.dataLt a.2 b.2) z zs).1 :=
      pure_inj (pures_mem h3 (List.getElem_mem hid)) (pures_mem h3 m1) (same ▸ hp2) m2
    exact ⟨u, rw', this ▸ ru⟩
theorem bD_min (hK : X.K = G.K) (hu : X.A.units + 64 < cLine) (hc : X.calm = true) (hh : X.A.handled = none) : CallR X (.builtin "min") (rB G .min) := by
  intro pins s σ H xs us Q I rv ⟨m, S, ds, c, r, p⟩
  obtain ⟨d, e, k⟩ := p.val
  have pair : two min2 ds = some d → wpAny (model X.prog X.w) X.A (call (.builtin "min") us) (EP X pins σ Q) X.xe s := fun e => by
    obtain ⟨x, y, rfl, e⟩ := two_some e
    obtain ⟨v, w, rfl, r1, r2⟩ := r.two rfl
    cases r1 <;> cases r2 <;> cases e
    exact call_min2 hc pins s σ H _ us Q I rv ⟨_, _, rfl, k _ m H c Stp.refl (.int _)⟩
  match ds, r, e, pair with
  | [x], .cons r1 .nil, e, _ =>
    obtain ⟨ds, q1, e⟩ := some_bind (show (asQ S x).bind (best S false) = some d from e)
    obtain ⟨a, xs, rfl, hq, rs⟩ := VR.seq c r1 q1
    obtain ⟨u, rfl, ru⟩ := vals1 rv
    cases ru
    rcases hq with hq | hq
    · obtain ⟨its, rv', pl, _⟩ := I.list (hK ▸ hq)
      obtain ⟨x, r, as, z1, z2, z3, z4, z5⟩ := best_done hK I c rs rv' e
      refine PySem.W.min_list_data hh pl.isList z2 z3 (by omega) fun i v h' tk bs a1 a2 a3 => ?_
      obtain ⟨u, ru, vr⟩ := z5 i v h' bs a1 a2 a3
      exact ⟨u, H, I.kept (t' := tk) a3, ru, k _ m H c Stp.refl vr⟩
    · obtain ⟨its, rv', pl, _⟩ := I.tuple (hK ▸ hq)
      obtain ⟨x, r, as, z1, z2, z3, z4, z5⟩ := best_done hK I c rs rv' e
      refine PySem.W.min_tuple_data hh pl z2 z3 (by omega) fun i v h' tk bs a1 a2 a3 => ?_
      obtain ⟨u, ru, vr⟩ := z5 i v h' bs a1 a2 a3
      exact ⟨u, H, I.kept (t' := tk) a3, ru, k _ m H c Stp.refl vr⟩
  | [], _, e, pair => exact pair e
  | _ :: _ :: _, _, e, pair => exact pair e
theorem bD_max (hK : X.K = G.K) (hu : X.A.units + 64 < cLine) (hc : X.calm = true) (hh : X.A.handled = none) : CallR X (.builtin "max") (rB G .max) := by
  intro pins s σ H xs us Q I rv ⟨m, S, ds, c, r, p⟩
  obtain ⟨d, e, k⟩ := p.val
  have pair : two max2 ds = some d → wpAny (model X.prog X.w) X.A (call (.builtin "max") us) (EP X pins σ Q) X.xe s := fun e => by
    obtain ⟨x, y, rfl, e⟩ := two_some e
    obtain ⟨v, w, rfl, r1, r2⟩ := r.two rfl
    cases r1 <;> cases r2 <;> cases e
    exact call_max2 hc pins s σ H _ us Q I rv ⟨_, _, rfl, k _ m H c Stp.refl (.int _)⟩
  match ds, r, e, pair with
  | [x], .cons r1 .nil, e, _ =>
    obtain ⟨ds, q1, e⟩ := some_bind (show (asQ S x).bind (best S true) = some d from e)
    obtain ⟨a, xs, rfl, hq, rs⟩ := VR.seq c r1 q1
    obtain ⟨u, rfl, ru⟩ := vals1 rv
    cases ru
    rcases hq with hq | hq
    · obtain ⟨its, rv', pl, _⟩ := I.list (hK ▸ hq)
      obtain ⟨x, r, as, z1, z2, z3, z4, z5⟩ := best_done hK I c rs rv' e
      refine PySem.W.max_list_data hh pl.isList z2 z3 (by omega) fun i v h' tk bs a1 a2 a3 => ?_
      obtain ⟨u, ru, vr⟩ := z5 i v h' bs a1 a2 a3
      exact ⟨u, H, I.kept (t' := tk) a3, ru, k _ m H c Stp.refl vr⟩
    · obtain ⟨its, rv', pl, _⟩ := I.tuple (hK ▸ hq)
      obtain ⟨x, r, as, z1, z2, z3, z4, z5⟩ := best_done hK I c rs rv' e
      refine PySem.W.max_tuple_data hh pl z2 z3 (by omega) fun i v h' tk bs a1 a2 a3 => ?_
      obtain ⟨u, ru, vr⟩ := z5 i v h' bs a1 a2 a3
      exact ⟨u, H, I.kept (t' := tk) a3, ru, k _ m H c Stp.refl vr⟩
  | [], _, e, pair => exact pair e
  | _ :: _ :: _, _, e, pair => exact pair e
end
end RA

set_option Elab.async false
set_option linter.all false
set_option maxRecDepth 100000
set_option maxHeartbeats 4000000
set_option autoImplicit false
/-! B6: expressions, construct by construct. -/
namespace RA
open PySem PySem.Spec PyProof.Rows L2
section
variable {G : Gd} {X : Cx} {W : WX}
theorem Post.anyE {m : Mm} {H : Hp} {S : Store} {α β : Type} {o : Option α} {R : Mm → Hp → β → α → Prop} {Q : β → Hp → Prop} {E E' : Value → Option Addr → Hp → Prop} (p : Post G m H (RA.lift S o) R Q E) : Post G m H (RA.lift S o) R Q E' := by
  cases o with
  | some a => exact p
  | none => exact p
theorem e_var {i : Nat} {x : Str} {pos : Pos} (hN : X.N[i]? = some x) (hv : Vis X.env.scope x) (hd : (x == ("__debug__" : Str)) = false) (hcd : (x == ("__classdict__" : Str)) = false) :
    EOk G X W (.Name x pos) fun τ S => match τ[i]? with | some (some d) => .ok d S | _ => .bad :=
  PE.weak (pe_var hN hv hd hcd) fun σ H Q ⟨m, S, τ, c, sr, p⟩ => by
    cases e : τ[i]? with
    | none => simp only [e] at p; exact p.elim
    | some o =>
      cases o with
      | none => simp only [e] at p; exact p.elim
      | some d =>
        simp only [e] at p
        obtain ⟨v, hv, r⟩ := sr.at_ i d e
        exact ⟨v, hv, Post.ok c r p⟩
theorem e_con {e : Expr} {v : V} {d : D} (h : PE X e (tC v)) (r : ∀ m H, VR G m H v d) : EOk G X W e fun _ S => .ok d S :=
  PE.weak h fun σ H Q ⟨m, S, τ, c, sr, p⟩ => Post.ok c (r m H) p
theorem e_bin {op : Operator} {f : Store → D → D → Option D} {a b : Expr} {ea eb : Ev D} {pos : Pos} (ho : OpR X (binaryOp op) (rD G f)) (ha : EOk G X W a ea) (hb : EOk G X W b eb) :
    EOk G X W (.BinOp a op b pos) fun τ S => (ea τ S).bind fun x S => (eb τ S).bind fun y S => lift S (f S x y) :=
  PE.weak (pe_op ho ha hb) fun σ H Q ⟨m, S, τ, c, sr, p⟩ => rdE.seq c sr p fun v d1 S1 m1 H1 c1 st r1 p1 => rdE.seq c1 (sr.step c st) p1 fun u d2 S2 m2 H2 c2 st2 r2 p2 =>
    ⟨m2, S2, d1, d2, c2, r1.step c1 st2, r2, p2.anyE⟩
theorem e_cmp {op : CmpOp} {f : Store → D → D → Option D} {a b : Expr} {ea eb : Ev D} {pos : Pos} (ho : OpR X (compareOp op) (rD G f)) (ha : EOk G X W a ea) (hb : EOk G X W b eb) (hm : behindInMarks op b = false) :
    EOk G X W (.Compare a [op] [b] pos) fun τ S => (ea τ S).bind fun x S => (eb τ S).bind fun y S => lift S (f S x y) :=
  PE.weak (pe_cmpR ho ha hb hm) fun σ H Q ⟨m, S, τ, c, sr, p⟩ => rdE.seq c sr p fun v d1 S1 m1 H1 c1 st r1 p1 => rdE.seq c1 (sr.step c st) p1 fun u d2 S2 m2 H2 c2 st2 r2 p2 =>
    ⟨m2, S2, d1, d2, c2, r1.step c1 st2, r2, p2.anyE⟩
theorem t_cmp {op : CmpOp} {f : Store → D → D → Option D} {a b : Expr} {ea eb : Ev D} {pos : Pos} (ho : OpR X (compareOp op) (rD G f)) (ha : EOk G X W a ea) (hb : EOk G X W b eb) (hm : behindInMarks op b = false)
    (hf : ∀ S x y d, f S x y = some d → ∃ k, d = .bl k) :
    TOk G X W (.Compare a [op] [b] pos) fun τ S => (ea τ S).bind fun x S => (eb τ S).bind fun y S => lift S (f S x y) :=
  PT.weak (pt_cmpR ho ha hb hm) fun σ H Q ⟨m, S, τ, c, sr, p⟩ => by
    simp only [bind_assoc] at p
    refine rdE.seq c sr p fun v d1 S1 m1 H1 c1 st r1 p1 => rdE.seq c1 (sr.step c st) p1 fun u d2 S2 m2 H2 c2 st2 r2 p2 => ?_
    refine ⟨m2, S2, d1, d2, c2, r1.step c1 st2, r2, ?_⟩
    cases e : f S2 d1 d2 with
    | none => simp only [e] at p2; exact p2.elim
    | some d =>
      obtain ⟨k, rfl⟩ := hf _ _ _ _ e
      simp only [e] at p2
      intro v m' H' c' st' r'
      cases r'
      exact ⟨k, rfl, p2 k m' H' c' st' rfl⟩
theorem e_chain {o1 o2 : CmpOp} {f g : Store → D → D → Option D} {a b e : Expr} {ea eb ec : Ev D} {pos : Pos} (h1 : OpR X (compareOp o1) (rD G f)) (h2 : OpR X (compareOp o2) (rD G g)) (ha : EOk G X W a ea) (hb : EOk G X W b eb) (hc : EOk G X W e ec) (hm : lastMarks [o1, o2] [b, e] = false)
    (hf : ∀ S x y d, f S x y = some d → ∃ k, d = .bl k) :
    EOk G X W (.Compare a [o1, o2] [b, e] pos) fun τ S => (ea τ S).bind fun x S => (eb τ S).bind fun y S => (lift S (f S x y)).bind fun k S => match k with
      | .bl true => (ec τ S).bind fun z S => lift S (g S y z)
      | .bl false => .ok (.bl false) S
      | _ => .bad :=
  PE.weak (pe_chain h1 h2 ha hb hc hm) fun σ H Q ⟨m, S, τ, c, sr, p⟩ => rdE.seq c sr p fun v d1 S1 m1 H1 c1 st r1 p1 => rdE.seq c1 (sr.step c st) p1 fun u d2 S2 m2 H2 c2 st2 r2 p2 => by
    refine ⟨m2, S2, d1, d2, c2, r1.step c1 st2, r2, ?_⟩
    cases e : f S2 d1 d2 with
    | none => simp only [e] at p2; exact p2.elim
    | some d =>
      obtain ⟨k, rfl⟩ := hf _ _ _ _ e
      simp only [e] at p2
      intro v m' H' c' st' r'
      cases r'
      refine ⟨k, rfl, ?_⟩
      cases k with
      | true =>
        rw [if_pos rfl]
        refine rdE.seq c' (((sr.step c st).step c1 st2).step c2 st') (Post.later st' p2) fun z d3 S3 m3 H3 c3 st3 r3 p3 => ?_
        exact ⟨m3, S3, d2, d3, c3, (r2.step c2 st').step c' st3, r3, p3.anyE⟩
      | false =>
        rw [if_neg Bool.false_ne_true]
        exact p2 _ m' H' c' st' (.bl false)
theorem e_neg {a : Expr} {ea : Ev D} {pos : Pos} (ha : EOk G X W a ea) : EOk G X W (.UnaryOp .USub a pos) fun τ S => (ea τ S).bind fun x S => match x with | .int i => .ok (.int (-i)) S | _ => .bad :=
  PE.weak (pe_un un_neg ha) fun σ H Q ⟨m, S, τ, c, sr, p⟩ => rdE.seq c sr p fun v d S1 m1 H1 c1 st r p1 => by
    cases r with
    | int i => exact ⟨i, rfl, Post.ok c1 (.int _) p1⟩
    | _ => exact p1.elim
theorem e_not (hK : X.K = G.K) {a : Expr} {ea : Ev D} {pos : Pos} (ha : EOk G X W a ea) : EOk G X W (.UnaryOp .Not a pos) fun τ S => (ea τ S).bind fun x S => lift S ((truth S x).map fun b => .bl (!b)) :=
  PE.weak (pe_notT ha) fun σ H Q ⟨m, S, τ, c, sr, p⟩ => rdE.seq c sr p fun v d S1 m1 H1 c1 st r p1 => by
    obtain ⟨d', e, q⟩ := p1.val
    obtain ⟨k, e1, rfl⟩ := some_map e
    exact ⟨k, hK ▸ tru_of c1 r e1, q _ m1 H1 c1 Stp.refl (.bl _)⟩
theorem e_one {op : BoolOp} {a : Expr} {ea : Ev D} {pos : Pos} (ha : EOk G X W a ea) : EOk G X W (.BoolOp op [a] pos) ea := pe_one ha
theorem e_and (hK : X.K = G.K) {a b : Expr} {rest : List Expr} {ea eb : Ev D} {pos : Pos} (ha : EOk G X W a ea) (hb : EOk G X W (.BoolOp .And (b :: rest) pos) eb) :
    EOk G X W (.BoolOp .And (a :: b :: rest) pos) fun τ S => (ea τ S).bind fun x S => (lift S (truth S x)).bind fun k S => if k then eb τ S else .ok x S :=
  PE.weak (pe_andT ha hb) fun σ H Q ⟨m, S, τ, c, sr, p⟩ => rdE.seq c sr p fun v d S1 m1 H1 c1 st r p1 => by
    cases e : truth S1 d with
    | none => simp only [e] at p1; exact p1.elim
    | some k =>
      simp only [e] at p1
      refine ⟨k, hK ▸ tru_of c1 r e, ?_⟩
      cases k with
      | true => exact ⟨m1, S1, τ, c1, sr.step c st, p1⟩
      | false => exact Post.ok c1 r p1
theorem e_or (hK : X.K = G.K) {a b : Expr} {rest : List Expr} {ea eb : Ev D} {pos : Pos} (ha : EOk G X W a ea) (hb : EOk G X W (.BoolOp .Or (b :: rest) pos) eb) :
    EOk G X W (.BoolOp .Or (a :: b :: rest) pos) fun τ S => (ea τ S).bind fun x S => (lift S (truth S x)).bind fun k S => if k then .ok x S else eb τ S :=
  PE.weak (pe_orT ha hb) fun σ H Q ⟨m, S, τ, c, sr, p⟩ => rdE.seq c sr p fun v d S1 m1 H1 c1 st r p1 => by
    cases e : truth S1 d with
    | none => simp only [e] at p1; exact p1.elim
    | some k =>
      simp only [e] at p1
      refine ⟨k, hK ▸ tru_of c1 r e, ?_⟩
      cases k with
      | true => exact Post.ok c1 r p1
      | false => exact ⟨m1, S1, τ, c1, sr.step c st, p1⟩
/-! tests -/
/-- a test whose value's truth is asked -/
theorem t_val (hK : X.K = G.K) {a : Expr} {ea : Ev D} (ha : EOk G X W a ea) (he : ∀ whole, isTrue a X.env whole = (do let v ← whole; standAt a.pos; holding [v] (truthy v))) : TOk G X W a ea :=
  PT.weak (pt_truth ha he) fun σ H Q ⟨m, S, τ, c, sr, p⟩ => rdE.seq c sr p fun v d S1 m1 H1 c1 st r p1 => by
    obtain ⟨k, e, q⟩ := Post.lift p1
    exact ⟨k, hK ▸ tru_of c1 r e, q k m1 H1 c1 Stp.refl rfl⟩
theorem t_not {a : Expr} {ea : Ev D} {pos : Pos} (ha : TOk G X W a ea) : TOk G X W (.UnaryOp .Not a pos) fun τ S => (ea τ S).bind fun x S => lift S ((truth S x).map fun b => .bl (!b)) :=
  PT.weak (pt_not ha) fun σ H Q ⟨m, S, τ, c, sr, p⟩ => by
    have : (fun a S => (Res.bind (lift S ((truth S a).map fun b => D.bl (!b))) fun x S => lift S (truth S x))) = fun x S => (lift S (truth S x)).bind fun k S => Res.ok (!k) S := by
      funext x S
      cases truth S x <;> rfl
    simp only [bind_assoc] at p
    rw [this] at p
    exact rdB.seq (f := fun k S => .ok (!k) S) c sr p fun k S1 m1 H1 c1 st p1 => p1 _ m1 H1 c1 Stp.refl rfl
theorem t_and1 {a : Expr} {ea : Ev D} {pos : Pos} (ha : TOk G X W a ea) : PW X (.BoolOp .And [a] pos) (rdB G W ea) := pw_and1 ha
theorem t_or1 {a : Expr} {ea : Ev D} {pos : Pos} (ha : TOk G X W a ea) : PW X (.BoolOp .Or [a] pos) (rdB G W ea) := pw_or1 ha
theorem t_and {a b : Expr} {rest : List Expr} {ea eb : Ev D} {pos : Pos} (ha : TOk G X W a ea) (hb : PW X (.BoolOp .And (b :: rest) pos) (rdB G W eb)) :
    PW X (.BoolOp .And (a :: b :: rest) pos) (rdB G W fun τ S => (ea τ S).bind fun x S => (lift S (truth S x)).bind fun k S => if k then eb τ S else .ok x S) :=
  PW.weak (pw_and ha hb) fun σ H Q ⟨m, S, τ, c, sr, p⟩ => by
    have : (fun a S => (Res.bind ((lift S (truth S a)).bind fun k S => if k = true then eb τ S else Res.ok a S) fun x S => lift S (truth S x))) =
        fun x S => (lift S (truth S x)).bind fun k S => if k = true then (eb τ S).bind fun x S => lift S (truth S x) else .ok false S := by
      funext x S
      cases e : truth S x with
      | none => rfl
      | some k =>
        cases k with
        | true => rfl
        | false => show Res.bind (.ok x S) _ = _; show lift S (truth S x) = _; rw [e]; rfl
    have p' : Post G m H ((ea τ S).bind fun a S => (Res.bind ((lift S (truth S a)).bind fun k S => if k = true then eb τ S else Res.ok a S) fun x S => lift S (truth S x))) (fun _ _ b k => b = k) Q fun c d H' => W c d σ H' := by
      rw [← bind_assoc]; exact p
    rw [this] at p'
    refine rdB.seq (f := fun k S => if k then (eb τ S).bind fun x S => lift S (truth S x) else .ok false S) c sr p' fun k S1 m1 H1 c1 st p1 => ?_
    cases k with
    | true => exact ⟨m1, S1, τ, c1, sr.step c st, p1⟩
    | false => exact p1 false m1 H1 c1 Stp.refl rfl
theorem t_or {a b : Expr} {rest : List Expr} {ea eb : Ev D} {pos : Pos} (ha : TOk G X W a ea) (hb : PW X (.BoolOp .Or (b :: rest) pos) (rdB G W eb)) :
    PW X (.BoolOp .Or (a :: b :: rest) pos) (rdB G W fun τ S => (ea τ S).bind fun x S => (lift S (truth S x)).bind fun k S => if k then .ok x S else eb τ S) :=
  PW.weak (pw_or ha hb) fun σ H Q ⟨m, S, τ, c, sr, p⟩ => by
    have : (fun a S => (Res.bind ((lift S (truth S a)).bind fun k S => if k = true then Res.ok a S else eb τ S) fun x S => lift S (truth S x))) =
        fun x S => (lift S (truth S x)).bind fun k S => if k = true then .ok true S else (eb τ S).bind fun x S => lift S (truth S x) := by
      funext x S
      cases e : truth S x with
      | none => rfl
      | some k =>
        cases k with
        | false => rfl
        | true => show Res.bind (.ok x S) _ = _; show lift S (truth S x) = _; rw [e]; rfl
    have p' : Post G m H ((ea τ S).bind fun a S => (Res.bind ((lift S (truth S a)).bind fun k S => if k = true then Res.ok a S else eb τ S) fun x S => lift S (truth S x))) (fun _ _ b k => b = k) Q fun c d H' => W c d σ H' := by
      rw [← bind_assoc]; exact p
    rw [this] at p'
    refine rdB.seq (f := fun k S => if k then .ok true S else (eb τ S).bind fun x S => lift S (truth S x)) c sr p' fun k S1 m1 H1 c1 st p1 => ?_
    cases k with
    | false => exact ⟨m1, S1, τ, c1, sr.step c st, p1⟩
    | true => exact p1 true m1 H1 c1 Stp.refl rfl
theorem e_ife {e a b : Expr} {ec ea eb : Ev D} {pos : Pos} (hc : TOk G X W e ec) (ha : EOk G X W a ea) (hb : EOk G X W b eb) :
    EOk G X W (.IfExp e a b pos) fun τ S => (ec τ S).bind fun x S => (lift S (truth S x)).bind fun k S => if k then ea τ S else eb τ S :=
  PE.weak (pe_ifExp hc ha hb) fun σ H Q ⟨m, S, τ, c, sr, p⟩ => rdB.seq c sr p fun k S1 m1 H1 c1 st p1 => by
    cases k with
    | true => exact ⟨m1, S1, τ, c1, sr.step c st, p1⟩
    | false => exact ⟨m1, S1, τ, c1, sr.step c st, p1⟩
/-! arguments, displays -/
theorem a_nil : AOk G X W [] fun _ S => .ok [] S := PA.weak pa_nil fun σ H Q ⟨m, S, τ, c, sr, p⟩ => p [] m H c Stp.refl .nil
theorem a_cons {e : Expr} {es : List Expr} {ee : Ev D} {ees : Ev (List D)} (he : EOk G X W e ee) (hes : AOk G X W es ees) (hs : starEach (e :: es) X.env = (false, eval e X.env) :: starEach es X.env) :
    AOk G X W (e :: es) fun τ S => (ee τ S).bind fun d S => (ees τ S).bind fun ds S => .ok (d :: ds) S :=
  PA.weak (pa_cons he hes hs) fun σ H Q ⟨m, S, τ, c, sr, p⟩ => rdE.seq c sr p fun v d S1 m1 H1 c1 st r p1 => rdA.seq c1 (sr.step c st) p1 fun vs ds S2 m2 H2 c2 st2 rs p2 =>
    p2 _ m2 H2 c2 Stp.refl (.cons (r.step c1 st2) rs)
theorem e_tup {es : List Expr} {ees : Ev (List D)} {x1 : Nat} {pos : Pos} (hes : AOk G X W es ees) (hl : es.length ≤ LINE) (hlen : ∀ τ S ds S', ees τ S = .ok ds S' → ds.length = es.length) : EOk G X W (.Tuple es x1 pos) fun τ S => (ees τ S).bind fun ds S => .ok (.tup ds) S :=
  PE.weak (pe_tup hes) fun σ H Q ⟨m, S, τ, c, sr, p⟩ => by
    dsimp only at p
    refine ⟨m, S, τ, c, sr, ?_⟩
    cases e : ees τ S with
    | bad => rw [e] at p; exact p.elim
    | exc x S' => rw [e] at p; exact p
    | ok ds S' =>
      rw [e] at p
      intro vs m1 H1 c1 st rs
      refine ⟨by rw [rs.length, ← line_eq, hlen τ S ds S' e]; exact hl, fun q hq => ?_⟩
      obtain ⟨c', st', r'⟩ := VR.newT c1 hq rs
      exact p _ _ _ c' (st.trans st') r'
theorem f_lst {es : List Expr} {ees : Ev (List D)} {pos : Pos} (hes : AOk G X W es ees) (hl : es.length ≤ LINE) (hlen : ∀ τ S ds S', ees τ S = .ok ds S' → ds.length = es.length) : FOk G X W (.List es pos) fun τ S => (ees τ S).bind fun ds S => .ok (.vl ds) S :=
  PE.weak (pe_lst hes) fun σ H Q ⟨m, S, τ, c, sr, p⟩ => by
    dsimp only at p
    refine ⟨m, S, τ, c, sr, ?_⟩
    cases e : ees τ S with
    | bad => rw [e] at p; exact p.elim
    | exc x S' => rw [e] at p; exact p
    | ok ds S' =>
      rw [e] at p
      intro vs m1 H1 c1 st rs
      refine ⟨by rw [rs.length, ← line_eq, hlen τ S ds S' e]; exact hl, fun q hq => ?_⟩
      exact p q vs m1 _ (c1.start hq) (st.trans (Stp.new hq)) (st.there _ (.of hq)) upd_same (c1.notin hq) (rs.start hq)
/-- ev gives lists alone -/
def Lists (ev : Ev D) : Prop := ∀ τ S d S', ev τ S = .ok d S' → ∃ ds, d = .vl ds
theorem new_out {m m1 : Mm} {S : Store} {H H1 : Hp} {q : Addr} (c : Cf G m S H) (st : Stp m H m1 H1) (h0 : Fr H q) (hm : q ∉ m1.l) : m1.out q := ⟨hm, fun z => by
  rw [st.ban] at z
  obtain ⟨ys, e3⟩ := c.bn q z
  exact h0.no e3 NoTbl.lst⟩
/-- a new list is a list -/
theorem e_ofF {e : Expr} {ev : Ev D} (h : FOk G X W e ev) (hv : Lists ev) : EOk G X W e ev :=
  PE.weak h fun σ H Q ⟨m, S, τ, c, sr, p⟩ => ⟨m, S, τ, c, sr, by
    cases e : ev τ S with
    | bad => rw [e] at p; exact p.elim
    | exc x S' => rw [e] at p; exact p
    | ok d S' =>
      obtain ⟨ds, rfl⟩ := hv _ _ _ _ e
      rw [e] at p
      intro q xs m1 H1 c1 st h0 h1 hm rs
      exact p _ m1 H1 c1.unban st (.vl h1 (new_out c st h0 hm) rs.unban)⟩
/-- .. put into the store -/
theorem e_new {e : Expr} {ev : Ev D} (h : FOk G X W e ev) : EOk G X W e fun τ S => (ev τ S).bind fun d S => match d with | .vl ds => .ok (.ref S.length) (S ++ [.lst ds]) | _ => .bad :=
  PE.weak h fun σ H Q ⟨m, S, τ, c, sr, p⟩ => ⟨m, S, τ, c, sr, by
    dsimp only at p
    cases e : ev τ S with
    | bad => rw [e] at p; exact p.elim
    | exc x S' => rw [e] at p; exact p
    | ok d S' =>
      rw [e] at p
      cases d with
      | vl ds =>
        intro q xs m1 H1 c1 st h0 h1 hm rs
        refine p _ (m1.put q) H1 (c1.put h1 hm rs) ⟨?_, st.ban, st.keep, st.there⟩ (.ref ?_)
        · obtain ⟨t, e1, e2⟩ := st.more
          refine ⟨t ++ [q], by show m1.l ++ [q] = _; rw [e1, List.append_assoc], fun a ha => ?_⟩
          rcases List.mem_append.mp ha with z | z
          · exact e2 a z
          · have : a = q := by simpa using z
            subst this; exact h0
        · show (m1.l ++ [q])[_]? = _
          have hl : m1.l.length = S'.length := c1.len
          rw [List.getElem?_append_right (by omega), ← hl]
          simp
      | _ => exact p.elim⟩
/-- a + b, a * b of lists -/
theorem f_bin {op : Operator} {f : Store → D → D → Option D} {a b : Expr} {ea eb : Ev D} {pos : Pos} (ho : OpR X (binaryOp op) (rDF G f)) (ha : EOk G X W a ea) (hb : EOk G X W b eb) :
    FOk G X W (.BinOp a op b pos) fun τ S => (ea τ S).bind fun x S => (eb τ S).bind fun y S => (lift S (f S x y)).bind fun d S => match d with | .vl ds => .ok (.vl ds) S | _ => .bad :=
  PE.weak (pe_op ho ha hb) fun σ H Q ⟨m, S, τ, c, sr, p⟩ => by
    dsimp only at p
    refine ⟨m, S, τ, c, sr, ?_⟩
    cases e : ea τ S with
    | bad => rw [e] at p; exact p.elim
    | exc x S' => rw [e] at p; exact p
    | ok d1 S1 =>
      rw [e] at p
      intro v m1 H1 c1 st r1
      refine ⟨m1, S1, τ, c1, sr.step c st, ?_⟩
      cases e2 : eb τ S1 with
      | bad => simp only [Res.bind, e2] at p; exact p.elim
      | exc x S' => simp only [Res.bind, e2] at p; exact fun cc d m' H' cf s q => p cc d m' H' cf (st.trans s) q
      | ok d2 S2 =>
        simp only [Res.bind, e2] at p
        intro u m2 H2 c2 st2 r2
        cases e3 : f S2 d1 d2 with
        | none => simp only [e3] at p; exact p.elim
        | some d =>
          simp only [e3] at p
          cases d with
          | vl ds =>
            refine ⟨m2, S2, d1, d2, ds, c2, r1.step c1 st2, r2, e3, fun q xs hq rs => ?_⟩
            have s12 := st.trans st2
            exact p q xs m2 _ (c2.start hq) (s12.trans (Stp.new hq)) (s12.there _ (.of hq)) upd_same (c2.notin hq) (rs.start hq)
          | _ => exact p.elim
/-! subscripts, slices -/
theorem e_sub (hK : X.K = G.K) {a b : Expr} {ea eb : Ev D} {pos : Pos} (ha : EOk G X W a ea) (hb : EOk G X W b eb) (hs : PlainIx b) :
    EOk G X W (.Subscript a b pos) fun τ S => (ea τ S).bind fun x S => (eb τ S).bind fun y S => lift S (sub S x y) :=
  PE.weak (pe_ix (ixD hK) ha hb hs) fun σ H Q ⟨m, S, τ, c, sr, p⟩ => rdE.seq c sr p fun v d1 S1 m1 H1 c1 st r1 p1 => rdE.seq c1 (sr.step c st) p1 fun u d2 S2 m2 H2 c2 st2 r2 p2 =>
    ⟨m2, S2, d1, d2, c2, r1.step c1 st2, r2, p2.anyE⟩
/-- a part of a slice -/
def OOk (G : Gd) (X : Cx) (W : WX) (e : Option Expr) (ev : Ev D) : Prop := ∃ t, PO X e t ∧ ∀ σ H (Q : Option Int → Hp → Prop), (∃ m S τ, Cf G m S H ∧ SR G m H σ τ ∧ Post G m H (ev τ S) (fun m' H' o d => bound d = some o) Q fun c d H' => W c d σ H') → t σ H Q
theorem o_none : OOk G X W none fun _ S => .ok .non S := ⟨_, po_none, fun σ H Q ⟨m, S, τ, c, sr, p⟩ => p none m H c Stp.refl rfl⟩
theorem o_some {e : Expr} {ev : Ev D} (h : EOk G X W e ev) : OOk G X W (some e) fun τ S => (ev τ S).bind fun d S => match d with | .int i => .ok (.int i) S | _ => .bad := ⟨_, po_some h, fun σ H Q ⟨m, S, τ, c, sr, p⟩ =>
  rdE.seq c sr p fun v d S1 m1 H1 c1 st r p1 => by
    cases r with
    | int i => exact ⟨i, rfl, p1 (some i) m1 H1 c1 Stp.refl rfl⟩
    | _ => exact p1.elim⟩
theorem e_slice (hK : X.K = G.K) {a : Expr} {lo hi : Option Expr} {ea el eh : Ev D} {p2 pos : Pos} (ha : EOk G X W a ea) (hl : OOk G X W lo el) (hh : OOk G X W hi eh) :
    EOk G X W (.Subscript a (.Slice lo hi none p2) pos) fun τ S => (ea τ S).bind fun x S => (el τ S).bind fun y S => (eh τ S).bind fun z S => lift S (slice S x y z) := by
  obtain ⟨tl, pl, wl⟩ := hl
  obtain ⟨th, ph, wh⟩ := hh
  refine PE.weak (pe_slice (slD hK) ha pl ph) fun σ H Q ⟨m, S, τ, c, sr, p⟩ => rdE.seq c sr p fun v d1 S1 m1 H1 c1 st r1 p1 => ?_
  refine wl σ H1 _ ⟨m1, S1, τ, c1, sr.step c st, Post.bind p1 fun o d2 S2 m2 H2 c2 st2 b2 p2 => ?_⟩
  refine wh σ H2 _ ⟨m2, S2, τ, c2, (sr.step c st).step c1 st2, Post.bind p2 fun o' d3 S3 m3 H3 c3 st3 b3 p3 => ?_⟩
  exact ⟨m3, S3, d1, d2, d3, c3, (r1.step c1 st2).step c2 st3, b2, b3, p3.anyE⟩
theorem e_rev (hK : X.K = G.K) {a : Expr} {ea : Ev D} {k : Nat} {p1 p2 p3 pos : Pos} (ha : EOk G X W a ea) :
    EOk G X W (.Subscript a (.Slice none none (some (.UnaryOp .USub (.Constant (.int 1) k p1) p2)) p3) pos) fun τ S => (ea τ S).bind fun x S => lift S (rev S x) :=
  PE.weak (pe_rev hK ha) fun σ H Q ⟨m, S, τ, c, sr, p⟩ => rdE.seq c sr p fun v d1 S1 m1 H1 c1 st r1 p1 => ⟨m1, S1, d1, c1, r1, p1.anyE⟩
/-! built-in functions -/
theorem e_blt {e : Expr} {es : List Expr} {ees : Ev (List D)} {id : String} {f : BF} {x : Str} {p pos : Pos} (hc : CallR X (.builtin id) (rB G f)) (hg : Gl X x) (hm : X.mg x = none) (hv : bootBuiltins x = some (.builtin id)) (ha : AOk G X W (e :: es) ees)
    (hn : x ≠ "__name__") (hdb : (x == ("__debug__" : Str)) = false) (he : starEach (e :: es) X.env = (false, eval e X.env) :: starEach es X.env) (hpl : (backTo pos (starEach es X.env)).any (·.1) = false) :
    EOk G X W (.Call (.Name x p) (e :: es) [] pos) fun τ S => (ees τ S).bind fun ds S => lift S (bcall S f ds) :=
  PE.weak (pe_callB hc hg hm hv ha hn hdb he hpl) fun σ H Q ⟨m, S, τ, c, sr, p⟩ => rdA.seq c sr p fun vs ds S1 m1 H1 c1 st r1 p1 => ⟨m1, S1, ds, c1, r1, p1.anyE⟩
theorem e_bty {e : Expr} {es : List Expr} {ees : Ev (List D)} {id : String} {f : BF} {x : Str} {p pos : Pos} (hc : CallR X (.type id) (rB G f)) (hg : Gl X x) (hm : X.mg x = none) (hv : bootBuiltins x = some (.type id)) (ha : AOk G X W (e :: es) ees)
    (hn : x ≠ "__name__") (hdb : (x == ("__debug__" : Str)) = false) (he : starEach (e :: es) X.env = (false, eval e X.env) :: starEach es X.env) (hpl : (backTo pos (starEach es X.env)).any (·.1) = false) :
    EOk G X W (.Call (.Name x p) (e :: es) [] pos) fun τ S => (ees τ S).bind fun ds S => lift S (bcall S f ds) :=
  PE.weak (pe_callTy hc hg hm hv ha hn hdb he hpl) fun σ H Q ⟨m, S, τ, c, sr, p⟩ => rdA.seq c sr p fun vs ds S1 m1 H1 c1 st r1 p1 => ⟨m1, S1, ds, c1, r1, p1.anyE⟩
end
end RA

set_option Elab.async false
set_option linter.all false
set_option maxRecDepth 100000
set_option maxHeartbeats 4000000
set_option autoImplicit false
/-! B7: methods of lists, calls of defs, what is walked, comprehensions. -/
namespace RA
open PySem PySem.Spec PyProof.Rows L2
section
variable {G : Gd} {X : Cx} {W : WX}
/-! ### methods -/
theorem VR.isL {m : Mm} {S : Store} {H : Hp} {v : V} {n : Nat} (c : Cf G m S H) (r : VR G m H v (.ref n)) : ∃ a xs ds, v = .ref a ∧ m.l[n]? = some a ∧ S[n]? = some (.lst ds) ∧ H a = some (.lst xs) ∧ VRs G m H xs ds := by
  cases r with
  | @ref n a h =>
    have hn : n < S.length := by rw [← c.len]; exact (List.getElem?_eq_some_iff.mp h).1
    cases q : S[n] with
    | lst ds =>
      have hs : S[n]? = some (.lst ds) := by rw [List.getElem?_eq_getElem hn, q]
      obtain ⟨b, xs, e1, e2, e3⟩ := c.at_ n ds hs
      rw [h] at e1; cases e1
      exact ⟨a, xs, ds, rfl, h, hs, e2, e3⟩
theorem e_append (hK : X.K = G.K) {o e : Expr} {eo ee : Ev D} {apos cpos : Pos} (ho : EOk G X W o eo) (he : EOk G X W e ee)
    (hbase : attributeBase o "append" X.env (eval o X.env) = eval o X.env)
    (hfew : ((backTo cpos (starEach [e] X.env)).all (fun x => !x.1) && (backToKw cpos (keywordEach [] X.env)).all (fun x => x.1.isSome)
      && decide ([e].length + ([] : List Keyword).length + (if ([] : List Keyword).isEmpty then 0 else 1) < 30)) = true)
    (hline : (apos.endLine == cpos.line) = true) (hs : starEach [e] X.env = (false, eval e X.env) :: starEach [] X.env) (hplain : (backTo cpos (starEach [] X.env)).any (·.1) = false) :
    EOk G X W (.Call (.Attribute o "append" apos) [e] [] cpos) fun τ S => (eo τ S).bind fun x S => match x with
      | .ref n => (ee τ S).bind fun y S => match S[n]? with
        | some (.lst ds) => if ds.length < LINE then .ok .non (S.set n (.lst (ds ++ [y]))) else .bad
        | none => .bad
      | _ => .bad :=
  PE.weak (pe_bm PySem.F.plainAttrs_list PySem.F.slot_list_append PySem.F.type_list_append mt_append ho (pa_cons he pa_nil hs) hbase hfew hline hs hplain) fun σ H Q ⟨m, S, τ, c, sr, p⟩ =>
    rdE.seq c sr p fun v d S1 m1 H1 c1 st r p1 => by
      cases d with
      | ref n =>
        obtain ⟨a, xs, ds, rfl, h1, h2, h3, h4⟩ := VR.isL c1 r
        refine ⟨.inl ⟨rfl, xs, .of h3⟩, rdE.seq c1 (sr.step c st) p1 fun u d2 S2 m2 H2 c2 st2 r2 p2 => ?_⟩
        obtain ⟨a', xs', ds', e1, h1', h2', h3', h4'⟩ := VR.isL c2 (r.step c1 st2)
        cases e1
        simp only [h2'] at p2
        by_cases hl : ds'.length < LINE
        · rw [if_pos hl] at p2
          obtain ⟨c3, st3⟩ := c2.write h1' h2' h3' (h4'.append (.cons r2 .nil))
          exact ⟨a, xs', u, rfl, rfl, h3', by rw [h4'.length, ← line_eq]; exact hl, p2 _ m2 _ c3 st3 .non⟩
        · rw [if_neg hl] at p2; exact p2.elim
      | _ => exact p1.elim
theorem natIx_seq {n : Nat} {i : Int} {j : Nat} (h : natIx n i = some j) : seqIndex? i n = some j ∧ j < n ∧ -(n : Int) ≤ i ∧ i < n := ixN_seq (by rw [← natIx_eq]; exact h)
theorem e_pop (hK : X.K = G.K) {o e : Expr} {eo ee : Ev D} {apos cpos : Pos} (ho : EOk G X W o eo) (he : EOk G X W e ee)
    (hbase : attributeBase o "pop" X.env (eval o X.env) = eval o X.env)
    (hfew : ((backTo cpos (starEach [e] X.env)).all (fun x => !x.1) && (backToKw cpos (keywordEach [] X.env)).all (fun x => x.1.isSome)
      && decide ([e].length + ([] : List Keyword).length + (if ([] : List Keyword).isEmpty then 0 else 1) < 30)) = true)
    (hline : (apos.endLine == cpos.line) = true) (hs : starEach [e] X.env = (false, eval e X.env) :: starEach [] X.env) (hplain : (backTo cpos (starEach [] X.env)).any (·.1) = false) :
    EOk G X W (.Call (.Attribute o "pop" apos) [e] [] cpos) fun τ S => (eo τ S).bind fun x S => match x with
      | .ref n => (ee τ S).bind fun y S => match y with
        | .int k => if -(2 ^ 62) ≤ k ∧ k < 2 ^ 62 then (match S[n]? with
          | some (.lst ds) => match natIx ds.length k with
            | some j => match ds[j]? with
              | some d => .ok d (S.set n (.lst (ds.eraseIdx j)))
              | none => .bad
            | none => .bad
          | none => .bad) else .bad
        | _ => .bad
      | _ => .bad :=
  PE.weak (pe_bm PySem.F.plainAttrs_list PySem.F.slot_list_pop PySem.F.type_list_pop mt_popAt ho (pa_cons he pa_nil hs) hbase hfew hline hs hplain) fun σ H Q ⟨m, S, τ, c, sr, p⟩ =>
    rdE.seq c sr p fun v d S1 m1 H1 c1 st r p1 => by
      cases d with
      | ref n =>
        obtain ⟨a, xs, ds, rfl, h1, h2, h3, h4⟩ := VR.isL c1 r
        refine ⟨.inl ⟨rfl, xs, .of h3⟩, rdE.seq c1 (sr.step c st) p1 fun u d2 S2 m2 H2 c2 st2 r2 p2 => ?_⟩
        obtain ⟨a', xs', ds', e1, h1', h2', h3', h4'⟩ := VR.isL c2 (r.step c1 st2)
        cases e1
        cases r2 with
        | int k =>
          by_cases hk : -(2 ^ 62) ≤ k ∧ k < 2 ^ 62
          case neg => simp only [if_neg hk] at p2; exact p2.elim
          simp only [if_pos hk, h2'] at p2
          cases e2 : natIx ds'.length k with
          | none => simp only [e2] at p2; exact p2.elim
          | some j =>
            simp only [e2] at p2
            cases e3 : ds'[j]? with
            | none => simp only [e3] at p2; exact p2.elim
            | some d =>
              simp only [e3] at p2
              obtain ⟨z, hz, rz⟩ := h4'.get e3
              obtain ⟨q1, q2, q3, q4⟩ := natIx_seq e2
              obtain ⟨c3, st3⟩ := c2.write h1' h2' h3' (h4'.eraseIdx j)
              exact ⟨a, xs', k, j, z, rfl, rfl, h3', by omega, by omega, by rw [h4'.length]; exact q1, hz, p2 _ m2 _ c3 st3 (rz.step c2 st3)⟩
        | _ => exact p2.elim
      | _ => exact p1.elim
/-! ### calls of defs -/
structure RoomG (k : Nat) (A : Around) : Prop where
  room : Room k A
  gd : A.guards = some []
theorem RoomG.mono {j k : Nat} {A : Around} (r : RoomG k A) (h : j ≤ k) : RoomG j A := ⟨r.room.mono h, r.gd⟩
theorem RoomG.deeper {k : Nat} {A : Around} (r : RoomG (k + 1) A) (env : Env) : RoomG k (A.deeper env) := ⟨r.room.deeper env, r.gd⟩
/-- the def at f keeps its promise, by k levels -/
structure Prom (P : Program) (w : World) (K : PySem.W.Frag) (mg : Str → Option Value) (base : Heap) (k : Nat) (f : Addr) (sp : Sp) : Prop where
  kp : PySem.W.keepIn K (.ref f) = true
  run : ∀ (A : Around) (outer : List Env) (s : Shared) (H : Hp) (us : List Value) (vs : List V) (Q : VK) (E : XK), RoomG k A → Env0 P w K mg base A outer s H → Vals vs us → sp vs H Q E →
    codeAny (model P w) A (.call (.ref f) ⟨us, []⟩) (CR (L2.CX P w) outer P w H s Q E) s
/-- what ev gives -/
def spI (G : Gd) (ev : List D → Store → Res D) : Sp := fun vs H Q E => ∃ m S ds, Cf G m S H ∧ VRs G m H vs ds ∧ Post G m H (ev ds S) (VR G) Q E
theorem run_prom {pins : List (Addr × Obj)} {σ : L2.St} {H : Hp} {s : Shared} {Q : VK} {us : List Value} {vs : List V} {k : Nat} {f : Addr} {sp : Sp} (F : Prom X.prog X.w X.K X.mg X.base k f sp) (hr : RoomG k X.A) (tk : Takes X W)
    (I : Inv X pins σ H s) (r : Vals vs us) (h : sp vs H Q (WE W σ)) : wpAny (model X.prog X.w) X.A (call (.ref f) us) (EP X pins σ Q) X.xe s := by
  refine wpAny_call (codeAny_mono (F.run X.A X.stack s H us vs Q (WE W σ) hr I.env0 r h) fun res s' hq => ?_)
  cases res with
  | error e => exact passAt tk σ pins H s e s' I hq
  | ok fl =>
    cases fl with
    | ret u => exact I.after hq
    | next => exact False.elim hq
    | brk => exact False.elim hq
    | cont => exact False.elim hq
theorem e_call {k : Nat} {f : Addr} {ev : List D → Store → Res D} {x : Str} {e : Expr} {es : List Expr} {ees : Ev (List D)} {p pos : Pos} (F : Prom X.prog X.w X.K X.mg X.base k f (spI G ev)) (hr : RoomG k X.A) (tk : Takes X W)
    (hg : Gl X x) (hm : X.mg x = some (.ref f)) (ha : AOk G X W (e :: es) ees) (hdb : (x == ("__debug__" : Str)) = false)
    (he : starEach (e :: es) X.env = (false, eval e X.env) :: starEach es X.env) (hpl : (backTo pos (starEach es X.env)).any (·.1) = false) :
    EOk G X W (.Call (.Name x p) (e :: es) [] pos) fun τ S => (ees τ S).bind fun ds S => ev ds S := by
  refine ⟨fun pins s σ H Q I ⟨m, S, τ, c, sr, pp⟩ => ?_⟩
  refine wpAny_Call_Name_kw (ld_glob I hg hm ?_ hdb)
  refine PySem.W.callWith_K (h₀ := X.base) I.ok.mod.kin F.kp (thn (ha.run pos pins s σ H _ I (rdA.seq (K := fun vs H1 => spI G ev vs H1 Q (WE W σ)) c sr pp fun vs ds S1 m1 H1 c1 st rs p1 => ⟨m1, S1, ds, c1, rs, p1⟩)) fun us s1 ⟨vs, H1, I1, r, q⟩ => ⟨I1.kIn, ?_⟩) he hpl
  exact run_prom F hr tk I1 r q
theorem e_callv {k i : Nat} {fn : Nat → List D → Store → Res D} {x : Str} {e : Expr} {es : List Expr} {ees : Ev (List D)} {p pos : Pos} (F : ∀ j f, G.FA j = some f → Prom X.prog X.w X.K X.mg X.base k f (spI G (fn j))) (hr : RoomG k X.A) (tk : Takes X W)
    (hN : X.N[i]? = some x) (hv : Vis X.env.scope x) (ha : AOk G X W (e :: es) ees) (hdb : (x == ("__debug__" : Str)) = false) (hcd : (x == ("__classdict__" : Str)) = false)
    (he : starEach (e :: es) X.env = (false, eval e X.env) :: starEach es X.env) (hpl : (backTo pos (starEach es X.env)).any (·.1) = false) :
    EOk G X W (.Call (.Name x p) (e :: es) [] pos) fun τ S => (match τ[i]? with | some (some d) => Res.ok d S | _ => .bad).bind fun x S => match x with
      | .fn j => (ees τ S).bind fun ds S => fn j ds S
      | _ => .bad := by
  refine ⟨fun pins s σ H Q I ⟨m, S, τ, c, sr, pp⟩ => ?_⟩
  cases e1 : τ[i]? with
  | none => simp only [e1] at pp; exact pp.elim
  | some o =>
    cases o with
    | none => simp only [e1] at pp; exact pp.elim
    | some d =>
      simp only [e1, Res.bind] at pp
      obtain ⟨v, hv', rv⟩ := sr.at_ i d e1
      cases rv with
      | @fn j f hf =>
        refine wpAny_Call_Name_kw (thn ((pe_var (pos := p) hN hv hdb hcd).run pins s σ H (fun v H1 => v = .ref f ∧ H1 = H) I ⟨.ref f, hv', rfl, rfl⟩) fun u s1 ⟨v, H1, I1, r1, q1⟩ => ?_)
        obtain ⟨rfl, rfl⟩ := q1
        cases r1
        refine PySem.W.callWith_K (h₀ := X.base) I.ok.mod.kin (F j f hf).kp (thn (ha.run pos pins s1 σ _ _ I1 (rdA.seq (K := fun vs H1 => spI G (fn j) vs H1 Q (WE W σ)) c sr pp fun vs ds S1 m1 H1 c1 st rs p1 => ⟨m1, S1, ds, c1, rs, p1⟩)) fun us s2 ⟨vs, H2, I2, r, q⟩ => ⟨I2.kIn, ?_⟩) he hpl
        exact run_prom (F j f hf) hr tk I2 r q
      | _ => exact pp.elim

/-! ### what is walked -/
/-- what is known at m0, H0 holds at m, H -/
structure Tr (G : Gd) (m0 : Mm) (H0 : Hp) (m : Mm) (H : Hp) : Prop where
  val : ∀ v d, VR G m0 H0 v d → VR G m H v d
  tup : ∀ a xs, SqT G.K H0 a xs → SqT G.K H a xs
  lst : ∀ a xs, H0 a = some (.lst xs) → m0.out a → H a = some (.lst xs)
  ro : ∀ a xs, Rd H0 a (.lst xs) → m0.out a → Rd H a (.lst xs)
  at_ : ∀ (n : Nat) a, m0.l[n]? = some a → m.l[n]? = some a
theorem Tr.of_stp {m m' : Mm} {S : Store} {H H' : Hp} (c : Cf G m S H) (st : Stp m H m' H') : Tr G m H m' H' := ⟨fun _ _ r => r.step c st, fun _ _ h => SqT.step c st h, fun _ _ h hm => st.keep _ _ h NoTbl.lst hm.1, fun _ _ h hm => Rd.step st h NoTbl.lst hm.1, fun _ _ h => st.at_ h⟩
theorem Tr.trans {m0 m1 m2 : Mm} {H0 H1 H2 : Hp} (a : Tr G m0 H0 m1 H1) (ha : ∀ b, m0.out b → (∃ o, H0 b = some o) → m1.out b) (b : Tr G m1 H1 m2 H2) : Tr G m0 H0 m2 H2 := ⟨fun _ _ r => b.val _ _ (a.val _ _ r), fun _ _ h => b.tup _ _ (a.tup _ _ h),
  fun _ _ h hm => b.lst _ _ (a.lst _ _ h hm) (ha _ hm ⟨_, h⟩), fun _ _ h hm => b.ro _ _ (a.ro _ _ h hm) (ha _ hm (by rcases h with h | ⟨u, h⟩ <;> exact ⟨_, h⟩)), fun _ _ h => b.at_ _ _ (a.at_ _ _ h)⟩
/-- J yields the items -/
structure Yields (G : Gd) (m0 : Mm) (H0 : Hp) (J : It) (it : List D × Option Nat) : Prop where
  go : ∀ m S H i, Cf G m S H → Tr G m0 H0 m H → still S it = true → i < it.1.length → J.go i H
  stop : ∀ m S H, Cf G m S H → Tr G m0 H0 m H → still S it = true → J.stop it.1.length H
  yld : ∀ m S H i v H', Cf G m S H → Tr G m0 H0 m H → still S it = true → i < it.1.length → J.yld i H v H' → ∃ d, it.1[i]? = some d ∧ Cf G m S H' ∧ Stp m H m H' ∧ VR G m H' v d ∧ ∀ a o, H a = some o → H' a = some o
/-- what is walked gives the items that ev tells -/
def IOk (G : Gd) (X : Cx) (W : WX) (tg e : Expr) (ev : Ev (List D × Option Nat)) : Prop :=
  ∃ wi, PI X tg e wi ∧ ∀ σ H (R : It → Hp → Prop), (∃ m S τ, Cf G m S H ∧ SR G m H σ τ ∧ Post G m H (ev τ S) (fun m' H' J it => Yields G m' H' J it) R fun c d H' => W c d σ H') → wi σ H R
mutual
theorem D.beq_eq : ∀ {a b : D}, D.beq a b = true → a = b
  | .non, b, h => by cases b with
    | non => rfl
    | _ => cases h
  | .bl x, b, h => by cases b with
    | bl y => rw [show x = y from by simpa [D.beq] using h]
    | _ => cases h
  | .int x, b, h => by cases b with
    | int y => rw [show x = y from by simpa [D.beq] using h]
    | _ => cases h
  | .str x, b, h => by cases b with
    | str y => rw [show x = y from by simpa [D.beq] using h]
    | _ => cases h
  | .tup x, b, h => by cases b with
    | tup y => rw [D.beqs_eq (a := x) (b := y) (by simpa [D.beq] using h)]
    | _ => cases h
  | .vl x, b, h => by cases b with
    | vl y => rw [D.beqs_eq (a := x) (b := y) (by simpa [D.beq] using h)]
    | _ => cases h
  | .ro x, b, h => by cases b with
    | ro y => rw [D.beqs_eq (a := x) (b := y) (by simpa [D.beq] using h)]
    | _ => cases h
  | .vd x y, b, h => by cases b with
    | vd z w =>
      have h' : D.beqs x z = true ∧ D.beqs y w = true := by simpa [D.beq] using h
      rw [D.beqs_eq h'.1, D.beqs_eq h'.2]
    | _ => cases h
  | .ref x, b, h => by cases b with
    | ref y => rw [show x = y from by simpa [D.beq] using h]
    | _ => cases h
  | .fn x, b, h => by cases b with
    | fn y => rw [show x = y from by simpa [D.beq] using h]
    | _ => cases h
  | .ty x, b, h => by cases b with
    | ty y => rw [show x = y from by simpa [D.beq] using h]
    | _ => cases h
theorem D.beqs_eq : ∀ {a b : List D}, D.beqs a b = true → a = b
  | [], b, h => by cases b with
    | nil => rfl
    | cons y ys => cases h
  | x :: xs, b, h => by
    cases b with
    | nil => cases h
    | cons y ys =>
      have h' : D.beq x y = true ∧ D.beqs xs ys = true := by simpa [D.beqs] using h
      rw [D.beq_eq h'.1, D.beqs_eq h'.2]
end
theorem get_of_lt {α : Type} {l : List α} {i : Nat} (h : i < l.length) : ∃ d, l[i]? = some d := ⟨l[i], List.getElem?_eq_getElem h⟩
/-- a list that does not change, a tuple -/
theorem yields_tup {m0 : Mm} {H0 : Hp} {a : Addr} {xs : List V} {ds : List D} (h : SqT G.K H0 a xs) (rs : VRs G m0 H0 xs ds) : Yields G m0 H0 (Itt G.K a) (ds, none) where
  go := fun m S H i c st _ hi => by
    obtain ⟨d, hd⟩ := get_of_lt (show i < ds.length from hi)
    obtain ⟨v, hv, _⟩ := rs.get hd
    exact ⟨xs, v, st.tup _ _ h, hv⟩
  stop := fun m S H c st _ => ⟨xs, st.tup _ _ h, Nat.le_of_eq rs.length⟩
  yld := fun m S H i v H' c st _ hi hy => by
    obtain ⟨e, hy⟩ := hy
    subst e
    obtain ⟨d, hd⟩ := get_of_lt (show i < ds.length from hi)
    obtain ⟨u, hu, ru⟩ := rs.get hd
    have := hy xs (st.tup _ _ h)
    rw [hu] at this
    cases this
    exact ⟨d, hd, c, Stp.refl, st.val _ _ ru, fun _ _ e => e⟩
theorem yields_lst {m0 : Mm} {H0 : Hp} {a : Addr} {xs : List V} {ds : List D} (h : ∀ m H, Tr G m0 H0 m H → SqL G.K H a xs) (rs : VRs G m0 H0 xs ds) : Yields G m0 H0 (Itl G.K a) (ds, none) where
  go := fun m S H i c st _ hi => by
    obtain ⟨d, hd⟩ := get_of_lt (show i < ds.length from hi)
    obtain ⟨v, hv, _⟩ := rs.get hd
    exact ⟨xs, v, h m H st, hv⟩
  stop := fun m S H c st _ => ⟨xs, h m H st, Nat.le_of_eq rs.length⟩
  yld := fun m S H i v H' c st _ hi hy => by
    obtain ⟨e, hy⟩ := hy
    subst e
    obtain ⟨d, hd⟩ := get_of_lt (show i < ds.length from hi)
    obtain ⟨u, hu, ru⟩ := rs.get hd
    have := hy xs (h m _ st)
    rw [hu] at this
    cases this
    exact ⟨d, hd, c, Stp.refl, st.val _ _ ru, fun _ _ e => e⟩
/-- a list of the store -/
theorem yields_ref {m0 : Mm} {H0 : Hp} {a : Addr} {n : Nat} {ds : List D} (h : m0.l[n]? = some a) : Yields G m0 H0 (Itl G.K a) (ds, some n) := by
  have look : ∀ m S H, Cf G m S H → Tr G m0 H0 m H → still S (ds, some n) = true → ∃ xs, H a = some (.lst xs) ∧ VRs G m H xs ds := fun m S H c st hs => by
    have hs' : (match S[n]? with | some (.lst es) => D.beqs ds es | none => false) = true := hs
    cases e : S[n]? with
    | none => rw [e] at hs'; cases hs'
    | some o =>
      cases o with
      | lst es =>
        rw [e] at hs'
        have : ds = es := D.beqs_eq hs'
        subst this
        obtain ⟨b, xs, e1, e2, e3⟩ := c.at_ n ds e
        rw [st.at_ _ _ h] at e1; cases e1
        exact ⟨xs, e2, e3⟩
  refine ⟨fun m S H i c st hs hi => ?_, fun m S H c st hs => ?_, fun m S H i v H' c st hs hi hy => ?_⟩
  · obtain ⟨xs, h1, rs⟩ := look m S H c st hs
    obtain ⟨d, hd⟩ := get_of_lt (show i < ds.length from hi)
    obtain ⟨v, hv, _⟩ := rs.get hd
    exact ⟨xs, v, .of h1, hv⟩
  · obtain ⟨xs, h1, rs⟩ := look m S H c st hs
    exact ⟨xs, .of h1, Nat.le_of_eq rs.length⟩
  · obtain ⟨e, hy⟩ := hy
    subst e
    obtain ⟨xs, h1, rs⟩ := look m S _ c st hs
    obtain ⟨d, hd⟩ := get_of_lt (show i < ds.length from hi)
    obtain ⟨u, hu, ru⟩ := rs.get hd
    have := hy xs (.of h1)
    rw [hu] at this
    cases this
    exact ⟨d, hd, c, Stp.refl, ru, fun _ _ e => e⟩
theorem yields_str {m0 : Mm} {H0 : Hp} {z : Str} : Yields G m0 H0 (Its z) (chars z, none) where
  go := fun m S H i c st _ hi => by
    have : i < (chars z).length := hi
    unfold chars at this
    rw [List.length_map, Array.length_toList] at this
    exact this
  stop := fun m S H c st _ => by
    show z.cps.size ≤ (chars z).length
    unfold chars
    rw [List.length_map, Array.length_toList]
    exact Nat.le_refl _
  yld := fun m S H i v H' c st _ hi hy => by
    obtain ⟨e, cc, h1, h2⟩ := hy
    subst e; subst h2
    refine ⟨.str ⟨#[cc]⟩, ?_, c, Stp.refl, .str _, fun _ _ e => e⟩
    show (chars z)[i]? = _
    unfold chars
    rw [List.getElem?_map, Array.getElem?_toList, h1]
    rfl
theorem yields_rng {m0 : Mm} {H0 : Hp} {lo : Int} {n : Nat} : Yields G m0 H0 (Itr lo n) ((List.range n).map fun i => D.int (lo + (i : Nat)), none) where
  go := fun m S H i c st _ hi => by
    have hi' : i < n := by simpa using hi
    exact hi'
  stop := fun m S H c st _ => by
    show n ≤ ((List.range n).map fun i => D.int (lo + (i : Nat))).length
    rw [List.length_map, List.length_range]
    exact Nat.le_refl _
  yld := fun m S H i v H' c st _ hi hy => by
    obtain ⟨e, h2⟩ := hy
    subst e; subst h2
    refine ⟨.int (lo + (i : Nat)), ?_, c, Stp.refl, .int _, fun _ _ e => e⟩
    have hi' : i < n := by simpa using hi
    show ((List.range n).map fun i => D.int (lo + (i : Nat)))[i]? = _
    rw [List.getElem?_map, List.getElem?_range hi']
    rfl
theorem pi_val {tg e : Expr} {te : TE} (he : PE X e te) : PI X tg e fun σ H R => te σ H fun x H1 =>
    (∃ a, x = .ref a ∧ (∃ xs, SqL X.K H1 a xs) ∧ R (Itl X.K a) H1) ∨ (∃ a, x = .ref a ∧ (∃ xs, SqT X.K H1 a xs) ∧ R (Itt X.K a) H1) ∨ ∃ z, x = .str z ∧ R (Its z) H1 := by
  refine ⟨fun pins s σ H R I h => thn (he.run pins s σ H _ I h) fun v s1 ⟨x, H1, I1, r1, q1⟩ => ?_⟩
  have fresh : ∀ b ∈ [s1.heap.objs.size], FpOk X pins H1 b := fun b hb => by
    have e : b = s1.heap.objs.size := by simpa using hb
    rw [e]
    exact I1.fpOk (Nat.le_refl _) (I1.hok.fresh (Nat.le_refl _))
  rcases q1 with ⟨a, rfl, ⟨xs, hq⟩, q⟩ | ⟨a, rfl, ⟨xs, hq⟩, q⟩ | ⟨z, rfl, q⟩
  · cases r1
    obtain ⟨its, rv, pl, hz⟩ := I1.list hq
    exact wpAny_pyIter_list pl.isList ⟨s1.heap.objs.size, [s1.heap.objs.size], _, _, H1, rfl, I1.kept (t' := s1.toks) fun b o e => Heap.get?_push_of_some _ e, turn_list a _, ⟨_, Heap.get?_push_size _ rfl, rfl, rfl⟩, fresh, q⟩
  · cases r1
    obtain ⟨its, rv, pl, hz⟩ := I1.tuple hq
    exact wpAny_pyIter_tuple (show s1.heap.IsTuple a its.toArray from pl) ⟨s1.heap.objs.size, [s1.heap.objs.size], _, _, H1, rfl, I1.kept (t' := s1.toks) fun b o e => Heap.get?_push_of_some _ e, turn_tuple a _, ⟨_, Heap.get?_push_size _ rfl, rfl, rfl⟩, fresh, q⟩
  · obtain ⟨t, rfl⟩ := r1
    cases ha : z.cps.all (· < 128)
    · exact wpAny_pyIter_wide ha (pi_one (tk := s1.toks) I1 _ (turn_str _ z t "str_iterator" (.inr rfl)) ⟨_, Heap.get?_push_size _ rfl, rfl, rfl⟩ q)
    · exact wpAny_pyIter_ascii ha (pi_one (tk := s1.toks) I1 _ (turn_str _ z t "str_ascii_iterator" (.inl rfl)) ⟨_, Heap.get?_push_size _ rfl, rfl, rfl⟩ q)
theorem i_val (hK : X.K = G.K) {tg e : Expr} {ee : Ev D} (he : EOk G X W e ee) : IOk G X W tg e fun τ S => (ee τ S).bind fun d S => lift S (srcOf S .val [d]) := by
  refine ⟨_, pi_val he, fun σ H R ⟨m, S, τ, c, sr, p⟩ => rdE.seq c sr p fun v d S1 m1 H1 c1 st r p1 => ?_⟩
  cases r with
  | str z => exact .inr (.inr ⟨z, rfl, p1 _ m1 H1 c1 Stp.refl yields_str⟩)
  | tup h q => exact .inr (.inl ⟨_, rfl, ⟨_, hK ▸ h⟩, hK ▸ p1 _ m1 H1 c1 Stp.refl (yields_tup h q)⟩)
  | vl h hm q => exact .inl ⟨_, rfl, ⟨_, .of h⟩, hK ▸ p1 _ m1 H1 c1 Stp.refl (yields_lst (fun m' H' st' => .of (st'.lst _ _ h hm)) q)⟩
  | ro h q =>
    have hs : ∀ m' H', Tr G m1 H1 m' H' → SqL G.K H' _ _ := fun m' H' st' => by
      rcases h with ⟨h, hm⟩ | h
      · exact .inl (st'.ro _ _ h hm)
      · exact .inr h
    exact .inl ⟨_, rfl, ⟨_, hK ▸ hs m1 H1 (Tr.of_stp c1 Stp.refl)⟩, hK ▸ p1 _ m1 H1 c1 Stp.refl (yields_lst hs q)⟩
  | @ref n a h =>
    obtain ⟨a', xs, ds, e1, h1, h2, h3, h4⟩ := VR.isL c1 (.ref h)
    cases e1
    have p2 : Post G m1 H1 (RA.lift S1 (some (ds, some n))) (fun m' H' J it => Yields G m' H' J it) R fun c d H' => W c d σ H' := by
      have : srcOf S1 .val [D.ref n] = some (ds, some n) := by
        show (match S1[n]? with | some (.lst ds) => some (ds, some n) | none => none) = _
        rw [h2]
      rw [← this]; exact p1
    exact .inl ⟨a, rfl, ⟨_, .of h3⟩, hK ▸ p2 _ m1 H1 c1 Stp.refl (yields_ref h)⟩
  | _ => exact p1.elim
theorem i_rng1 {tg e : Expr} {p pos : Pos} {ees : Ev (List D)} (hg : Gl X "range") (hm : X.mg "range" = none) (ha : AOk G X W [e] ees) (hs : starEach [e] X.env = [(false, eval e X.env)]) :
    IOk G X W tg (.Call (.Name "range" p) [e] [] pos) fun τ S => (ees τ S).bind fun ds S => lift S (srcOf S .rng1 ds) := by
  refine ⟨_, pi_range1 hg hm ha hs, fun σ H R ⟨m, S, τ, c, sr, p⟩ => rdA.seq c sr p fun vs ds S1 m1 H1 c1 st r p1 => ?_⟩
  obtain ⟨it, e1, k⟩ := Post.lift p1
  match ds, r, e1 with
  | [.int j], .cons (.int _) .nil, e1 =>
    obtain ⟨⟨h1, h2⟩, rfl⟩ := some_if (show (if -(2 ^ 62) ≤ j ∧ j < 2 ^ 62 then some ((List.range j.toNat).map fun i => D.int (0 + (i : Nat)), Option.none) else Option.none) = some it from e1)
    exact ⟨j, rfl, h1, h2, k _ m1 H1 c1 Stp.refl yields_rng⟩
theorem i_rng2 {tg a b : Expr} {p pos : Pos} {ees : Ev (List D)} (hg : Gl X "range") (hm : X.mg "range" = none) (ha : AOk G X W [a, b] ees) (hs : starEach [a, b] X.env = [(false, eval a X.env), (false, eval b X.env)]) (hs2 : starEach [b] X.env = [(false, eval b X.env)]) :
    IOk G X W tg (.Call (.Name "range" p) [a, b] [] pos) fun τ S => (ees τ S).bind fun ds S => lift S (srcOf S .rng2 ds) := by
  refine ⟨_, pi_range2 hg hm ha hs hs2, fun σ H R ⟨m, S, τ, c, sr, p⟩ => rdA.seq c sr p fun vs ds S1 m1 H1 c1 st r p1 => ?_⟩
  obtain ⟨it, e1, k⟩ := Post.lift p1
  match ds, r, e1 with
  | [.int i, .int j], .cons (.int _) (.cons (.int _) .nil), e1 =>
    obtain ⟨⟨h1, h2, h3, h4⟩, rfl⟩ := some_if (show (if -(2 ^ 62) ≤ i ∧ i < 2 ^ 62 ∧ -(2 ^ 62) ≤ j ∧ j < 2 ^ 62 then some ((List.range (j - i).toNat).map fun k => D.int (i + (k : Nat)), Option.none) else Option.none) = some it from e1)
    exact ⟨i, j, rfl, ⟨h1, h2, h3, h4⟩, k _ m1 H1 c1 Stp.refl yields_rng⟩
end
end RA

set_option Elab.async false
set_option linter.all false
set_option maxRecDepth 100000
set_option maxHeartbeats 4000000
set_option autoImplicit false
/-! B8: targets; comprehensions. -/
namespace RA
open PySem PySem.Spec PyProof.Rows L2
section
variable {G : Gd} {X : Cx} {W : WX} {m m' m0 m1 : Mm} {S : Store} {H H' H0 H1 : Hp} {σ : L2.St} {τ : Sig}
/-! ### targets -/
theorem SR.set {i : Nat} {v : V} {d : D} (r : SR G m H σ τ) (q : VR G m H v d) : SR G m H (σ.set i (some v)) (τ.set i (some d)) := ⟨by rw [List.length_set, List.length_set, r.len], fun j e h => by
  rw [List.getElem?_set] at h
  rw [List.getElem?_set]
  by_cases hj : i = j
  · subst hj
    rw [if_pos rfl] at h ⊢
    by_cases hl : i < τ.length
    · rw [if_pos hl] at h
      cases h
      rw [if_pos (by rw [r.len]; exact hl)]
      exact ⟨v, rfl, q⟩
    · rw [if_neg hl] at h; cases h
  · rw [if_neg hj] at h ⊢
    exact r.at_ j e h⟩
/-- what a target does -/
def GW (G : Gd) (g : TG) (tup : Bool) (is : List Nat) : Prop :=
  ∀ m S H (σ : L2.St) τ v d τ2 (K : L2.St → Hp → Prop), Cf G m S H → SR G m H σ τ → VR G m H v d → target τ tup is d = some τ2 →
    (∀ σ2, SR G m H σ2 τ2 → σ2.length = σ.length → (∀ j, j ∉ is → σ2[j]? = σ[j]?) → K σ2 H) → g v σ H K
theorem gw_name (i : Nat) : GW G (gName i) false [i] := fun m S H σ τ v d τ2 K c sr r e k => by
  have e' : some (τ.set i (some d)) = some τ2 := e
  cases e'
  refine k _ (sr.set r) (List.length_set) fun j hj => ?_
  rw [List.getElem?_set_ne]
  intro z
  exact hj (by rw [z]; exact List.mem_singleton_self _)
def gNames : List Nat → TGs
  | [] => gNil
  | i :: r => gCons (gName i) (gNames r)
theorem gws_names : ∀ (is : List Nat) {m : Mm} {H : Hp} {σ : L2.St} {τ τ2 : Sig} {vs : List V} {ds : List D} {K : L2.St → Hp → Prop}, SR G m H σ τ → VRs G m H vs ds → setAll τ is ds = some τ2 →
    (∀ σ2, SR G m H σ2 τ2 → σ2.length = σ.length → (∀ j, j ∉ is → σ2[j]? = σ[j]?) → K σ2 H) → gNames is vs σ H K
  | [], m, H, σ, τ, τ2, vs, ds, K, sr, rs, e, k => by
    cases rs with
    | nil => cases e; exact ⟨rfl, k _ sr rfl fun _ _ => rfl⟩
    | cons a b => cases e
  | i :: is, m, H, σ, τ, τ2, vs, ds, K, sr, rs, e, k => by
    cases rs with
    | nil => cases e
    | cons a b =>
      refine ⟨_, _, rfl, gws_names is (sr.set a) b e fun σ2 s2 l2 h2 => k σ2 s2 (by rw [l2, List.length_set]) fun j hj => ?_⟩
      rw [List.mem_cons, not_or] at hj
      rw [h2 j hj.2, List.getElem?_set_ne (Ne.symm hj.1)]
theorem setAll_len : ∀ {is : List Nat} {τ τ2 : Sig} {ds : List D}, setAll τ is ds = some τ2 → ds.length = is.length
  | [], τ, τ2, ds, e => by
    cases ds with
    | nil => rfl
    | cons a b => cases e
  | i :: is, τ, τ2, ds, e => by
    cases ds with
    | nil => cases e
    | cons a b => rw [List.length_cons, List.length_cons, setAll_len (is := is) e]
theorem gw_tup {K : PySem.W.Frag} (hK : K = G.K) {n : Nat} (is : List Nat) (hn : is.length = n) : GW G (gTup K n (gNames is)) true is := fun m S H σ τ v d τ2 Q c sr r e k => by
  cases r with
  | tup h q => exact ⟨_, _, rfl, hK ▸ h, by rw [q.length, setAll_len e, hn], gws_names is sr q e k⟩
  | _ => cases e

theorem r_ok {α β : Type} (a : α) (S : Store) (f : α → Store → Res β) : (Res.ok a S).bind f = f a S := rfl
theorem n_ok {α : Type} (a : α) (S : Store) : (Res.ok a S).noexc = .ok a S := rfl
theorem l_ok {α : Type} (a : α) (S : Store) : RA.lift S (some a) = .ok a S := rfl
/-! ### what is wanted of a new list -/
theorem PostF.later {r : Res D} {Q : VK} {E : Value → Option Addr → Hp → Prop} (st : Stp m H m1 H1) (p : PostF G m H r Q E) : PostF G m1 H1 r Q E := by
  unfold PostF at p ⊢
  cases r with
  | ok d S' =>
    cases d with
    | vl ds => exact fun q xs m' H' c s h0 h1 h2 h3 => p q xs m' H' c (st.trans s) (st.there _ h0) h1 h2 h3
    | _ => exact p
  | exc x S' => exact fun c d m' H' cf s q => p c d m' H' cf (st.trans s) q
  | bad => exact p
theorem PostF.bind {α β : Type} {r : Res α} {f : α → Store → Res D} {R : Mm → Hp → β → α → Prop} {K : β → Hp → Prop} {Q : VK} {E : Value → Option Addr → Hp → Prop} (p : PostF G m H (r.bind f) Q E)
    (h : ∀ v d S1 m1 H1, Cf G m1 S1 H1 → Stp m H m1 H1 → R m1 H1 v d → PostF G m1 H1 (f d S1) Q E → K v H1) : Post G m H r R K E := by
  cases r with
  | ok d S' => exact fun v m' H' c s q => h v d S' m' H' c s q (PostF.later s p)
  | exc x S' => exact p
  | bad => exact p

/-! ### comprehensions -/
theorem SR.tr (t : Tr G m0 H0 m H) (r : SR G m0 H0 σ τ) : SR G m H σ τ := ⟨r.len, fun i d h => by
  obtain ⟨v, e, q⟩ := r.at_ i d h
  exact ⟨v, e, t.val _ _ q⟩⟩
theorem wipe_len (τ : Sig) : ∀ vs : List Nat, (RA.wipe τ vs).length = τ.length
  | [] => rfl
  | v :: vs => by unfold RA.wipe; rw [List.length_set, wipe_len τ vs]
theorem SR.wipe (r : SR G m H σ τ) : ∀ vs : List Nat, SR G m H (L2.wipe σ vs) (RA.wipe τ vs)
  | [] => r
  | v :: vs => ⟨by rw [wipe_len, L2.wipe_length, r.len], fun j d h => by
      unfold RA.wipe at h
      unfold L2.wipe
      by_cases hj : v = j
      · subst hj
        rw [List.getElem?_set] at h
        rw [if_pos rfl] at h
        split at h <;> cases h
      · rw [List.getElem?_set_ne hj] at h ⊢
        exact (SR.wipe r vs).at_ j d h⟩
theorem wipe_in {σ : L2.St} {i : Nat} : ∀ {vs : List Nat}, i ∈ vs → (L2.wipe σ vs)[i]? = if i < σ.length then some none else none
  | v :: vs, h => by
    unfold L2.wipe
    rw [List.getElem?_set]
    by_cases hv : v = i
    · subst hv
      rw [if_pos rfl, L2.wipe_length]
    · rw [if_neg hv]
      exact wipe_in ((List.mem_cons.mp h).resolve_left fun e => hv e.symm)
theorem wipe_same {σ1 σ2 : L2.St} {vs : List Nat} (hl : σ1.length = σ2.length) (h : ∀ j, j ∉ vs → σ1[j]? = σ2[j]?) : L2.wipe σ1 vs = L2.wipe σ2 vs := by
  refine List.ext_getElem? fun j => ?_
  by_cases hj : j ∈ vs
  · rw [wipe_in hj, wipe_in hj, hl]
  · rw [L2.wipe_out hj, L2.wipe_out hj, h j hj]
theorem wipe_twice (σ : L2.St) (vs : List Nat) : L2.wipe (L2.wipe σ vs) vs = L2.wipe σ vs := wipe_same (L2.wipe_length σ vs) fun j hj => L2.wipe_out hj
/-- a list that is being made begins, grows -/
theorem Tr.start {q : Addr} {ys : List V} (hq : H q = none) : Tr G m H (m.with q) (upd H q (.lst ys)) :=
  ⟨fun _ _ r => r.start hq, fun a xs h => (by
    rcases h with (h | ⟨u, h⟩) | h
    · exact .inl (.inl (by rw [upd_ne (ne_of_none h hq)]; exact h))
    · exact .inl (.inr ⟨u, by rw [upd_ne (ne_of_none h hq)]; exact h⟩)
    · exact .inr h), fun a xs h _ => by rw [upd_ne (ne_of_none h hq)]; exact h, fun a xs h _ => (by
    rcases h with h | ⟨u, h⟩
    · exact .inl (by rw [upd_ne (ne_of_none h hq)]; exact h)
    · exact .inr ⟨u, by rw [upd_ne (ne_of_none h hq)]; exact h⟩), fun _ _ h => h⟩
theorem Tr.grow {q : Addr} {xs ys : List V} (t : Tr G m0 H0 (m.with q) H) (h0 : H0 q = none) (hq : H q = some (.lst xs)) : Tr G m0 H0 (m.with q) (upd H q (.lst ys)) :=
  ⟨fun _ _ r => (t.val _ _ r).grow (lst_only hq), fun a zs h => (by
    rcases t.tup a zs h with (h | ⟨u, h⟩) | h
    · exact .inl (.inl (by rw [upd_ne (fun z => by rw [z, hq] at h; cases h)]; exact h))
    · exact .inl (.inr ⟨u, by rw [upd_ne (fun z => by rw [z, hq] at h; cases h)]; exact h⟩)
    · exact .inr h), fun a zs h hm => by rw [upd_ne (ne_of_none h h0)]; exact t.lst a zs h hm, fun a zs h hm => (by
    have ne : a ≠ q := by rcases h with h | ⟨u, h⟩ <;> exact ne_of_none h h0
    rcases t.ro a zs h hm with h | ⟨u, h⟩
    · exact .inl (by rw [upd_ne ne]; exact h)
    · exact .inr ⟨u, by rw [upd_ne ne]; exact h⟩), t.at_⟩
/-- a step while a list is being made -/
theorem Tr.step {q : Addr} {S : Store} (t : Tr G m0 H0 (m.with q) H) (c : Cf G (m.with q) S H) (st0 : Stp m0 H0 m H) (h0 : H0 q = none) (st : Stp (m.with q) H m' H') : Tr G m0 H0 m' H' :=
  ⟨fun _ _ r => (t.val _ _ r).step c st, fun a zs h => SqT.step c st (t.tup a zs h), fun a zs h hm => st.keep _ _ (t.lst a zs h hm) NoTbl.lst (st0.out h NoTbl.lst hm).1,
    fun a zs h hm => Rd.step st (t.ro a zs h hm) NoTbl.lst (Rd.out st0 h NoTbl.lst hm).1, fun n a h => st.at_ (t.at_ n a h)⟩
theorem Stp.growN {q : Addr} {o : HO} (st : Stp m0 H0 m H) (h0 : H0 q = none) : Stp m0 H0 m (upd H q o) := ⟨st.more, st.ban, fun a u h hn hm => by
  rw [upd_ne (ne_of_none h h0)]; exact st.keep a u h hn hm, fun a z => by
  by_cases e : a = q
  · rw [e]; exact .of h0
  · exact st.there a fun u hu => z u (by rw [upd_ne e]; exact hu)⟩
theorem Stp.ex {q : Addr} (st : Stp (m.with q) H m' H') : ∃ m2, m' = m2.with q ∧ Stp m H m2 H' := ⟨⟨m'.l, m.b⟩, st.isWith, st.unban⟩
abbrev WNo : WX := fun _ _ _ _ => False
def compG (tup : Bool) (own is : List Nat) (ef ee : Ev D) (τ : Sig) (d : D) (S : Store) : Res (Option D) := match target (RA.wipe τ own) tup is d with
  | none => .bad
  | some τ2 => ((ef τ2 S).noexc).bind fun b S => (RA.lift S (truth S b)).bind fun k S => if k then ((ee τ2 S).noexc).bind fun y S => .ok (some y) S else .ok none S
def compEv (own : List Nat) (tup : Bool) (is : List Nat) (ei : Ev (List D × Option Nat)) (ef ee : Ev D) : Ev D := fun τ S =>
  (ei τ S).bind fun it S => (compL (compG tup own is ef ee τ) (fun S => still S it) it.1 S []).bind fun l S => .ok (.vl l) S
/-- the reading of a comprehension -/
theorem lc_reads {wi : TI} {ei : Ev (List D × Option Nat)} {g : TG} {tup : Bool} {is own : List Nat} {tt : TT} {ef ee : Ev D} {te : TE}
    (hwi : ∀ σ H (R : It → Hp → Prop), (∃ m S τ, Cf G m S H ∧ SR G m H σ τ ∧ Post G m H (ei τ S) (fun m' H' J it => Yields G m' H' J it) R fun c d H' => W c d σ H') → wi σ H R)
    (hg : GW G g tup is) (his : ∀ i ∈ is, i ∈ own) (ht : ∀ σ H Q, rdB G WNo ef σ H Q → tt σ H Q) (he : ∀ σ H Q, rdE G WNo ee σ H Q → te σ H Q) :
    ∀ σ H Q, rdF G W (compEv own tup is ei ef ee) σ H Q → tLc wi g tt te own σ H Q := by
  intro σ H Q ⟨m, S, τ, c, sr, p⟩
  refine hwi σ H _ ⟨m, S, τ, c, sr, PostF.bind p fun J it S1 m1 H1 c1 st1 Y p1 => ?_⟩
  have sr1 := sr.step c st1
  intro q hq
  refine ⟨fun i n H2 => ∃ m2 S2 acc xs, n = it.1.length - i ∧ i ≤ it.1.length ∧ Cf G (m2.with q) S2 H2 ∧ Stp m1 H1 m2 H2 ∧ Tr G m1 H1 (m2.with q) H2 ∧ H2 q = some (.lst xs) ∧ q ∉ m2.l ∧ VRs G (m2.with q) H2 xs acc ∧
    PostF G m1 H1 ((compL (compG tup own is ef ee τ) (fun S => still S it) (it.1.drop i) S2 acc).bind fun l S => .ok (.vl l) S) Q fun c d H' => W c d σ H', ?_, ?_⟩
  · exact ⟨it.1.length - 0, m1, S1, [], [], rfl, Nat.zero_le _, c1.start hq, Stp.new hq, Tr.start hq, upd_same, c1.notin hq, .nil, p1⟩
  rintro i n H2 ⟨m2, S2, acc, xs, hn, hi, c2, st2, t2, h2, hm2, r2, p2⟩
  have hst : still S2 it = true := by
    cases e : it.1.drop i with
    | nil =>
      rw [e] at p2
      unfold compL at p2
      by_cases h : still S2 it = true
      · exact h
      · simp only [h] at p2; exact p2.elim
    | cons d r =>
      rw [e] at p2
      unfold compL at p2
      by_cases h : still S2 it = true
      · exact h
      · simp only [h] at p2; exact p2.elim
  by_cases hlt : i < it.1.length
  case neg =>
    have ei : i = it.1.length := by omega
    refine .inl ⟨?_, ?_⟩
    · rw [ei]; exact Y.stop _ S2 H2 c2 t2 hst
    · rw [ei, List.drop_length] at p2
      unfold compL at p2
      rw [if_pos hst] at p2
      exact p2 q xs m2 H2 c2 st2 (.of hq) h2 hm2 r2
  refine .inr ⟨Y.go _ S2 H2 i c2 t2 hst hlt, fun H' => ∃ k, k < n ∧ ∃ m2 S2 acc xs, k = it.1.length - (i + 1) ∧ i + 1 ≤ it.1.length ∧ Cf G (m2.with q) S2 H' ∧ Stp m1 H1 m2 H' ∧ Tr G m1 H1 (m2.with q) H' ∧ H' q = some (.lst xs) ∧ q ∉ m2.l ∧ VRs G (m2.with q) H' xs acc ∧
    PostF G m1 H1 ((compL (compG tup own is ef ee τ) (fun S => still S it) (it.1.drop (i + 1)) S2 acc).bind fun l S => .ok (.vl l) S) Q fun c d H' => W c d σ H', fun H' h => h, fun x H3 hy => ?_⟩
  obtain ⟨d, hd, c3, st3, r3, k3⟩ := Y.yld _ S2 H2 i x H3 c2 t2 hst hlt hy
  have q3 : H3 q = some (.lst xs) := k3 _ _ h2
  have t3 := t2.step c2 st2 hq st3
  have s3 : Stp m1 H1 m2 H3 := st2.trans st3.unban
  have rs3 := r2.step c2 st3
  have hdr : it.1.drop i = d :: it.1.drop (i + 1) := by
    obtain ⟨h, e⟩ := List.getElem?_eq_some_iff.mp hd
    rw [List.drop_eq_getElem_cons h, e]
  rw [hdr] at p2
  unfold compL at p2
  rw [if_pos hst] at p2
  cases e4 : target (RA.wipe τ own) tup is d with
  | none => simp only [compG, e4] at p2; exact p2.elim
  | some τ2 =>
    have eg : compG tup own is ef ee τ d S2 = ((ef τ2 S2).noexc).bind fun b S => (RA.lift S (truth S b)).bind fun k S => if k then ((ee τ2 S).noexc).bind fun y S => .ok (some y) S else .ok none S := by
      unfold compG; rw [e4]
    rw [eg] at p2
    refine hg _ S2 H3 (L2.wipe σ own) (RA.wipe τ own) x d τ2 _ c3 ((sr1.tr t3).wipe own) r3 e4 fun σ2 sr2 l2 o2 => ⟨?_, ht _ _ _ ⟨_, S2, τ2, c3, sr2, ?_⟩⟩
    · rw [← wipe_twice σ own]
      exact wipe_same l2 fun j hj => o2 j fun z => hj (his j z)
    show Post G (m2.with q) H3 ((ef τ2 S2).bind fun x S => RA.lift S (truth S x)) _ _ _
    cases e5 : ef τ2 S2 with
    | bad => rw [e5] at p2; exact p2.elim
    | exc y S3 => rw [e5] at p2; exact p2.elim
    | ok b S3 =>
      rw [e5] at p2
      rw [n_ok, r_ok] at p2
      rw [r_ok]
      cases e6 : truth S3 b with
      | none => rw [e6] at p2; exact p2.elim
      | some k =>
        rw [e6, l_ok, r_ok] at p2
        rw [l_ok]
        intro kk m4 H4 c4 st4 ek
        subst ek
        obtain ⟨m5, rfl, s4'⟩ := st4.ex
        have s4 : Stp m1 H1 m5 H4 := s3.trans s4'
        have t4 := t3.step c3 s3 hq st4
        have q4 : H4 q = some (.lst xs) := st4.keep _ _ q3 NoTbl.lst hm2
        have hm5 : q ∉ m5.l := st4.notin (m := m2.with q) q3 NoTbl.lst hm2
        have rs4 := rs3.step c3 st4
        cases kk with
        | false =>
          rw [if_neg (by decide), r_ok] at p2
          rw [if_neg (by decide)]
          exact ⟨it.1.length - (i + 1), by omega, m5, S3, acc, xs, rfl, hlt, c4, s4, t4, q4, hm5, rs4, p2⟩
        | true =>
          rw [if_pos rfl] at p2 ⊢
          refine he _ _ _ ⟨_, S3, τ2, c4, sr2.step c3 st4, ?_⟩
          cases e7 : ee τ2 S3 with
          | bad => rw [e7] at p2; exact p2.elim
          | exc y S4 => rw [e7] at p2; exact p2.elim
          | ok y S4 =>
            rw [e7] at p2
            rw [n_ok, r_ok, r_ok] at p2
            intro v m6 H6 c6 st6 r6
            obtain ⟨m7, rfl, s6'⟩ := st6.ex
            have s6 : Stp m1 H1 m7 H6 := s4.trans s6'
            have t6 := t4.step c4 s4 hq st6
            have q6 : H6 q = some (.lst xs) := st6.keep _ _ q4 NoTbl.lst hm5
            have hm6 : q ∉ m7.l := st6.notin (m := m5.with q) q4 NoTbl.lst hm5
            have rs6 := rs4.step c4 st6
            replace p2 : PostF G m1 H1 ((if acc.length < LINE then compL (compG tup own is ef ee τ) (fun S => still S it) (List.drop (i + 1) it.fst) S4 (acc ++ [y]) else Res.bad).bind fun l S => Res.ok (D.vl l) S) Q fun c d H' => W c d σ H' := p2
            by_cases hl : acc.length < LINE
            case neg => rw [if_neg hl] at p2; exact p2.elim
            rw [if_pos hl] at p2
            refine ⟨xs, q6, by rw [rs6.length, ← line_eq]; exact hl, it.1.length - (i + 1), by omega, m7, S4, acc ++ [y], xs ++ [v], rfl, hlt, c6.grow q6 hm6, s6.growN hq, t6.grow hq q6, upd_same, hm6, ?_, p2⟩
            exact VRs.grow (lst_only q6) (rs6.append (.cons r6 .nil))
theorem f_comp (hc : X.calm = true) (hN : X.N.Nodup) {elt tg iter : Expr} {ifs : List Expr} {scope : Scope} {own : List (Str × Nat)} {pos : Pos} {tup : Bool} {is : List Nat} {g : TG} {ei : Ev (List D × Option Nat)} {ef ee : Ev D}
    (hi : IOk G X W tg iter ei) (ok : BlkOk X.N X.env.scope scope own) (his : ∀ i ∈ is, i ∈ own.map (·.2)) (hg : GW G g tup is)
    (pg : ∀ (s : Shared) (H : Hp) (C : Addr) (cl : List (Str × Addr)) (fp : List Addr), PG (X.blk s H scope (compEnvC scope cl C X.env) fp) tg g)
    (ht : ∀ (s : Shared) (H : Hp) (C : Addr) (cl : List (Str × Addr)) (fp : List Addr), PTs (X.blk s H scope (compEnvC scope cl C X.env) fp) ifs (rdB G WNo ef))
    (he : ∀ (s : Shared) (H : Hp) (C : Addr) (cl : List (Str × Addr)) (fp : List Addr), EOk G (X.blk s H scope (compEnvC scope cl C X.env) fp) WNo elt ee) (hs : ∀ x, foldedSetIterable iter X.env x = pure x) :
    FOk G X W (.ListComp elt [⟨tg, iter, ifs, 0⟩] scope pos) (compEv (own.map (·.2)) tup is ei ef ee) := by
  obtain ⟨wi, h1, h2⟩ := hi
  exact PE.weak (pe_lc hc hN h1 ok pg ht he hs) (lc_reads h2 hg his (fun _ _ _ h => h) fun _ _ _ h => h)
end
end RA

set_option Elab.async false
set_option linter.all false
set_option maxRecDepth 100000
set_option maxHeartbeats 4000000
set_option autoImplicit false
/-! B9: statements. -/
namespace RA
open PySem PySem.Spec PyProof.Rows L2
section
variable {G : Gd} {X : Cx} {W : WX} {m m' m0 m1 : Mm} {S : Store} {H H' H0 H1 : Hp} {σ : L2.St} {τ : Sig} {n : Nat} {En En' : Ends}
def PostS (G : Gd) (m : Mm) (H : Hp) (n : Nat) (r : Res Out) (En : Ends) (W : WX) : Prop :=
  match r with
  | .ok (.nx τ') S' => ∀ σ' m' H', σ'.length = n → Cf G m' S' H' → Stp m H m' H' → SR G m' H' σ' τ' → En.nx σ' H'
  | .ok (.ret d) S' => ∀ v m' H', Cf G m' S' H' → Stp m H m' H' → VR G m' H' v d → En.rt v H'
  | .exc x S' => ∀ σ' c d m' H', σ'.length = n → Cf G m' S' H' → Stp m H m' H' → ER G m' H' c d x → W c d σ' H'
  | .bad => False
def rdS (G : Gd) (n : Nat) (W : WX) (ev : Ev Out) : TS := fun D σ H => ∃ m S τ, Cf G m S H ∧ SR G m H σ τ ∧ σ.length = n ∧ PostS G m H n (ev τ S) D W
def SOk (G : Gd) (X : Cx) (W : WX) (st : Stmt) (ev : Ev Out) : Prop := PS X st (rdS G X.N.length W ev)
def SsOk (G : Gd) (X : Cx) (W : WX) (sts : List Stmt) (ev : Ev Out) : Prop := PSs X sts (rdS G X.N.length W ev)
theorem PS.weak {X : Cx} {e : Stmt} {t t' : TS} (h : PS X e t) (w : ∀ D σ H, t' D σ H → t D σ H) : PS X e t' := ⟨fun pins s σ H D I q => h.run pins s σ H D I (w D σ H q)⟩
theorem PSs.weak {X : Cx} {e : List Stmt} {t t' : TS} (h : PSs X e t) (w : ∀ D σ H, t' D σ H → t D σ H) : PSs X e t' := ⟨fun pins s σ H D I q => h.run pins s σ H D I (w D σ H q)⟩
theorem PostS.later {r : Res Out} (st : Stp m H m1 H1) (p : PostS G m H n r En W) : PostS G m1 H1 n r En W := by
  unfold PostS at p ⊢
  split at p
  · exact fun σ' m' H' l c s q => p σ' m' H' l c (st.trans s) q
  · exact fun v m' H' c s q => p v m' H' c (st.trans s) q
  · exact fun σ' c d m' H' l cf s q => p σ' c d m' H' l cf (st.trans s) q
  · exact p
theorem PostS.bind {α β : Type} {r : Res α} {f : α → Store → Res Out} {R : Mm → Hp → β → α → Prop} {K : β → Hp → Prop} (p : PostS G m H n (r.bind f) En W) (hl : σ.length = n)
    (h : ∀ v d S1 m1 H1, Cf G m1 S1 H1 → Stp m H m1 H1 → R m1 H1 v d → PostS G m1 H1 n (f d S1) En W → K v H1) : Post G m H r R K fun c d H' => W c d σ H' := by
  cases r with
  | ok d S' => exact fun v m' H' c s q => h v d S' m' H' c s q (PostS.later s p)
  | exc x S' => exact fun c d m' H' cf s q => p σ c d m' H' hl cf s q
  | bad => exact p
/-- what follows a statement -/
def thenS (r : Res Out) (f : Sig → Store → Res Out) : Res Out := r.bind fun o S => match o with
  | .nx τ => f τ S
  | .ret d => .ok (.ret d) S
theorem PostS.seq {r : Res Out} {f : Sig → Store → Res Out} (p : PostS G m H n (thenS r f) En W) (hr : En'.rt = En.rt)
    (h : ∀ σ' τ' S' m' H', σ'.length = n → Cf G m' S' H' → Stp m H m' H' → SR G m' H' σ' τ' → PostS G m' H' n (f τ' S') En W → En'.nx σ' H') : PostS G m H n r En' W := by
  cases r with
  | ok o S' =>
    cases o with
    | nx τ' => exact fun σ' m' H' l c s q => h σ' τ' S' m' H' l c s q (PostS.later s p)
    | ret d => exact fun v m' H' c s q => hr ▸ p v m' H' c s q
  | exc x S' => exact p
  | bad => exact p
/-! ### simple ones -/
/-- name = e -/
def SetOk (G : Gd) (X : Cx) (W : WX) (st : Stmt) (i : Nat) (ev : Ev D) : Prop := ∃ t, PS X st (tAsg t (gName i)) ∧ ∀ σ H Q, rdE G W ev σ H Q → t σ H Q
theorem s_set {st : Stmt} {i : Nat} {ee : Ev D} (h : SetOk G X W st i ee) : SOk G X W st fun τ S => (ee τ S).bind fun d S => .ok (.nx (τ.set i (some d))) S := by
  obtain ⟨t, h1, h2⟩ := h
  exact PS.weak h1 fun En σ H ⟨m, S, τ, c, sr, l, p⟩ => h2 _ _ _ ⟨m, S, τ, c, sr, PostS.bind p l fun v d S1 m1 H1 c1 st r p1 =>
    p1 _ m1 H1 (by rw [List.length_set]; exact l) c1 Stp.refl ((sr.step c st).set r)⟩
theorem set_of {i : Nat} {x : Str} {e : Expr} {ee : Ev D} {pos pos' : Pos} (hN : X.N.Nodup) (hi : X.N[i]? = some x) (hx : Loc X.env.scope x) (he : EOk G X W e ee) (hs : swapsWith e (some (.Name x pos')) pos.line X.env = pure false) (hf : X.fn x = true ∨ X.env.scope.names.lookup x = some .local) :
    SetOk G X W (.Assign [.Name x pos'] e pos) i ee := ⟨_, ps_set hN hi hx he hs hf, fun _ _ _ h => h⟩
/-- what a fresh list is taken for -/
def Takes2 (ev ev' : Ev D) : Prop := ∀ (G : Gd) (W : WX) σ H Q, rdE G W ev' σ H Q → rdF G W ev σ H Q
theorem takes_vl {ev : Ev D} (hv : Lists ev) : Takes2 ev ev := fun G W σ H Q ⟨m, S, τ, c, sr, p⟩ => ⟨m, S, τ, c, sr, by
    cases e : ev τ S with
    | bad => rw [e] at p; exact p.elim
    | exc x S' => rw [e] at p; exact p
    | ok d S' =>
      obtain ⟨ds, rfl⟩ := hv _ _ _ _ e
      rw [e] at p
      intro q xs m1 H1 c1 st h0 h1 hm rs
      exact p _ m1 H1 c1.unban st (.vl h1 (new_out c st h0 hm) rs.unban)⟩
def newEv (ev : Ev D) : Ev D := fun τ S => (ev τ S).bind fun d S => match d with | .vl ds => .ok (.ref S.length) (S ++ [.lst ds]) | _ => .bad
theorem takes_new {ev : Ev D} : Takes2 ev (newEv ev) := fun G W σ H Q ⟨m, S, τ, c, sr, p⟩ => ⟨m, S, τ, c, sr, by
    unfold newEv at p
    cases e : ev τ S with
    | bad => rw [e] at p; exact p.elim
    | exc x S' => rw [e] at p; exact p
    | ok d S' =>
      rw [e] at p
      cases d with
      | vl ds =>
        intro q xs m1 H1 c1 st h0 h1 hm rs
        refine p _ (m1.put q) H1 (c1.put h1 hm rs) ⟨?_, st.ban, st.keep, st.there⟩ (.ref ?_)
        · obtain ⟨t, e1, e2⟩ := st.more
          refine ⟨t ++ [q], by show m1.l ++ [q] = _; rw [e1, List.append_assoc], fun a ha => ?_⟩
          rcases List.mem_append.mp ha with z | z
          · exact e2 a z
          · have : a = q := by simpa using z
            subst this; exact h0
        · show (m1.l ++ [q])[_]? = _
          have hl : m1.l.length = S'.length := c1.len
          rw [List.getElem?_append_right (by omega), ← hl]
          simp
      | _ => exact p.elim⟩
/-- name = [.. for ..] on one line -/
theorem set_comp (hc : X.calm = true) (hN : X.N.Nodup) {i : Nat} {y : Str} {py : Pos} {elt tg iter : Expr} {ifs : List Expr} {scope : Scope} {own : List (Str × Nat)} {pos spos : Pos} {tup : Bool} {is : List Nat} {g : TG} {ei : Ev (List D × Option Nat)} {ef ee ev' : Ev D}
    (hy : X.N[i]? = some y) (hyl : X.env.scope.names.lookup y = some .local) (hsw : swapsWith (.ListComp elt [⟨tg, iter, ifs, 0⟩] scope pos) (some (.Name y py)) spos.line X.env = pure true)
    (hi : IOk G X W tg iter ei) (ok : BlkOk X.N X.env.scope scope own) (his : ∀ i ∈ is, i ∈ own.map (·.2)) (hg : GW G g tup is)
    (pg : ∀ (s : Shared) (H : Hp) (C : Addr) (cl : List (Str × Addr)) (fp : List Addr), PG (X.blk s H scope (compEnvC scope cl C X.env) fp) tg g)
    (ht : ∀ (s : Shared) (H : Hp) (C : Addr) (cl : List (Str × Addr)) (fp : List Addr), PTs (X.blk s H scope (compEnvC scope cl C X.env) fp) ifs (rdB G WNo ef))
    (he : ∀ (s : Shared) (H : Hp) (C : Addr) (cl : List (Str × Addr)) (fp : List Addr), EOk G (X.blk s H scope (compEnvC scope cl C X.env) fp) WNo elt ee) (hs : ∀ x, foldedSetIterable iter X.env x = pure x)
    (tk : Takes2 (compEv (own.map (·.2)) tup is ei ef ee) ev') :
    SetOk G X W (.Assign [.Name y py] (.ListComp elt [⟨tg, iter, ifs, 0⟩] scope pos) spos) i ev' := by
  obtain ⟨wi, h1, h2⟩ := hi
  exact ⟨_, ps_setLc hc hN hy hyl hsw h1 ok pg ht he hs, fun σ H Q h => lc_reads h2 hg his (fun _ _ _ h => h) (fun _ _ _ h => h) σ H Q (tk G W σ H Q h)⟩
/-- (a, b) = e -/
theorem s_asgT {tg e : Expr} {is : List Nat} {tup : Bool} {g : TG} {ee : Ev D} {pos : Pos} (he : EOk G X W e ee) (pg : PG X tg g) (hg : GW G g tup is) (hs : swapsWithSole [tg] e pos.line X.env = pure false) (hw : swappedStores [tg] e X.env = pure none)
    (h1 : (assignEach [tg] X.env).map (·.2) = [assign tg X.env]) : SOk G X W (.Assign [tg] e pos) fun τ S => (ee τ S).bind fun d S => (RA.lift S (target τ tup is d)).bind fun τ S => .ok (.nx τ) S :=
  PS.weak (ps_asg he pg hs hw h1) fun En σ H ⟨m, S, τ, c, sr, l, p⟩ => ⟨m, S, τ, c, sr, PostS.bind p l fun v d S1 m1 H1 c1 st r p1 => by
    cases e : target τ tup is d with
    | none => rw [e] at p1; exact p1.elim
    | some τ2 =>
      rw [e] at p1
      exact hg m1 S1 H1 σ τ v d τ2 _ c1 (sr.step c st) r e fun σ2 s2 l2 _ => p1 σ2 m1 H1 (l2.trans l) c1 Stp.refl s2⟩
/-- a, b = x, y -/
theorem s_par {i j : Nat} {x y : Str} {a b : Expr} {es : Ev (List D)} {px py pt pos : Pos} {kt k2 pt2} (hc : X.calm = true) (hN : X.N.Nodup) (hi : X.N[i]? = some x) (hj : X.N[j]? = some y) (hij : i ≠ j)
    (hx : X.env.scope.names.lookup x = some .local) (hy : X.env.scope.names.lookup y = some .local) (ha : AOk G X W [a, b] es)
    (hw : swappedStores [.Tuple [.Name x px, .Name y py] kt pt] (.Tuple [a, b] k2 pt2) X.env = pure (some [x, y]))
    (hs : swapsWithSole [.Tuple [.Name x px, .Name y py] kt pt] (.Tuple [a, b] k2 pt2) pos.line X.env = pure false) :
    SOk G X W (.Assign [.Tuple [.Name x px, .Name y py] kt pt] (.Tuple [a, b] k2 pt2) pos) fun τ S => (es τ S).bind fun ds S => (RA.lift S (setAll τ [i, j] ds)).bind fun τ S => .ok (.nx τ) S :=
  PS.weak (ps_par hc hN hi hj hij hx hy ha hw hs) fun En σ H ⟨m, S, τ, c, sr, l, p⟩ => ⟨m, S, τ, c, sr, PostS.bind p l fun vs ds S1 m1 H1 c1 st r p1 => by
    match ds, r with
    | [], .nil => exact p1.elim
    | [d], .cons r1 .nil => exact p1.elim
    | [d, e], .cons (x := v) r1 (.cons (x := w) r2 .nil) => exact ⟨v, w, rfl, p1 _ m1 H1 (by rw [List.length_set, List.length_set]; exact l) c1 Stp.refl (((sr.step c st).set r1).set r2)⟩
    | d :: e :: f :: r, .cons r1 (.cons r2 (.cons r3 r4)) => exact p1.elim⟩
/-- o[i] = e -/
theorem s_seti {o i e : Expr} {eo ei ee : Ev D} {tpos pos : Pos} (he : EOk G X W e ee) (ho : EOk G X W o eo) (hi : EOk G X W i ei) (hs : swapsWithSole [.Subscript o i tpos] e pos.line X.env = pure false) (hw : swappedStores [.Subscript o i tpos] e X.env = pure none)
    (h1 : (assignEach [.Subscript o i tpos] X.env).map (·.2) = [assign (.Subscript o i tpos) X.env]) (ha : ∀ v, assign (.Subscript o i tpos) X.env v = (do
      let ov ← holding [v] (eval o X.env)
      let iv ← holding [v, ov] (eval i X.env)
      standAt tpos
      holding [v, ov, iv] (setItem ov iv v)
      release [v, ov, iv] [])) :
    SOk G X W (.Assign [.Subscript o i tpos] e pos) fun τ S => (ee τ S).bind fun v S => (eo τ S).bind fun x S => (ei τ S).bind fun y S => match x, y with
      | .ref n, .int k => match S[n]? with
        | some (.lst ds) => match natIx ds.length k with
          | some j => .ok (.nx τ) (S.set n (.lst (ds.set j v)))
          | none => .bad
        | none => .bad
      | _, _ => .bad :=
  PS.weak (ps_asg he (pg_sub ho hi set_list ha) hs hw h1) fun En σ H ⟨m, S, τ, c, sr, l, p⟩ => ⟨m, S, τ, c, sr, PostS.bind p l fun v d S1 m1 H1 c1 st1 r p1 =>
    ⟨m1, S1, τ, c1, sr.step c st1, PostS.bind p1 l fun vo d2 S2 m2 H2 c2 st2 r2 p2 => ⟨m2, S2, τ, c2, (sr.step c st1).step c1 st2, PostS.bind p2 l fun vi d3 S3 m3 H3 c3 st3 r3 p3 => by
      cases d2 with
      | ref n =>
        cases r3 with
        | int k =>
          obtain ⟨a, xs, ds, rfl, h1', h2', h3', h4'⟩ := VR.isL c3 (r2.step c2 st3)
          simp only [h2'] at p3
          cases e2 : natIx ds.length k with
          | none => simp only [e2] at p3; exact p3.elim
          | some j =>
            simp only [e2] at p3
            have rv := (r.step c1 st2).step c2 st3
            obtain ⟨c4, st4⟩ := c3.write h1' h2' h3' (h4'.set rv j)
            exact ⟨a, xs, k, j, rfl, rfl, h3', by rw [h4'.length, ← natIx_eq]; exact e2, p3 σ m3 _ l c4 st4 ((((sr.step c st1).step c1 st2).step c2 st3).step c3 st4)⟩
        | _ => exact p3.elim
      | _ => exact p3.elim⟩⟩⟩
theorem s_exp {e : Expr} {ee : Ev D} {pos : Pos} (he : EOk G X W e ee) (hs : swapsWith e none pos.line X.env = pure false) : SOk G X W (.Expr e pos) fun τ S => (ee τ S).bind fun _ S => .ok (.nx τ) S :=
  PS.weak (ps_expr he hs) fun En σ H ⟨m, S, τ, c, sr, l, p⟩ => ⟨m, S, τ, c, sr, PostS.bind p l fun v d S1 m1 H1 c1 st r p1 => p1 σ m1 H1 l c1 Stp.refl (sr.step c st)⟩
theorem s_ret {e : Expr} {ee : Ev D} {pos : Pos} (he : EOk G X W e ee) : SOk G X W (.Return (some e) pos) fun τ S => (ee τ S).bind fun d S => .ok (.ret d) S :=
  PS.weak (ps_ret he) fun En σ H ⟨m, S, τ, c, sr, l, p⟩ => ⟨m, S, τ, c, sr, PostS.bind p l fun v d S1 m1 H1 c1 st r p1 => p1 v m1 H1 c1 Stp.refl r⟩
theorem s_retN {pos : Pos} : SOk G X W (.Return none pos) fun τ S => .ok (.ret .non) S :=
  PS.weak ps_retN fun En σ H ⟨m, S, τ, c, sr, l, p⟩ => p .non m H c Stp.refl .non
theorem s_pass {pos : Pos} : SOk G X W (.Pass pos) fun τ S => .ok (.nx τ) S :=
  PS.weak ps_pass fun En σ H ⟨m, S, τ, c, sr, l, p⟩ => p σ m H l c Stp.refl sr
theorem s_if {c : Expr} {a b : List Stmt} {ec : Ev D} {ea eb : Ev Out} {pos : Pos} (hc : TOk G X W c ec) (ha : SsOk G X W a ea) (hb : SsOk G X W b eb) :
    SOk G X W (.If c a b pos) fun τ S => (ec τ S).bind fun x S => (RA.lift S (truth S x)).bind fun k S => if k then ea τ S else eb τ S :=
  PS.weak (ps_if hc ha hb) fun En σ H ⟨m, S, τ, c, sr, l, p⟩ => ⟨m, S, τ, c, sr, PostS.bind (by rw [bind_assoc]; exact p) l fun k d S1 m1 H1 c1 st e p1 => by
    subst e
    cases k with
    | true => rw [if_pos rfl] at p1 ⊢; exact ⟨m1, S1, τ, c1, sr.step c st, l, p1⟩
    | false => rw [if_neg (by decide)] at p1 ⊢; exact ⟨m1, S1, τ, c1, sr.step c st, l, p1⟩⟩
theorem ss_nil : SsOk G X W [] fun τ S => .ok (.nx τ) S := PSs.weak pss_nil fun En σ H ⟨m, S, τ, c, sr, l, p⟩ => p σ m H l c Stp.refl sr
theorem ss_cons {s : Stmt} {r : List Stmt} {es : Ev Out} {er : Ev Out} (hs : SOk G X W s es) (hr : SsOk G X W r er) : SsOk G X W (s :: r) fun τ S => thenS (es τ S) er :=
  PSs.weak (pss_cons hs hr) fun En σ H ⟨m, S, τ, c, sr, l, p⟩ => ⟨m, S, τ, c, sr, l, PostS.seq p rfl fun σ' τ' S' m' H' l' c' st' sr' p' => ⟨m', S', τ', c', sr', l', p'⟩⟩
/-! ### loops -/
def forEv (tup : Bool) (is : List Nat) (ei : Ev (List D × Option Nat)) (eb : Ev Out) : Ev Out := fun τ S => (ei τ S).bind fun it S =>
  forL (fun d τ S => match target τ tup is d with
    | none => .bad
    | some τ2 => eb τ2 S) (fun S => still S it) it.1 τ S
theorem s_for (hp : PassesOwn (model X.prog X.w) X.A X.env X.xe) (hc : X.calm = true) {tg iter : Expr} {body : List Stmt} {g : TG} {tup : Bool} {is : List Nat} {ei : Ev (List D × Option Nat)} {eb : Ev Out} {pos : Pos}
    (hi : IOk G X W tg iter ei) (pg : PG X tg g) (hg : GW G g tup is) (hb : SsOk G X W body eb) (hs : ∀ x, foldedSetIterable iter X.env x = pure x) :
    SOk G X W (.For tg iter body [] pos) (forEv tup is ei eb) := by
  obtain ⟨wi, h1, h2⟩ := hi
  refine PS.weak (ps_for hp hc h1 pg hb hs) fun En σ H ⟨m, S, τ, c, sr, l, p⟩ => h2 σ H _ ⟨m, S, τ, c, sr, PostS.bind p l fun J it S1 m1 H1 c1 st1 Y p1 => ?_⟩
  have sr1 := sr.step c st1
  refine ⟨fun i n σ2 H2 => ∃ m2 S2 τ2, n = it.1.length - i ∧ i ≤ it.1.length ∧ σ2.length = X.N.length ∧ Cf G m2 S2 H2 ∧ Stp m1 H1 m2 H2 ∧ SR G m2 H2 σ2 τ2 ∧
    PostS G m2 H2 X.N.length (forL (fun d τ S => match target τ tup is d with
      | none => .bad
      | some τ2 => eb τ2 S) (fun S => still S it) (it.1.drop i) τ2 S2) En W, ⟨_, m1, S1, τ, rfl, Nat.zero_le _, l, c1, Stp.refl, sr1, p1⟩, ?_⟩
  rintro i n σ2 H2 ⟨m2, S2, τ2, hn, hi, l2, c2, st2, sr2, p2⟩
  have hst : still S2 it = true := by
    cases e : it.1.drop i with
    | nil =>
      rw [e] at p2
      unfold forL at p2
      by_cases h : still S2 it = true
      · exact h
      · simp only [h] at p2; exact p2.elim
    | cons d r =>
      rw [e] at p2
      unfold forL at p2
      by_cases h : still S2 it = true
      · exact h
      · simp only [h] at p2; exact p2.elim
  have t2 := Tr.of_stp c1 st2
  by_cases hlt : i < it.1.length
  case neg =>
    have ei : i = it.1.length := by omega
    refine .inl ⟨?_, ?_⟩
    · rw [ei]; exact Y.stop _ S2 H2 c2 t2 hst
    · rw [ei, List.drop_length] at p2
      unfold forL at p2
      rw [if_pos hst] at p2
      exact p2 σ2 m2 H2 l2 c2 Stp.refl sr2
  refine .inr ⟨Y.go _ S2 H2 i c2 t2 hst hlt, _, fun σ' H' h => h, fun x H3 hy => ?_⟩
  obtain ⟨d, hd, c3, st3, r3, k3⟩ := Y.yld _ S2 H2 i x H3 c2 t2 hst hlt hy
  have hdr : it.1.drop i = d :: it.1.drop (i + 1) := by
    obtain ⟨h, e⟩ := List.getElem?_eq_some_iff.mp hd
    rw [List.drop_eq_getElem_cons h, e]
  rw [hdr] at p2
  unfold forL at p2
  rw [if_pos hst] at p2
  cases e4 : target τ2 tup is d with
  | none => simp only [e4] at p2; exact p2.elim
  | some τ3 =>
    simp only [e4] at p2
    refine hg m2 S2 H3 σ2 τ2 x d τ3 _ c3 (sr2.step c2 st3) r3 e4 fun σ3 sr3 l3 o3 => ⟨m2, S2, τ3, c3, sr3, l3.trans l2, ?_⟩
    have s3 := st2.trans st3
    refine PostS.seq (PostS.later st3 p2) rfl fun σ' τ' S' m' H' l' c' st' sr' p' => ?_
    exact ⟨it.1.length - (i + 1), by omega, m', S', τ', rfl, hlt, l', c', s3.trans st', sr', p'⟩
def whileEv (turns : Nat) (ec : Ev D) (eb : Ev Out) : Ev Out := fun τ S =>
  whileL (fun τ S => (ec τ S).bind fun x S => (RA.lift S (truth S x)).bind fun k S => if k then (eb τ S).bind fun o S => .ok (some o) S else .ok none S) turns τ S
theorem s_while (hp : PassesOwn (model X.prog X.w) X.A X.env X.xe) {c : Expr} {body : List Stmt} {ec : Ev D} {eb : Ev Out} {pos : Pos} {turns : Nat} (hc : TOk G X W c ec) (hb : SsOk G X W body eb) :
    SOk G X W (.While c body [] pos) (whileEv turns ec eb) := by
  refine PS.weak (ps_while hp hc hb) fun En σ H ⟨m, S, τ, c, sr, l, p⟩ => ?_
  refine ⟨fun n σ2 H2 => ∃ m2 S2 τ2, σ2.length = X.N.length ∧ Cf G m2 S2 H2 ∧ SR G m2 H2 σ2 τ2 ∧ PostS G m2 H2 X.N.length (whileEv n ec eb τ2 S2) En W, ⟨turns, m, S, τ, l, c, sr, p⟩, ?_⟩
  rintro n σ2 H2 ⟨m2, S2, τ2, l2, c2, sr2, p2⟩
  cases n with
  | zero => exact p2.elim
  | succ k =>
    unfold whileEv whileL at p2
    simp only [bind_assoc] at p2
    refine ⟨m2, S2, τ2, c2, sr2, PostS.bind (R := fun _ _ b k => b = k) (by
      rw [bind_assoc]
      exact p2) l2 fun b d S3 m3 H3 c3 st3 e p3 => ?_⟩
    subst e
    cases b with
    | false =>
      rw [if_neg (by decide), r_ok] at p3
      rw [if_neg (by decide)]
      exact p3 σ2 m3 H3 l2 c3 Stp.refl (sr2.step c2 st3)
    | true =>
      rw [if_pos rfl] at p3 ⊢
      refine ⟨_, fun σ' H' h => h, m3, S3, τ2, c3, sr2.step c2 st3, l2, ?_⟩
      rw [bind_assoc] at p3
      simp only [r_ok] at p3
      have p4 : PostS G m3 H3 X.N.length (thenS (eb τ2 S3) fun τ S => whileEv k ec eb τ S) En W := by
        unfold thenS
        cases e : eb τ2 S3 with
        | bad => rw [e] at p3; exact p3
        | exc x S' => rw [e] at p3; exact p3
        | ok o S' =>
          rw [e] at p3
          cases o <;> exact p3
      refine PostS.seq p4 rfl fun σ' τ' S' m' H' l' c' st' sr' p' => ?_
      exact ⟨k, Nat.lt_succ_self k, m', S', τ', l', c', sr', p'⟩
end
end RA

set_option Elab.async false
set_option linter.all false
set_option maxRecDepth 100000
set_option maxHeartbeats 4000000
set_option autoImplicit false
/-! B10: raise, try, a call with a lambda. -/
namespace RA
open PySem PySem.Spec PyProof.Rows L2 LamX
section
variable {G : Gd} {X : Cx} {W : WX} {m m' m0 m1 : Mm} {S : Store} {H H' H0 H1 : Hp} {σ : L2.St} {τ : Sig} {n : Nat} {En En' : Ends}
/-- raise X('..'), X a class without its own __init__ -/
theorem s_raise {e : Expr} {k : Nat} {C : Addr} {pos : Pos} (hc : X.calm = true) (tk : Takes X W) (hm : PMk X e (fun _ H Q => Q (.ref C) none H)) (hC : G.CA k = some C) : SOk G X W (.Raise (some e) none pos) fun τ S => .exc ⟨k, []⟩ S :=
  PS.weak (L2.ps_raise hc tk hm) fun En σ H ⟨m, S, τ, c, sr, l, p⟩ => p σ (.ref C) none m H l c Stp.refl ⟨C, hC, rfl, .inl ⟨rfl, rfl⟩⟩
/-- what the clauses do -/
def handleEv (sub : Nat → Nat → Bool) (x : Exn) : List (Nat × (Exn → Ev Out)) → Ev Out
  | [], _, S => .exc x S
  | (k, ev) :: r, τ, S => if sub x.k k then (ev x τ S).noexc else handleEv sub x r τ S
inductive HOk (G : Gd) (X : Cx) : List ExceptHandler → List (Nat × (Exn → Ev Out)) → Prop
  | nil : HOk G X [] []
  | cons {x : Str} {c : Addr} {k : Nat} {ev : Exn → Ev Out} {b₀ : Stmt} {suite : List Stmt} {np pos : Pos} {hds : List ExceptHandler} {l : List (Nat × (Exn → Ev Out))} (hc : Names X x (.ref c)) (hk : G.CA k = some c)
      (hs : ∀ (a : Addr) (oe : Obj) (cls : Value) (d : Option Addr) (pn : List (Addr × Obj)) (y : Exn), Zc cls d oe → (∃ vs, oe.data = .fields vs) → SsOk G (X.suite a ((a, oe) :: pn)) WNo (b₀ :: suite) (ev y)) (r : HOk G X hds l) :
      HOk G X (.ExceptHandler (some (.Name x np)) none (b₀ :: suite) pos :: hds) ((k, ev) :: l)
/-- how the classes stand to each other -/
def SubOk (G : Gd) (sub : Nat → Nat → Bool) : Prop := ∀ k c k' c', G.CA k = some c → G.CA k' = some c' → PySem.W.exmOne G.K (.ref c) (.ref c') = some (sub k k')
theorem SR.wiped (hl : σ.length = τ.length) : SR G m H σ (τ.map fun _ => none) := ⟨by rw [List.length_map, hl], fun i d h => by
  rw [List.getElem?_map] at h
  cases e : τ[i]? with
  | none => rw [e] at h; cases h
  | some o => rw [e] at h; cases h⟩
theorem SR.none (hl : σ.length = n) : SR G m H σ (List.replicate n none) := ⟨by rw [List.length_replicate, hl], fun i d h => by
  rw [List.getElem?_replicate] at h
  split at h <;> cases h⟩
theorem PostS.noexc {r : Res Out} (p : PostS G m H n r.noexc En W) : PostS G m H n r En WNo := by
  cases r with
  | ok o S' => cases o <;> exact p
  | exc x S' => exact p.elim
  | bad => exact p
/-- the clauses as the hand layer has them -/
theorem HOk.parts (hK : X.K = G.K) {sub : Nat → Nat → Bool} (hsub : SubOk G sub) {hds : List ExceptHandler} {l : List (Nat × (Exn → Ev Out))} (h : HOk G X hds l) :
    ∃ l', HdsOk X hds l' ∧ ∀ (En : Ends) (W : WX) m S H σ τ0 cls d x, Cf G m S H → σ.length = X.N.length → SR G m H σ τ0 → ER G m H cls d x → PostS G m H X.N.length (handleEv sub x l τ0 S) En W → wMany X.K W En l' cls d σ H := by
  induction h with
  | nil => exact ⟨[], .nil, fun En W m S H σ τ0 cls d x c hl sr er p => p σ cls d m H hl c Stp.refl er⟩
  | @cons x c k ev b₀ suite np pos hds l hc hk hs r ih =>
    obtain ⟨l', h1, h2⟩ := ih
    refine ⟨(.ref c, fun a cls d => fun En σ H => ∃ y, rdS G X.N.length WNo (ev y) En σ H) :: l', .cons hc (fun a oe cls d pn hz hf => ⟨fun pins s σ H D I ⟨y, q⟩ => (hs a oe cls d pn y hz hf).run pins s σ H D I q⟩) h1, ?_⟩
    intro En W m S H σ τ0 cls d y cf hl sr er p
    obtain ⟨cc, e1, e2, e3⟩ := id er
    refine ⟨sub y.k k, by rw [e2, hK]; exact hsub _ _ _ _ e1 hk, fun hb a ha => ?_, fun hb => ?_⟩
    · unfold handleEv at p
      rw [if_pos hb] at p
      exact ⟨y, m, S, τ0, cf, sr, hl, p.noexc⟩
    · unfold handleEv at p
      rw [if_neg (by rw [hb]; decide)] at p
      exact h2 En W m S H σ τ0 cls d y cf hl sr er p
def triEv (sub : Nat → Nat → Bool) (l : List (Nat × (Exn → Ev Out))) (eb : Ev Out) : Ev Out := fun τ S => match eb τ S with
  | .exc x S' => handleEv sub x l (τ.map fun _ => none) S'
  | r => r
theorem s_try (hK : X.K = G.K) {sub : Nat → Nat → Bool} (hsub : SubOk G sub) (hs : X.stack = X.env :: X.outer) (hf : X.env.frame = some X.env.locals) (tk : Takes X W) {body : List Stmt} {h₀ : ExceptHandler} {hds : List ExceptHandler} {l : List (Nat × (Exn → Ev Out))} {eb : Ev Out} {pos : Pos}
    (hb : ∀ (W : WX) (pn : List (Addr × Obj)) (xe : Value → Shared → Prop), Takes (X.tr pn xe) W → PassesOwn (model X.prog X.w) X.A X.env xe → SsOk G (X.tr pn xe) W body eb) (hh : HOk G X (h₀ :: hds) l) :
    SOk G X W (.Try body (h₀ :: hds) [] [] pos) (triEv sub l eb) := by
  obtain ⟨l', h1, h2⟩ := hh.parts hK hsub
  refine PS.weak (ps_try_many (tb := fun W => rdS G X.N.length W eb) hs hf tk hb h1) fun En σ H ⟨m, S, τ, c, sr, hl, p⟩ => ⟨m, S, τ, c, sr, hl, ?_⟩
  unfold triEv at p
  cases e : eb τ S with
  | bad => rw [e] at p; exact p
  | ok o S' =>
    rw [e] at p
    cases o <;> exact p
  | exc x S' =>
    rw [e] at p
    exact fun σ' cls d m' H' hl' c' st' er => h2 En W m' S' H' σ' _ cls d x c' hl' (SR.wiped (by rw [hl', ← hl, sr.len])) er (PostS.later st' p)

/-! ### a def that is handed a lambda and calls it within a try -/
theorem takes_lam {A : Around} {outer : List Env} {s : Shared} {E : XK} {scope : Scope} {f c' : Addr} : Takes (lamCx X A outer s H E scope f c') (fun cls d _ H => E cls d H) :=
  takes_of (X := lamCx X A outer s H E scope f c') (E := E) (E₁ := fun e' s'' => L2.CX X.prog X.w outer H s E e' s'') rfl rfl rfl rfl
theorem act {sg : Scope} {Ng : List Str} {qg : Str} {g f c' : Addr} {cdg pm ctv : Value} {pins : List (Addr × Obj)} {s : Shared} {params : Arguments} {body : Expr} {scope : Scope} {k : Nat} {a : Str} {pn : List (Addr × Obj)} {xe : Value → Shared → Prop} {W' : WX} {E : XK} {eb : Ev D} {p1 p2 : Pos}
    (I : Inv X pins σ H s) (L : LamS X.env.scope scope) (hf : s.heap.get? f = some (PySem.W.kla_obj "<lambda>" (X.env.qual ++ "<lambda>") params body scope (cloFrom X.env.cells scope.names []) pm c' ctv)) (hfn : H f = none) (hfr : f ∉ frs X.stack)
    (hbind : bindArgs (PySem.W.kla_fn "<lambda>" (X.env.qual ++ "<lambda>") params body scope (cloFrom X.env.cells scope.names []) pm (.ref c') ctv) ⟨[], []⟩ = pure [])
    (tk : Takes ((cxOf (L2.CX X.prog X.w) X.prog X.w X.K X.mg X.base Ng qg sg g cdg X.A X.stack s H E).tr pn xe) W') (hr : RoomG (k + 1) (X.A.deeper (envOfC qg sg s.heap.objs.size g cdg)))
    (hbody : ∀ (A : Around) (outer : List Env) (s : Shared) (H : Hp) (E : XK) (f c' : Addr) (L : Addr), RoomG k (A.deeper (lamEnv X scope s.heap.objs.size f c')) → EOk G (lamCx X A outer s H E scope f c') (fun cls d _ H => E cls d H) body eb)
    (hN : Ng[0]? = some a) (hv : Vis sg a) (hd : (a == ("__debug__" : Str)) = false) (hcd : (a == ("__classdict__" : Str)) = false) :
    PE ((cxOf (L2.CX X.prog X.w) X.prog X.w X.K X.mg X.base Ng qg sg g cdg X.A X.stack s H E).tr pn xe) (.Call (.Name a p1) [] [] p2)
      (fun σZ HZ Q => σZ[0]? = some (some (.ref f)) ∧ HZ c' = some (CodeO c' (X.env.qual ++ "<lambda>")) ∧ rdE G (fun cls d _ H => W' cls d σZ H) eb σ HZ Q) := by
  constructor
  intro pinsZ sZ σZ HZ Q IZ ⟨hs, hc, ht⟩
  have look := (pe_var (X := (cxOf (L2.CX X.prog X.w) X.prog X.w X.K X.mg X.base Ng qg sg g cdg X.A X.stack s H E).tr pn xe) (pos := p1) (i := 0) hN hv hd hcd).run pinsZ sZ σZ HZ (fun v H1 => v = .ref f ∧ H1 = HZ) IZ ⟨_, hs, rfl, rfl⟩
  refine wpAny_Call_Name_kw (thn look ?_)
  intro u s1 ⟨v, H1, I1, r1, ev, eH⟩
  subst ev
  rw [eH] at I1
  cases r1
  have of1 := I1.base.keep f _ hf hfn hfr (fun z => nomatch (show f ∈ ([] : List Addr) from z))
  refine PySem.W.callWith_F0 ⟨_, _, _, _, of1⟩ ?_
  have un := I1.base
  obtain ⟨⟨oc, vs, t, hoc, hdc, hvc⟩, _, _⟩ := I1.hok c' _ hc
  refine wpAny_call (codeAny_mono (?rc : codeAny (model X.prog X.w) (X.A.deeper (envOfC qg sg s.heap.objs.size g cdg)) (.call (.ref f) ⟨[], []⟩) (CR (L2.CX X.prog X.w) (envOfC qg sg s.heap.objs.size g cdg :: X.stack) X.prog X.w HZ s1 Q (WE W' σZ)) s1) ?after)
  case after =>
    intro r s' hq
    match r, hq with
    | .error e, hq => exact passAt tk σZ pinsZ HZ s1 e s' I1 hq
    | .ok (.ret u), hq => exact I1.after hq
  case rc =>
    refine PySem.W.kla_callFunE hr.room.depth of1 rfl L.co L.gen rfl ⟨c', oc, vs, t, rfl, hoc, hdc, hvc⟩ ?_
    rw [hbind]
    refine wpAny_pure (wpAny_newFunctionEnv (fun y hy => (L.own y hy).2) (fun y hy => nomatch hy) (fun h₁ hns hsb => ⟨I1.nolimit.fresh _ hsb, ?_⟩) L.kind)
    have J := lam_start2 (E := WE W' σZ) (A := X.A.deeper (envOfC qg sg s.heap.objs.size g cdg)) (f := f) (c' := c') (tk := s1.toks + ([] : List (Str × Value)).length) I L I1.env0 hr.room.hd un hns
      fun b o e => hsb.extBut b o (Nat.ne_of_lt (Heap.lt_size e)) (Heap.get?_push_of_some _ e)
    refine PySem.W.kla_codeExpr (wpAny_mono ((hbody _ _ s1 _ (WE W' σZ) f c' 0 (hr.deeper _)).run [] _ _ _ Q J ht) ?_ fun e s' hq => hq)
    rintro v s' ⟨w', H', J', rv, q⟩
    exact ⟨w', H', J'.os, J'.bare, J'.base, J'.hok, rv, q⟩
end
end RA

set_option Elab.async false
set_option linter.all false
set_option maxRecDepth 100000
set_option maxHeartbeats 4000000
set_option autoImplicit false
/-! B11: a def keeps its promise; a def is handed a lambda. -/
namespace RA
open PySem PySem.Spec PyProof.Rows L2 LamX
section
variable {G : Gd} {X : Cx} {W : WX} {m m' m0 m1 : Mm} {S : Store} {H H' H0 H1 : Hp} {σ : L2.St} {τ : Sig} {n : Nat} {En En' : Ends}
theorem Post.ofFin {r : Res Out} {Q : VK} {E : XK} (p : Post G m H (fin r) (VR G) Q E) : PostS G m H n r { nx := fun _ H' => Q .non H', rt := Q } (fun cls d _ H => E cls d H) := by
  cases r with
  | ok o S' =>
    cases o with
    | nx τ' => exact fun σ' m' H' l c s q => p .non m' H' c s .non
    | ret d => exact p
  | exc x S' => exact fun σ' c d m' H' l cf s q => p c d m' H' cf s q
  | bad => exact p.elim
theorem VRs.somes : ∀ {vs : List V} {ds : List D} {i : Nat} {d : D}, VRs G m H vs ds → (ds.map some)[i]? = some (some d) → ∃ v, (vs.map some)[i]? = some (some v) ∧ VR G m H v d := fun {vs ds i d} r e => by
  rw [List.getElem?_map] at e
  cases q : ds[i]? with
  | none => rw [q] at e; cases e
  | some x =>
    rw [q] at e; cases e
    obtain ⟨v, h1, h2⟩ := r.get q
    exact ⟨v, by rw [List.getElem?_map, h1]; rfl, h2⟩
theorem SR.entry {N : List Str} {vs : List V} {ds : List D} (r : VRs G m H vs ds) : SR G m H (L2.start N vs) (RA.start N.length ds) := by
  refine ⟨?_, fun i d h => ?_⟩
  · simp only [L2.start, RA.start, List.length_append, List.length_map, List.length_replicate, r.length]
  · unfold RA.start at h
    unfold L2.start
    rw [List.getElem?_append] at h
    rw [List.getElem?_append]
    rw [List.length_map] at h ⊢
    by_cases hi : i < ds.length
    · rw [if_pos hi] at h
      rw [if_pos (by rw [r.length]; exact hi)]
      exact r.somes h
    · rw [if_neg hi, List.getElem?_replicate] at h
      split at h <;> cases h
theorem start_len {N : List Str} {vs : List V} (h : vs.length ≤ N.length) : (L2.start N vs).length = N.length := by
  unfold L2.start
  rw [List.length_append, List.length_map, List.length_replicate]
  omega
/-- a def, by its body -/
theorem prom_of {P : Program} {w : World} {K : PySem.W.Frag} {mg : Str → Option Value} {base : Heap} {k : Nat} {f : Addr} {name qual : Str} {params : Arguments} {body : List Stmt} {scope : Scope} {dV kV doc pm cdv ct oc : Value} {an od : Option Addr}
    {osl : Array (Option Value)} {N ps : List Str} {ev : Ev Out} (lk : K.lookup f = some ⟨oc, od, .func (PySem.W.fnOf name qual params body scope dV kV doc pm an cdv ct), osl⟩) (hcd : PySem.W.codeIn K cdv qual = true) (Sf : FnScope N ps scope) (kp : PySem.W.keepIn K (.ref f) = true)
    (hb : L2.Binds K (PySem.W.fnOf name qual params body scope dV kV doc pm an cdv ct) ps [])
    (hbody : ∀ (A : Around) (outer : List Env) (s : Shared) (H : Hp) (E : XK), RoomG k (A.deeper (envOfC qual scope s.heap.objs.size f cdv)) → SsOk G (cxOf (L2.CX P w) P w K mg base N qual scope f cdv A outer s H E) (fun cls d _ H => E cls d H) body ev) :
    Prom P w K mg base (k + 1) f (spI G fun ds S => if ds.length = ps.length then fin (ev (RA.start N.length ds) S) else .bad) := by
  refine ⟨kp, fun A outer s H us vs Q E hr e0 r ⟨m, S, ds, c, rs, p⟩ => ?_⟩
  dsimp only at p
  by_cases hl : ds.length = ps.length
  case neg => rw [if_neg hl] at p; exact p.elim
  rw [if_pos hl] at p
  have hv : vs.length = ps.length := rs.length.trans hl
  have hu : us.length = ps.length := by rw [← hv]; exact (r.length).symm
  have kin : K.In s.heap := e0.mod.kin.keeps fun b o e => (e0.bs b o e).1
  have hN : ps.length ≤ N.length := by
    have := congrArg List.length Sf.pre
    rw [List.length_take] at this
    omega
  have bt := hb s us kin (by rw [List.append_nil]; exact hu)
  rw [List.append_nil] at bt
  refine run_ofS lk hcd Sf hr.room e0 bt r hv fun hr' => ⟨_, hbody A outer s H E ⟨hr', hr.gd⟩, ⟨m, S, RA.start N.length ds, c, SR.entry rs, start_len (by rw [hv]; exact hN), Post.ofFin p⟩⟩
/-! ### a def is handed a lambda -/
def lamTri (n : Nat) (isRet : Bool) (sub : Nat → Nat → Bool) (l : List (Nat × (Exn → Ev Out))) (er : Ev Out) (th : Store → Res D) (S : Store) : Res D := fin (thenS (match th S with
  | .ok d S' => if isRet then .ok (.ret d) S' else .ok (.nx (List.replicate n none)) S'
  | .exc x S' => handleEv sub x l (List.replicate n none) S'
  | .bad => .bad) er)
/-- the statement that calls the lambda -/
def first (isRet : Bool) (a : Str) (p1 p2 p3 : Pos) : Stmt := if isRet then .Return (some (.Call (.Name a p1) [] [] p2)) p3 else .Expr (.Call (.Name a p1) [] [] p2) p3
theorem e_lam (hK : X.K = G.K) {x a : Str} {g c P : Addr} {k : Nat} {pg : Arguments} {sg : Scope} {dV kV doc pm cdv ct oc : Value} {an od : Option Addr} {osl : Array (Option Value)} {Ng : List Str} {isRet : Bool} {h₀ : ExceptHandler} {hds : List ExceptHandler} {rest : List Stmt}
    {params : Arguments} {body : Expr} {scope : Scope} {p lpos pos p1 p2 p3 p4 : Pos} {sub : Nat → Nat → Bool} {l : List (Nat × (Exn → Ev Out))} {er : Ev Out} {eb : Ev D} (hg : Gl X x) (hm : X.mg x = some (.ref g)) (hk : PySem.W.keepIn X.K (.ref g) = true)
    (lk : X.K.lookup g = some ⟨oc, od, .func (PySem.W.fnOf x x pg (.Try [first isRet a p1 p2 p3] (h₀ :: hds) [] [] p4 :: rest) sg dV kV doc pm an cdv ct), osl⟩) (hcg : PySem.W.codeIn X.K cdv x = true)
    (hb : L2.Binds X.K (PySem.W.fnOf x x pg (.Try [first isRet a p1 p2 p3] (h₀ :: hds) [] [] p4 :: rest) sg dV kV doc pm an cdv ct) [a] []) (Sg : FnScope Ng [a] sg) (hNg : Ng[0]? = some a) (hva : Vis sg a)
    (TB : TabB X.base X.mg c P) (hcode : X.env.code = .ref c) (hmT : (P, X.env.qual ++ "<lambda>") ∈ G.T) (hu : ∀ p ∈ G.T, p.1 = P → p.2 = X.env.qual ++ "<lambda>") (hr : RoomG (k + 2) X.A) (L : LamS X.env.scope scope) (hdef : defaultsOf params X.env = ([], []))
    (hbind : ∀ (q : Str) (cl : List (Str × Addr)) (pm cv ctv : Value), bindArgs (PySem.W.kla_fn "<lambda>" q params body scope cl pm cv ctv) ⟨[], []⟩ = pure [])
    (hbody : ∀ (A : Around) (outer : List Env) (s : Shared) (H : Hp) (E : XK) (f c' : Addr) (L : Addr), RoomG k (A.deeper (lamEnv X scope s.heap.objs.size f c')) → EOk G (lamCx X A outer s H E scope f c') (fun cls d _ H => E cls d H) body eb)
    (tk : Takes X W) (hsub : SubOk G sub)
    (hh : ∀ (A : Around) (outer : List Env) (s : Shared) (H : Hp) (E : XK), RoomG (k + 1) (A.deeper (envOfC x sg s.heap.objs.size g cdv)) → HOk G (cxOf (L2.CX X.prog X.w) X.prog X.w X.K X.mg X.base Ng x sg g cdv A outer s H E) (h₀ :: hds) l)
    (hrest : ∀ (A : Around) (outer : List Env) (s : Shared) (H : Hp) (E : XK), RoomG (k + 1) (A.deeper (envOfC x sg s.heap.objs.size g cdv)) → SsOk G (cxOf (L2.CX X.prog X.w) X.prog X.w X.K X.mg X.base Ng x sg g cdv A outer s H E) (fun cls d _ H => E cls d H) rest er)
    (hdb : (x == ("__debug__" : Str)) = false) (hd : (a == ("__debug__" : Str)) = false) (hcd : (a == ("__classdict__" : Str)) = false) :
    EOk G X W (.Call (.Name x p) [.Lambda params body scope lpos] [] pos) fun τ S => lamTri Ng.length isRet sub l er (fun S => eb τ S) S := by
  constructor
  intro pins s σ H Q I ⟨m, S, τ, c, sr, pp⟩
  refine wpAny_Call_Name_kw (ld_glob I hg hm ?_ hdb)
  refine PySem.W.callWith_K (h₀ := X.base) I.ok.mod.kin hk ?_ rfl rfl
  refine Calls.spliced_cons (lam_make2 I TB hcode hmT hu c.tabs hdef (L.has I.ok) ?_)
  intro f c' pm' ctv H1 s' I1 eN T1 hf hfn hfr hco
  refine Calls.spliced_nil ⟨I1.kIn, ?_⟩
  have st : Stp m H m H1 := ⟨⟨[], by simp, fun _ h => nomatch h⟩, rfl, fun b o e hn _ => eN b o e hn, fun b z o e => Classical.byContradiction fun ne => ne (by
    refine Classical.byContradiction fun hn => ?_
    exact hn (z o (eN b o e fun ps q => hn ⟨ps, q⟩)))⟩
  have c1 : Cf G m S H1 := ⟨c.len, c.nd, fun n ds hn => by
    obtain ⟨b, xs, e1, e2, e3⟩ := c.at_ n ds hn
    exact ⟨b, xs, e1, eN _ _ e2 NoTbl.lst, e3.step c st⟩, fun b hb' => by
    obtain ⟨xs, e⟩ := c.bn b hb'
    exact ⟨xs, eN _ _ e NoTbl.lst⟩, T1⟩
  have sr1 := sr.step c st
  have p1' := Post.later st pp
  refine wpAny_call (codeAny_mono (?rc : codeAny (model X.prog X.w) X.A (.call (.ref g) ⟨[.ref f], []⟩) (CR (L2.CX X.prog X.w) X.stack X.prog X.w H1 s' Q (WE W σ)) s') ?after)
  case after =>
    intro r s2 hq
    match r, hq with
    | .error e, hq => exact passAt tk σ pins H1 s' e s2 I1 hq
    | .ok (.ret u), hq => exact I1.after hq
  case rc =>
    have bt := hb s' [.ref f] I1.kIn rfl
    refine run_ofS (CX := L2.CX X.prog X.w) (vs := [.ref f]) (us := [.ref f]) lk hcg Sg hr.room I1.env0 bt (.cons rfl .nil) rfl fun hr' => ?_
    have hrG : RoomG (k + 1) (X.A.deeper (envOfC x sg s'.heap.objs.size g cdv)) := ⟨hr', hr.gd⟩
    obtain ⟨l', h1, h2⟩ := HOk.parts (X := cxOf (L2.CX X.prog X.w) X.prog X.w X.K X.mg X.base Ng x sg g cdv X.A X.stack s' H1 (WE W σ)) hK hsub (hh X.A X.stack s' H1 (WE W σ) hrG)
    have hlen : (L2.start Ng [V.ref f]).length = Ng.length := start_len (by
      cases Ng with
      | nil => cases hNg
      | cons y ys => show 1 ≤ _; rw [List.length_cons]; omega)
    have tkZ : Takes (cxOf (L2.CX X.prog X.w) X.prog X.w X.K X.mg X.base Ng x sg g cdv X.A X.stack s' H1 (WE W σ)) (fun cls d _ H => WE W σ cls d H) :=
      takes_of (X := cxOf (L2.CX X.prog X.w) X.prog X.w X.K X.mg X.base Ng x sg g cdv X.A X.stack s' H1 (WE W σ)) (E := WE W σ) (E₁ := fun e' s'' => L2.CX X.prog X.w X.stack H1 s' (WE W σ) e' s'') rfl rfl rfl rfl
    let tb : WX → TS := fun W' D σZ HZ => σZ[0]? = some (some (.ref f)) ∧ HZ c' = some (CodeO c' (X.env.qual ++ "<lambda>")) ∧ rdE G (fun cls d _ H => W' cls d σZ H) eb σ HZ (fun v H' => if isRet then D.rt v H' else D.nx σZ H')
    have hbod : ∀ (W' : WX) (pn : List (Addr × Obj)) (xe : Value → Shared → Prop), Takes ((cxOf (L2.CX X.prog X.w) X.prog X.w X.K X.mg X.base Ng x sg g cdv X.A X.stack s' H1 (WE W σ)).tr pn xe) W' →
        PSs ((cxOf (L2.CX X.prog X.w) X.prog X.w X.K X.mg X.base Ng x sg g cdv X.A X.stack s' H1 (WE W σ)).tr pn xe) [first isRet a p1 p2 p3] (tb W') := fun W' pn xe tk' => by
      have hp := act (p1 := p1) (p2 := p2) I1 L hf hfn hfr (hbind _ _ _ _ _) tk' hrG hbody hNg hva hd hcd
      cases isRet with
      | false => exact PSs.weak (pss_one (ps_expr (pos := p3) hp rfl)) fun D σZ HZ ⟨q1, q2, q3⟩ => ⟨q1, q2, q3⟩
      | true => exact PSs.weak (pss_one (ps_ret (pos := p3) hp)) fun D σZ HZ ⟨q1, q2, q3⟩ => ⟨q1, q2, q3⟩
    refine ⟨_, pss_cons (ps_try_many (tb := tb) rfl rfl tkZ (fun W' pn xe tk' _ => hbod W' pn xe tk') h1) (hrest X.A X.stack s' H1 (WE W σ) hrG), ?_⟩
    refine ⟨by unfold L2.start; rfl, hco, m, S, τ, c1, sr1, ?_⟩
    replace p1' : Post G m H1 (fin (thenS (match eb τ S with
      | .ok d S' => if isRet then .ok (.ret d) S' else .ok (.nx (List.replicate Ng.length none)) S'
      | .exc x S' => handleEv sub x l (List.replicate Ng.length none) S'
      | .bad => .bad) er)) (VR G) Q fun c d H' => W c d σ H' := p1'
    have key : ∀ (r : Res Out) (m2 : Mm) (H2 : Hp), Post G m2 H2 (fin (thenS r er)) (VR G) Q (WE W σ) →
        PostS G m2 H2 Ng.length r { nx := rdS G Ng.length (fun cls d _ H => WE W σ cls d H) er { nx := fun _ H' => Q .non H', rt := Q }, rt := Q } (fun cls d _ H => WE W σ cls d H) := fun r m2 H2 q =>
      PostS.seq (Post.ofFin (n := Ng.length) q) rfl fun σ' τ' S' m' H' hl' c' st' sr' p' => ⟨m', S', τ', c', sr', hl', p'⟩
    cases e : eb τ S with
    | bad => rw [e] at p1'; exact p1'.elim
    | ok d S' =>
      rw [e] at p1'
      intro v m2 H2 c2 st2 r2
      have q := key _ _ _ (Post.later st2 p1')
      cases isRet with
      | false => exact q _ m2 H2 hlen c2 Stp.refl (SR.none hlen)
      | true => exact q v m2 H2 c2 Stp.refl r2
    | exc y S' =>
      rw [e] at p1'
      intro cls d m2 H2 c2 st2 er2
      exact h2 _ _ m2 S' H2 _ _ cls d y c2 hlen (SR.none hlen) er2 (key _ _ _ (Post.later st2 p1'))
end
end RA

set_option Elab.async false
set_option linter.all false
set_option maxRecDepth 100000
set_option maxHeartbeats 4000000
set_option autoImplicit false
/-! B12: what the reading of a tree needs. -/
namespace RA
open PySem PySem.Spec PyProof.Rows L2 LamX
section
variable {G : Gd} {X : Cx} {W : WX}
theorem EOk.congr {e : Expr} {ev ev' : Ev D} (h : EOk G X W e ev) (q : ∀ τ S, ev' τ S = ev τ S) : EOk G X W e ev' := by
  have : ev' = ev := funext fun τ => funext fun S => q τ S
  rw [this]; exact h
theorem TOk.congr {e : Expr} {ev ev' : Ev D} (h : TOk G X W e ev) (q : ∀ τ S, ev' τ S = ev τ S) : TOk G X W e ev' := by
  have : ev' = ev := funext fun τ => funext fun S => q τ S
  rw [this]; exact h
/-- the value is a bool -/
def Bools (ev : Ev D) : Prop := ∀ τ S d S', ev τ S = .ok d S' → ∃ k, d = .bl k
theorem rdB.bools {ev : Ev D} (hb : Bools ev) {σ : L2.St} {H : Hp} {Q : Bool → Hp → Prop} (h : rdB G W ev σ H Q) : rdE G W ev σ H fun v H' => ∃ k, v = .bl k ∧ Q k H' := by
  obtain ⟨m, S, τ, c, sr, p⟩ := h
  refine ⟨m, S, τ, c, sr, ?_⟩
  dsimp only at p
  cases e : ev τ S with
  | bad => rw [e] at p; exact p
  | exc x S' => rw [e] at p; exact p
  | ok d S' =>
    obtain ⟨k, rfl⟩ := hb _ _ _ _ e
    rw [e] at p
    intro v m' H' c' st' r'
    cases r'
    exact ⟨k, rfl, p k m' H' c' st' rfl⟩
theorem cmpop_bool {S : Store} {op : COp} {x y d : D} (e : cmpop S op x y = some d) : ∃ k, d = .bl k := by
  cases op <;> (
    unfold cmpop at e
    obtain ⟨k, _, h⟩ := Option.map_eq_some_iff.mp e
    exact ⟨_, h.symm⟩)
theorem opC (hK : X.K = G.K) (hu : X.A.units + 64 < cLine) : ∀ op : CmpOp, OpR X (compareOp op) (rD G fun S => cmpop S (copOf op))
  | .Eq => opD_eq hK hu
  | .NotEq => opD_ne hK hu
  | .Lt => opD_lt
  | .LtE => opD_le
  | .Gt => opD_gt
  | .GtE => opD_ge
  | .Is => opD_is
  | .IsNot => opD_isn
  | .In => opD_in hK hu
  | .NotIn => opD_nin hK hu
theorem opB (hK : X.K = G.K) {op : Operator} {o : BOp} (h : bopOf op = some o) : OpR X (binaryOp op) (rD G fun S => binop S o) := by
  cases op <;> cases h
  · exact opD_add hK
  · exact opD_sub
  · exact opD_mul hK
  · exact opD_mod
  · exact opD_pow
  · exact opD_fdiv
def chainEv (S0 : Unit) (o1 o2 : COp) (ea eb ec : Ev D) : Ev D := fun τ S => (ea τ S).bind fun x S => (eb τ S).bind fun y S => (RA.lift S (cmpop S o1 x y)).bind fun k S => match k with
  | .bl true => (ec τ S).bind fun z S => RA.lift S (cmpop S o2 y z)
  | .bl false => .ok (.bl false) S
  | _ => .bad
theorem chain_bools (o1 o2 : COp) (ea eb ec : Ev D) : Bools (chainEv () o1 o2 ea eb ec) := fun τ S d S' e => by
  unfold chainEv at e
  cases e1 : ea τ S with
  | bad => rw [e1] at e; cases e
  | exc x S1 => rw [e1] at e; cases e
  | ok x S1 =>
    rw [e1, r_ok] at e
    cases e2 : eb τ S1 with
    | bad => rw [e2] at e; cases e
    | exc x S1 => rw [e2] at e; cases e
    | ok y S2 =>
      rw [e2, r_ok] at e
      cases e3 : cmpop S2 o1 x y with
      | none => rw [e3] at e; cases e
      | some k =>
        obtain ⟨b, rfl⟩ := cmpop_bool e3
        rw [e3, l_ok, r_ok] at e
        cases b with
        | false => cases e; exact ⟨false, rfl⟩
        | true =>
          replace e : ((ec τ S2).bind fun z S => RA.lift S (cmpop S o2 y z)) = Res.ok d S' := e
          cases e4 : ec τ S2 with
          | bad => rw [e4] at e; cases e
          | exc x S1 => rw [e4] at e; cases e
          | ok z S3 =>
            rw [e4, r_ok] at e
            cases e5 : cmpop S3 o2 y z with
            | none => rw [e5] at e; cases e
            | some k =>
              rw [e5] at e
              cases e
              exact cmpop_bool e5
/-- the reading of a chain -/
theorem chain_reads {o1 o2 : CmpOp} {ea eb ec : Ev D} (σ : L2.St) (H : Hp) (Q : VK) (h : rdE G W (chainEv () (copOf o1) (copOf o2) ea eb ec) σ H Q) :
    tChain (rD G fun S => cmpop S (copOf o1)) (rD G fun S => cmpop S (copOf o2)) (rdE G W ea) (rdE G W eb) (rdE G W ec) σ H Q := by
  obtain ⟨m, S, τ, c, sr, p⟩ := h
  unfold chainEv at p
  refine rdE.seq c sr p fun v d1 S1 m1 H1 c1 st r1 p1 => rdE.seq c1 (sr.step c st) p1 fun u d2 S2 m2 H2 c2 st2 r2 p2 => ?_
  refine ⟨m2, S2, d1, d2, c2, r1.step c1 st2, r2, ?_⟩
  cases e : cmpop S2 (copOf o1) d1 d2 with
  | none => rw [e] at p2; exact p2.elim
  | some k =>
    obtain ⟨b, rfl⟩ := cmpop_bool e
    rw [e] at p2
    show Post G m2 H2 (RA.lift S2 (cmpop S2 (copOf o1) d1 d2)) (VR G) _ _
    rw [e]
    intro v m3 H3 c3 st3 r3
    cases r3
    refine ⟨b, rfl, ?_⟩
    replace p2 := Post.later st3 p2
    cases b with
    | false => exact p2 (.bl false) m3 H3 c3 Stp.refl (.bl false)
    | true =>
      rw [if_pos rfl]
      replace p2 : Post G m3 H3 ((ec τ S2).bind fun z S => RA.lift S (cmpop S (copOf o2) d2 z)) (VR G) Q fun c d H' => W c d σ H' := p2
      exact rdE.seq c3 (((sr.step c st).step c1 st2).step c2 st3) p2 fun w d4 S4 m4 H4 c4 st4 r4 p4 => ⟨m4, S4, d2, d4, c4, (r2.step c2 st3).step c3 st4, r4, p4.anyE⟩
theorem e_chainR (hK : X.K = G.K) (hu : X.A.units + 64 < cLine) {o1 o2 : CmpOp} {a b e : Expr} {ea eb ec : Ev D} {pos : Pos} (ha : EOk G X W a ea) (hb : EOk G X W b eb) (hc : EOk G X W e ec) (hm : lastMarks [o1, o2] [b, e] = false) :
    EOk G X W (.Compare a [o1, o2] [b, e] pos) (chainEv () (copOf o1) (copOf o2) ea eb ec) :=
  PE.weak (pe_chain (opC hK hu o1) (opC hK hu o2) ha hb hc hm) chain_reads
theorem t_chainR (hK : X.K = G.K) (hu : X.A.units + 64 < cLine) {o1 o2 : CmpOp} {a b e : Expr} {ea eb ec : Ev D} {pos : Pos} (ha : EOk G X W a ea) (hb : EOk G X W b eb) (hc : EOk G X W e ec) (hm : lastMarks [o1, o2] [b, e] = false) :
    TOk G X W (.Compare a [o1, o2] [b, e] pos) (chainEv () (copOf o1) (copOf o2) ea eb ec) :=
  PT.weak (pt_chain (opC hK hu o1) (opC hK hu o2) ha hb hc hm) fun σ H Q h => chain_reads σ H _ (rdB.bools (chain_bools _ _ _ _ _) h)
/-- {} -/
theorem e_dict0 {pos : Pos} : EOk G X W (.Dict [] [] pos) fun _ S => .ok (.vd [] []) S :=
  PE.weak pe_dnewK fun σ H Q ⟨m, S, τ, c, sr, p⟩ q hq => p (.ref q) m _ (c.new hq) (Stp.new hq) (.vd (.inl upd_same) (c.outN hq) .nil .nil)
/-- list(x), a list that will change -/
theorem f_list (hK : X.K = G.K) {e : Expr} {es : List Expr} {ees : Ev (List D)} {p pos : Pos} (hg : Gl X "list") (hm : X.mg "list" = none) (ha : AOk G X W (e :: es) ees)
    (he : starEach (e :: es) X.env = (false, eval e X.env) :: starEach es X.env) (hpl : (backTo pos (starEach es X.env)).any (·.1) = false) :
    FOk G X W (.Call (.Name "list" p) (e :: es) [] pos) fun τ S => (ees τ S).bind fun ds S => RA.lift S (bcall S .list ds) :=
  PE.weak (pe_callTy (bD_listF hK) hg hm (by rfl) ha (by decide) (by decide) he hpl) fun σ H Q ⟨m, S, τ, c, sr, pp⟩ => ⟨m, S, τ, c, sr, by
    dsimp only at pp
    cases e1 : ees τ S with
    | bad => rw [e1] at pp; exact pp.elim
    | exc x S' => rw [e1] at pp; exact pp
    | ok ds S' =>
      rw [e1, r_ok] at pp
      intro vs m1 H1 c1 st r1
      cases e2 : bcall S' .list ds with
      | none => rw [e2] at pp; exact pp.elim
      | some d =>
        obtain ⟨x, _, e3⟩ := one_some (show one (fun x => (asQ S' x).map D.vl) ds = some d from e2)
        obtain ⟨es', _, e4⟩ := Option.map_eq_some_iff.mp e3
        subst e4
        rw [e2] at pp
        exact ⟨m1, S', ds, es', c1, r1, e2, fun q ys hq ry => pp q ys m1 _ (c1.start hq) (st.trans (Stp.new hq)) (st.there _ (.of hq)) upd_same (c1.notin hq) (ry.start hq)⟩⟩
/-! ### arguments without stars -/
theorem star_ok {e : Expr} {es : List Expr} {env : Env} (h : isStar e = false) : starEach (e :: es) env = (false, eval e env) :: starEach es env := by
  cases e <;> first | rfl | cases h
theorem stars_ok {env : Env} {pos : Pos} : ∀ {es : List Expr}, (∀ e ∈ es, isStar e = false) → (backTo pos (starEach es env)).any (·.1) = false
  | [], _ => rfl
  | e :: es, h => by
    rw [star_ok (h e List.mem_cons_self)]
    show ((false, _) :: backTo pos (starEach es env)).any (·.1) = false
    rw [List.any_cons, stars_ok fun e' h' => h e' (List.mem_cons_of_mem _ h')]
    rfl
theorem mark_ok {op : CmpOp} {e : Expr} (h : isSet e = false) : behindInMarks op e = false := by
  cases e <;> first | rfl | cases h
theorem marks_ok {o1 o2 : CmpOp} {b e : Expr} (h : isSet e = false) : lastMarks [o1, o2] [b, e] = false := mark_ok h
theorem ix_ok {e : Expr} (h : isSlice e = false) : PlainIx e := by
  cases e <;> first | exact fun _ _ => rfl | cases h
theorem seen_vis {sc : Scope} {x : Str} (h : seen sc x = true) : Vis sc x := by
  unfold seen at h
  unfold Vis
  split at h
  · rename_i e; exact .inl e
  · rename_i e; exact .inr (.inl e)
  · rename_i e; exact .inr (.inr e)
  · cases h
theorem isLoc_loc {sc : Scope} {x : Str} (h : isLoc sc x = true) : L2.Loc sc x := by
  unfold isLoc at h
  unfold L2.Loc
  split at h
  · rename_i e; exact .inl e
  · rename_i e; exact .inr e
  · cases h
theorem plainLoc_loc {sc : Scope} {x : Str} (h : plainLoc sc x = true) : sc.names.lookup x = some .local := by
  unfold plainLoc at h
  split at h
  · assumption
  · cases h
theorem isGlob_gl {sc : Scope} {x : Str} (h : isGlob sc x = true) : sc.names.lookup x = some .globalImplicit := by
  unfold isGlob at h
  split at h
  · assumption
  · cases h
theorem slotIn_at {N : List Str} {x : Str} {i : Nat} (h : slotIn N x = some i) : N[i]? = some x := by
  unfold slotIn at h
  split at h
  · split at h
    · cases h; assumption
    · cases h
  · cases h
theorem okName_1 {x : Str} (h : okName x = true) : (x == ("__debug__" : Str)) = false ∧ (x == ("__classdict__" : Str)) = false ∧ x ≠ "__name__" := by
  unfold okName at h
  simp only [Bool.and_eq_true, Bool.not_eq_true'] at h
  exact ⟨h.1.1, h.1.2, fun e => by have := h.2; rw [e] at this; simp at this⟩
theorem slotOf_ok {c : Cc} {x : Str} {i : Nat} (h : slotOf c x = some i) : okName x = true ∧ seen c.sc x = true ∧ c.N[i]? = some x := by
  unfold slotOf at h
  split at h
  · rename_i q
    rw [Bool.and_eq_true] at q
    exact ⟨q.1, q.2, slotIn_at h⟩
  · cases h
theorem setOf_ok {c : Cc} {x : Str} {i : Nat} (h : setOf c x = some i) : L2.Loc c.sc x ∧ (c.fn x = true ∨ c.sc.names.lookup x = some .local) ∧ c.N[i]? = some x := by
  unfold setOf at h
  split at h
  · rename_i q
    rw [Bool.and_eq_true, Bool.or_eq_true] at q
    exact ⟨isLoc_loc q.1, q.2.imp id plainLoc_loc, slotIn_at h⟩
  · cases h
/-! ### the context -/
structure CxB (G : Gd) (c : Cc) (C : Ora) (X : Cx) (W : WX) (k : Nat) : Prop where
  N : X.N = c.N
  nd : X.N.Nodup
  sc : X.env.scope = c.sc
  K : X.K = G.K
  calm : c.calm = true → X.calm = true ∧ RoomG k X.A ∧ Takes X W
  un : X.A.units + 64 < cLine
  gd : X.A.guards = some []
  fn : ∀ x, c.fn x = true → X.fn x = true
  cons : ∀ x d, c.cons.lookup x = some d → ∃ u v, X.mg x = some u ∧ RelV v u ∧ ∀ m H, VR G m H v d
  fns : ∀ x i, c.fns.lookup x = some i → ∃ f, X.mg x = some (.ref f) ∧ G.FA i = some f
  free : ∀ x, (bltOf x ≠ none ∨ tyName x ≠ none ∨ x = "range") → X.mg x = none
  prom : ∀ i f, G.FA i = some f → Prom X.prog X.w X.K X.mg X.base k f (spI G (C.fn i))
/-- .. with lambdas -/
structure CxOk (G : Gd) (c : Cc) (C : Ora) (X : Cx) (W : WX) (k : Nat) : Prop extends CxB G c C X W k where
  lam : c.top = true → ∀ (x : Str) (i : Nat) (ps : Arguments) (body : Expr) (scope : Scope) (p lpos pos : Pos) (eb : Ev D), c.lams.lookup x = some i → isGlob c.sc x = true → okName x = true → noParams ps = true → lamSB c.sc scope = true →
    (∀ X' W', CxB G (lamCc c scope) C X' W' k → EOk G X' W' body eb) → EOk G X W (.Call (.Name x p) [.Lambda ps body scope lpos] [] pos) fun τ S => C.lam i (fun S => eb τ S) S
theorem CxB.ok {c : Cc} {C : Ora} {k : Nat} (h : CxB G c C X W k) (ht : c.top = false) : CxOk G c C X W k := ⟨h, fun z => by rw [ht] at z; cases z⟩
end
end RA

set_option Elab.async false
set_option linter.all false
set_option maxRecDepth 100000
set_option maxHeartbeats 4000000
set_option autoImplicit false
/-! B13: an expression's tree reads as the interpreter has it. -/
namespace RA
open PySem PySem.Spec PyProof.Rows L2 LamX
section
variable {G : Gd} {X : Cx} {W : WX}
/-! ### targets -/
structure SetX (G : Gd) (c : Cc) (X : Cx) : Prop where
  N : X.N = c.N
  nd : X.N.Nodup
  sc : X.env.scope = c.sc
  K : X.K = G.K
  calm : c.calm = true → X.calm = true
  fn : ∀ x, c.fn x = true → X.fn x = true
theorem CxB.setX {c : Cc} {C : Ora} {k : Nat} (h : CxB G c C X W k) : SetX G c X := ⟨h.N, h.nd, h.sc, h.K, fun z => (h.calm z).1, h.fn⟩
theorem SetX.name {c : Cc} (s : SetX G c X) {x : Str} {i : Nat} {p : Pos} (h : setOf c x = some i) : PG X (.Name x p) (gName i) := by
  obtain ⟨h1, h2, h3⟩ := setOf_ok h
  exact pg_name s.nd (by rw [s.N]; exact h3) (by rw [s.sc]; exact h1) (by rw [s.sc]; exact h2.imp (s.fn x) id)
theorem names_ok {c : Cc} : ∀ {es : List Expr} {is : List Nat}, cNames c es = some is → es.length = is.length ∧ (∀ env, (assignEach es env).length = is.length ∧ ∀ q ∈ assignEach es env, q.1 = false) ∧ ∀ X, SetX G c X → PGs X es (gNames is)
  | [], is, h => by
    cases h
    exact ⟨rfl, fun env => ⟨rfl, fun q hq => nomatch hq⟩, fun X _ => pgs_nil⟩
  | e :: r, is, h => by
    cases e with
    | Name x p =>
      obtain ⟨i, h1, h⟩ := some_bind (show ((setOf c x).bind fun i => (cNames c r).map fun l => i :: l) = some is from h)
      obtain ⟨l, h2, rfl⟩ := Option.map_eq_some_iff.mp h
      obtain ⟨a1, a2, a3⟩ := names_ok h2
      refine ⟨by rw [List.length_cons, List.length_cons, a1], fun env => ⟨?_, fun q hq => ?_⟩, fun X s => pgs_cons (s.name h1) (a3 X s) rfl⟩
      · show (_ :: assignEach r env).length = _
        rw [List.length_cons, List.length_cons, (a2 env).1]
      · rcases List.mem_cons.mp (show q ∈ (false, _) :: assignEach r env from hq) with z | z
        · rw [z]
        · exact (a2 env).2 q z
    | _ => cases h
theorem target_ok {c : Cc} {tg : Expr} {tup : Bool} {is : List Nat} (h : cTarget c tg = some (tup, is)) : ∃ g, GW G g tup is ∧ ∀ X, SetX G c X → PG X tg g := by
  cases tg with
  | Name x p =>
    obtain ⟨i, h1, h2⟩ := Option.map_eq_some_iff.mp (show (setOf c x).map (fun i => (false, [i])) = some (tup, is) from h)
    cases h2
    exact ⟨gName i, gw_name i, fun X s => s.name h1⟩
  | Tuple es k p =>
    have h' : (if c.calm then (cNames c es).map fun l => (true, l) else none) = some (tup, is) := h
    split at h'
    · rename_i hc
      obtain ⟨l, h1, h2⟩ := Option.map_eq_some_iff.mp h'
      cases h2
      obtain ⟨a1, a2, a3⟩ := names_ok (G := G) h1
      refine ⟨gTup G.K is.length (gNames is), gw_tup rfl is rfl, fun X s => ?_⟩
      have := pg_tup (pos := p) (k := k) (s.calm hc) (a3 X s) (a2 X.env).1 (by
        rw [List.findIdx?_eq_none_iff]
        exact (a2 X.env).2)
      rw [s.K] at this
      exact this
    · cases h'
  | _ => cases h
/-! ### the contexts within -/
theorem CxB.blk {c : Cc} {C : Ora} {k : Nat} (h : CxB G c C X W k) (hc : c.calm = true) (scope : Scope) (s : Shared) (H : Hp) (cenv : Env) (fp : List Addr) (hs : cenv.scope = relS scope X.env.scope) : CxB G (blkCc c scope) C (X.blk s H scope cenv fp) WNo k where
  N := h.N
  nd := h.nd
  sc := by show cenv.scope = relS scope c.sc; rw [hs, h.sc]
  K := h.K
  calm := fun _ => ⟨(h.calm hc).1, (h.calm hc).2.1, L2.takes0⟩
  un := h.un
  gd := h.gd
  fn := fun x z => z
  cons := h.cons
  fns := h.fns
  free := h.free
  prom := h.prom
theorem evalEs_len {C : Ora} : ∀ {es : List E} {τ : Sig} {S S' : Store} {ds : List D}, evalEs C es τ S = .ok ds S' → ds.length = es.length
  | [], τ, S, S', ds, h => by cases h; rfl
  | e :: r, τ, S, S', ds, h => by
    replace h : ((evalE C e τ S).bind fun d S => (evalEs C r τ S).bind fun ds S => .ok (d :: ds) S) = .ok ds S' := h
    cases e1 : evalE C e τ S with
    | bad => rw [e1] at h; cases h
    | exc x S1 => rw [e1] at h; cases h
    | ok d S1 =>
      rw [e1, r_ok] at h
      cases e2 : evalEs C r τ S1 with
      | bad => rw [e2] at h; cases h
      | exc x S2 => rw [e2] at h; cases h
      | ok l S2 =>
        rw [e2, r_ok] at h
        cases h
        rw [List.length_cons, List.length_cons, evalEs_len e2]
/-- a comprehension's parts -/
def CompOk (G : Gd) (X : Cx) (W : WX) (elt : Expr) (gs : List Comprehension) (scope : Scope) (ev : Ev D) : Prop :=
  ∃ (tg iter : Expr) (ifs : List Expr) (own : List (Str × Nat)) (tup : Bool) (is : List Nat) (g : TG) (ei : Ev (List D × Option Nat)) (ef ee : Ev D), gs = [⟨tg, iter, ifs, 0⟩] ∧ X.calm = true ∧ IOk G X W tg iter ei ∧ BlkOk X.N X.env.scope scope own ∧ (∀ i ∈ is, i ∈ own.map (·.2)) ∧ GW G g tup is ∧
    (∀ (s : Shared) (H : Hp) (C : Addr) (cl : List (Str × Addr)) (fp : List Addr), PG (X.blk s H scope (compEnvC scope cl C X.env) fp) tg g) ∧
    (∀ (s : Shared) (H : Hp) (C : Addr) (cl : List (Str × Addr)) (fp : List Addr), PTs (X.blk s H scope (compEnvC scope cl C X.env) fp) ifs (rdB G WNo ef)) ∧
    (∀ (s : Shared) (H : Hp) (C : Addr) (cl : List (Str × Addr)) (fp : List Addr), EOk G (X.blk s H scope (compEnvC scope cl C X.env) fp) WNo elt ee) ∧ (∀ x, foldedSetIterable iter X.env x = pure x) ∧
    ∀ τ S, ev τ S = compEv (own.map (·.2)) tup is ei ef ee τ S
theorem FOk.congr {e : Expr} {ev ev' : Ev D} (h : FOk G X W e ev) (q : ∀ τ S, ev' τ S = ev τ S) : FOk G X W e ev' := by
  have : ev' = ev := funext fun τ => funext fun S => q τ S
  rw [this]; exact h
theorem CompOk.fok {elt : Expr} {gs : List Comprehension} {scope : Scope} {pos : Pos} {ev : Ev D} (h : CompOk G X W elt gs scope ev) (hN : X.N.Nodup) : FOk G X W (.ListComp elt gs scope pos) ev := by
  obtain ⟨tg, iter, ifs, own, tup, is, g, ei, ef, ee, rfl, hc, h1, h2, h3, h4, h5, h6, h7, h8, h9⟩ := h
  exact FOk.congr (f_comp hc hN h1 h2 h3 h4 h5 h6 h7 h8) h9
theorem comp_lists (own : List Nat) (tup : Bool) (is : List Nat) (ei : Ev (List D × Option Nat)) (ef ee : Ev D) : Lists (compEv own tup is ei ef ee) := fun τ S d S' e => by
  unfold compEv at e
  cases e1 : ei τ S with
  | bad => rw [e1] at e; cases e
  | exc x S1 => rw [e1] at e; cases e
  | ok it S1 =>
    rw [e1, r_ok] at e
    cases e2 : compL (compG tup own is ef ee τ) (fun S => still S it) it.1 S1 [] with
    | bad => rw [e2] at e; cases e
    | exc x S1 => rw [e2] at e; cases e
    | ok l S2 =>
      rw [e2] at e
      cases e
      exact ⟨l, rfl⟩
theorem CompOk.lists {elt : Expr} {gs : List Comprehension} {scope : Scope} {ev : Ev D} (h : CompOk G X W elt gs scope ev) : Lists ev := by
  obtain ⟨tg, iter, ifs, own, tup, is, g, ei, ef, ee, rfl, hc, h1, h2, h3, h4, h5, h6, h7, h8, h9⟩ := h
  intro τ S d S' e
  rw [h9] at e
  exact comp_lists _ _ _ _ _ _ _ _ _ _ e
theorem pts_b0 {X : Cx} : PTs X [] (rdB G W fun _ S => .ok (.bl true) S) := ⟨fun pins s σ H Q I ⟨m, S, τ, c, sr, p⟩ => pts_nil.run pins s σ H Q I (p true m H c Stp.refl rfl)⟩
/-! ### the built-in functions -/
theorem ite_or {α : Type} {p : Prop} [Decidable p] {a f : α} {b : Option α} (h : (if p then some a else b) = some f) : (p ∧ f = a) ∨ b = some f := by
  by_cases hp : p
  · rw [if_pos hp] at h; cases h; exact .inl ⟨hp, rfl⟩
  · rw [if_neg hp] at h; exact .inr h
theorem blt_cases {x : Str} {f : BF} (h : bltOf x = some f) : (x = "len" ∧ f = .len) ∨ (x = "abs" ∧ f = .abs) ∨ (x = "max" ∧ f = .max) ∨ (x = "min" ∧ f = .min) ∨ (x = "sum" ∧ f = .sum) ∨ (x = "all" ∧ f = .all) ∨ (x = "any" ∧ f = .any) ∨ (x = "tuple" ∧ f = .tuple) ∨ (x = "list" ∧ f = .list) ∨ (x = "int" ∧ f = .int) ∨ (x = "str" ∧ f = .str) ∨ (x = "repr" ∧ f = .repr) ∨ (x = "isinstance" ∧ f = .isinst) := by
  unfold bltOf at h
  exact (ite_or h).imp id fun h => (ite_or h).imp id fun h => (ite_or h).imp id fun h => (ite_or h).imp id fun h => (ite_or h).imp id fun h => (ite_or h).imp id fun h => (ite_or h).imp id fun h => (ite_or h).imp id fun h => (ite_or h).imp id fun h => (ite_or h).imp id fun h => (ite_or h).imp id fun h => (ite_or h).imp id fun h => (ite_or h).elim id fun h => by cases h
theorem ty_cases {x : Str} {t : String} (h : tyName x = some t) : (x = "int" ∧ t = "int") ∨ (x = "str" ∧ t = "str") ∨ (x = "bool" ∧ t = "bool") ∨ (x = "tuple" ∧ t = "tuple") ∨ (x = "list" ∧ t = "list") ∨ (x = "dict" ∧ t = "dict") := by
  unfold tyName at h
  exact (ite_or h).imp id fun h => (ite_or h).imp id fun h => (ite_or h).imp id fun h => (ite_or h).imp id fun h => (ite_or h).imp id fun h => (ite_or h).elim id fun h => by cases h
theorem e_callBF {c : Cc} {C : Ora} {k : Nat} (ok : CxB G c C X W k) {x : Str} {f : BF} (hcalm : x ≠ "repr" → x ≠ "str" → c.calm = true) (h : bltOf x = some f) {e : Expr} {es : List Expr} {ees : Ev (List D)} {p pos : Pos} (hg : Gl X x) (ha : AOk G X W (e :: es) ees)
    (hn : x ≠ "__name__") (hdb : (x == ("__debug__" : Str)) = false) (he : starEach (e :: es) X.env = (false, eval e X.env) :: starEach es X.env) (hpl : (backTo pos (starEach es X.env)).any (·.1) = false) :
    EOk G X W (.Call (.Name x p) (e :: es) [] pos) fun τ S => (ees τ S).bind fun ds S => RA.lift S (bcall S f ds) := by
  have hm : X.mg x = none := ok.free x (.inl (by rw [h]; intro z; cases z))
  rcases blt_cases h with ⟨rfl, rfl⟩ | ⟨rfl, rfl⟩ | ⟨rfl, rfl⟩ | ⟨rfl, rfl⟩ | ⟨rfl, rfl⟩ | ⟨rfl, rfl⟩ | ⟨rfl, rfl⟩ | ⟨rfl, rfl⟩ | ⟨rfl, rfl⟩ | ⟨rfl, rfl⟩ | ⟨rfl, rfl⟩ | ⟨rfl, rfl⟩ | ⟨rfl, rfl⟩
  · exact e_blt (bD_len ok.K) hg hm rfl ha hn hdb he hpl
  · exact e_blt bD_abs hg hm rfl ha hn hdb he hpl
  · obtain ⟨cal, rm, tk⟩ := ok.calm (hcalm (by decide) (by decide))
    have hh := rm.room.hd
    exact e_blt (bD_max ok.K ok.un cal hh) hg hm rfl ha hn hdb he hpl
  · obtain ⟨cal, rm, tk⟩ := ok.calm (hcalm (by decide) (by decide))
    have hh := rm.room.hd
    exact e_blt (bD_min ok.K ok.un cal hh) hg hm rfl ha hn hdb he hpl
  · obtain ⟨cal, rm, tk⟩ := ok.calm (hcalm (by decide) (by decide))
    have hh := rm.room.hd
    exact e_blt (bD_sum cal) hg hm rfl ha hn hdb he hpl
  · obtain ⟨cal, rm, tk⟩ := ok.calm (hcalm (by decide) (by decide))
    have hh := rm.room.hd
    exact e_blt (bD_all cal) hg hm rfl ha hn hdb he hpl
  · obtain ⟨cal, rm, tk⟩ := ok.calm (hcalm (by decide) (by decide))
    have hh := rm.room.hd
    exact e_blt (bD_any cal) hg hm rfl ha hn hdb he hpl
  · exact e_bty (bD_tuple ok.K) hg hm rfl ha hn hdb he hpl
  · exact e_bty (bD_list ok.K) hg hm rfl ha hn hdb he hpl
  · exact e_bty bD_int hg hm rfl ha hn hdb he hpl
  · exact e_bty bD_str hg hm rfl ha hn hdb he hpl
  · exact e_blt (bD_repr ok.K ok.un ok.gd) hg hm rfl ha hn hdb he hpl
  · exact e_blt (bD_isinst ok.K) hg hm rfl ha hn hdb he hpl
/-! ### what is proved of the fuel n -/
structure Snd (G : Gd) (n : Nat) : Prop where
  e : ∀ {c C X W k e ir}, CxOk G c C X W k → cE n c e = some ir → EOk G X W e (evalE C ir) ∧ (noTest e = false → TOk G X W e (evalE C ir))
  b : ∀ {c C X W k op vs pos ir}, CxOk G c C X W k → cB n c op vs = some ir → EOk G X W (.BoolOp op vs pos) (evalE C ir) ∧ PW X (.BoolOp op vs pos) (rdB G W (evalE C ir))
  es : ∀ {c C X W k es irs}, CxOk G c C X W k → cEs n c es = some irs → AOk G X W es (evalEs C irs) ∧ (∀ e ∈ es, isStar e = false) ∧ irs.length = es.length
  o : ∀ {c C X W k o ir}, CxOk G c C X W k → cO n c o = some ir → OOk G X W o (evalE C ir)
  call : ∀ {c C X W k x es p pos ir}, CxOk G c C X W k → cCall n c x es pos = some ir → EOk G X W (.Call (.Name x p) es [] pos) (evalE C ir)
  i : ∀ {c C X W k tg e sk irs}, CxOk G c C X W k → cI n c e = some (sk, irs) → IOk G X W tg e (fun τ S => (evalEs C irs τ S).bind fun ds S => RA.lift S (srcOf S sk ds)) ∧ ∀ env x, foldedSetIterable e env x = pure x
  l : ∀ {c C X W k elt gs scope ir}, CxOk G c C X W k → cL n c elt gs scope = some ir → CompOk G X W elt gs scope (evalE C ir)
theorem snd_zero : Snd G 0 := ⟨fun _ h => (by cases h), fun _ h => (by cases h), fun _ h => (by cases h), fun _ h => (by cases h), fun _ h => (by cases h), fun _ h => (by cases h), fun _ h => (by cases h)⟩
end
end RA

set_option Elab.async false
set_option linter.all false
set_option maxRecDepth 100000
set_option maxHeartbeats 4000000
set_option autoImplicit false
/-! B14: an expression's tree, one more step. -/
namespace RA
open PySem PySem.Spec PyProof.Rows L2 LamX
section
variable {G : Gd} {X : Cx} {W : WX} {n : Nat} {c : Cc} {C : Ora} {k : Nat}
theorem snd_name (ok : CxOk G c C X W k) {x : Str} {p : Pos} {ir : E} (h : cName c x = some ir) : EOk G X W (.Name x p) (evalE C ir) := by
  unfold cName at h
  cases e1 : slotOf c x with
  | some i =>
    rw [e1] at h
    cases h
    obtain ⟨h1, h2, h3⟩ := slotOf_ok e1
    obtain ⟨n1, n2, n3⟩ := okName_1 h1
    exact EOk.congr (e_var (i := i) (by rw [ok.N]; exact h3) (by rw [ok.sc]; exact seen_vis h2) n1 n2) fun τ S => rfl
  | none =>
    rw [e1] at h
    dsimp only at h
    by_cases q : (okName x && isGlob c.sc x) = true
    case neg => rw [if_neg q] at h; cases h
    rw [if_pos q] at h
    rw [Bool.and_eq_true] at q
    obtain ⟨n1, n2, n3⟩ := okName_1 q.1
    have hg : Gl X x := by
      show X.env.scope.names.lookup x = _
      rw [ok.sc]; exact isGlob_gl q.2
    cases e2 : c.cons.lookup x with
    | some d =>
      rw [e2] at h
      cases h
      obtain ⟨u, v, h1, h2, h3⟩ := ok.cons x d e2
      exact EOk.congr (e_con (pe_glob hg h1 h2 n1) h3) fun τ S => rfl
    | none =>
      rw [e2] at h
      cases e3 : c.fns.lookup x with
      | some i =>
        rw [e3] at h
        cases h
        obtain ⟨f, h1, h2⟩ := ok.fns x i e3
        exact EOk.congr (e_con (pe_glob (v := .ref f) hg h1 rfl n1) fun m H => .fn h2) fun τ S => rfl
      | none =>
        rw [e3] at h
        obtain ⟨t, e4, e5⟩ := Option.map_eq_some_iff.mp h
        subst e5
        have hm : X.mg x = none := ok.free x (.inr (.inl (by rw [e4]; intro z; cases z)))
        have hv : bootBuiltins x = some (.type t) := by
          rcases ty_cases e4 with ⟨rfl, rfl⟩ | ⟨rfl, rfl⟩ | ⟨rfl, rfl⟩ | ⟨rfl, rfl⟩ | ⟨rfl, rfl⟩ | ⟨rfl, rfl⟩ <;> rfl
        exact EOk.congr (e_con (pe_bltn (v := .ty t) hg hm hv rfl n3 n1) fun m H => .ty t) fun τ S => rfl
/-- a value's truth is looked at, for these -/
theorem t_of (hK : X.K = G.K) {a : Expr} {ea : Ev D} (h : EOk G X W a ea) (he : ∀ whole, isTrue a X.env whole = (do let v ← whole; standAt a.pos; holding [v] (truthy v))) : EOk G X W a ea ∧ (noTest a = false → TOk G X W a ea) := ⟨h, fun _ => t_val hK h he⟩
theorem snd_B (s : Snd G n) {op : PySem.BoolOp} {vs : List Expr} {pos : Pos} {ir : E} (ok : CxOk G c C X W k) (h : cB (n + 1) c op vs = some ir) : EOk G X W (.BoolOp op vs pos) (evalE C ir) ∧ PW X (.BoolOp op vs pos) (rdB G W (evalE C ir)) := by
  match vs, h with
  | [a], h =>
    replace h : (if noTest a then none else cE n c a) = some ir := h
    by_cases hn : noTest a = true
    case pos => rw [if_pos hn] at h; cases h
    rw [if_neg hn] at h
    have hn' : noTest a = false := by simpa using hn
    obtain ⟨h1, h2⟩ := s.e ok h
    refine ⟨e_one h1, ?_⟩
    cases op with
    | And => exact t_and1 (h2 hn')
    | Or => exact t_or1 (h2 hn')
  | a :: b :: r, h =>
    replace h : (if noTest a then none else (cE n c a).bind fun x => (cB n c op (b :: r)).map fun y => boolE op x y) = some ir := h
    by_cases hn : noTest a = true
    case pos => rw [if_pos hn] at h; cases h
    rw [if_neg hn] at h
    have hn' : noTest a = false := by simpa using hn
    obtain ⟨x, e1, h⟩ := some_bind h
    obtain ⟨y, e2, h⟩ := Option.map_eq_some_iff.mp h
    obtain ⟨h1, h2⟩ := s.e ok e1
    obtain ⟨h3, h4⟩ := s.b (pos := pos) ok e2
    cases op with
    | And =>
      cases h
      exact ⟨EOk.congr (e_and ok.K h1 h3) fun τ S => rfl, t_and (h2 hn') h4⟩
    | Or =>
      cases h
      exact ⟨EOk.congr (e_or ok.K h1 h3) fun τ S => rfl, t_or (h2 hn') h4⟩
theorem snd_Es (s : Snd G n) {es : List Expr} {irs : List E} (ok : CxOk G c C X W k) (h : cEs (n + 1) c es = some irs) : AOk G X W es (evalEs C irs) ∧ (∀ e ∈ es, isStar e = false) ∧ irs.length = es.length := by
  match es, h with
  | [], h =>
    cases h
    exact ⟨a_nil, (fun e he => nomatch he), rfl⟩
  | e :: r, h =>
    replace h : (if isStar e then none else (cE n c e).bind fun x => (cEs n c r).map fun l => x :: l) = some irs := h
    by_cases hn : isStar e = true
    case pos => rw [if_pos hn] at h; cases h
    rw [if_neg hn] at h
    have hn' : isStar e = false := by simpa using hn
    obtain ⟨x, e1, h⟩ := some_bind h
    obtain ⟨l, e2, h⟩ := Option.map_eq_some_iff.mp h
    cases h
    obtain ⟨h3, h4, h5⟩ := s.es ok e2
    refine ⟨a_cons (s.e ok e1).1 h3 (star_ok hn'), fun e' he' => ?_, by rw [List.length_cons, List.length_cons, h5]⟩
    rcases List.mem_cons.mp he' with z | z
    · rw [z]; exact hn'
    · exact h4 e' z
theorem snd_O (s : Snd G n) {o : Option Expr} {ir : E} (ok : CxOk G c C X W k) (h : cO (n + 1) c o = some ir) : OOk G X W o (evalE C ir) := by
  match o, h with
  | none, h =>
    cases h
    exact o_none
  | some e, h =>
    obtain ⟨x, e1, h⟩ := Option.map_eq_some_iff.mp (show (cE n c e).map E.ofInt = some ir from h)
    subst h
    exact o_some (s.e ok e1).1
theorem noParams_ok {ps : Arguments} (h : noParams ps = true) : ps = ⟨[], [], none, [], [], none, []⟩ := by
  unfold noParams at h
  split at h
  · rfl
  · cases h
theorem snd_call (s : Snd G n) {x : Str} {es : List Expr} {p pos : Pos} {ir : E} (ok : CxOk G c C X W k) (h : cCall (n + 1) c x es pos = some ir) : EOk G X W (.Call (.Name x p) es [] pos) (evalE C ir) := by
  unfold cCall at h
  by_cases hx : (!okName x) = true
  case pos => rw [if_pos hx] at h; cases h
  rw [if_neg hx] at h
  have hx' : okName x = true := by simpa using hx
  obtain ⟨n1, n2, n3⟩ := okName_1 hx'
  have key : ∀ (e : Expr) (r : List Expr), (if !c.calm && !(x = "repr" || x = "str") then none else match slotOf c x with
      | some i => if c.calm then (cEs n c (e :: r)).map fun l => E.callv (.var i) l else none
      | none => if isGlob c.sc x then (match c.fns.lookup x with
        | some i => if c.calm then (cEs n c (e :: r)).map fun l => E.call i l else none
        | none => (bltOf x).bind fun f => (cEs n c (e :: r)).bind fun l => if isNew c pos then (if f = .list then some (E.new (.bcall f l)) else none) else some (.bcall f l)) else none) = some ir → EOk G X W (.Call (.Name x p) (e :: r) [] pos) (evalE C ir) := by
    intro e r h
    by_cases hq : (!c.calm && !(x = "repr" || x = "str")) = true
    case pos => rw [if_pos hq] at h; cases h
    rw [if_neg hq] at h
    have hcalm : x ≠ "repr" → x ≠ "str" → c.calm = true := fun z1 z2 => by
      cases hc : c.calm with
      | true => rfl
      | false => exact absurd (by rw [hc]; simp [z1, z2]) hq
    cases e1 : slotOf c x with
    | some i =>
      rw [e1] at h
      dsimp only at h
      by_cases hc : c.calm = true
      case neg => rw [if_neg hc] at h; cases h
      · rw [if_pos hc] at h
        obtain ⟨l, e2, h⟩ := Option.map_eq_some_iff.mp h
        subst h
        obtain ⟨h1, h2, h3⟩ := slotOf_ok e1
        obtain ⟨a1, a2, a3⟩ := s.es ok e2
        obtain ⟨cal, rm, tk⟩ := ok.calm hc
        exact EOk.congr (e_callv (fn := C.fn) ok.prom rm tk (by rw [ok.N]; exact h3) (by rw [ok.sc]; exact seen_vis h2) a1 n1 n2 (star_ok (a2 e List.mem_cons_self)) (stars_ok fun e' he => a2 e' (List.mem_cons_of_mem _ he))) fun τ S => rfl
    | none =>
      rw [e1] at h
      dsimp only at h
      by_cases hgl : isGlob c.sc x = true
      case neg => rw [if_neg hgl] at h; cases h
      rw [if_pos hgl] at h
      have hg : Gl X x := by
        show X.env.scope.names.lookup x = _
        rw [ok.sc]; exact isGlob_gl hgl
      cases e3 : c.fns.lookup x with
      | some i =>
        rw [e3] at h
        dsimp only at h
        by_cases hc : c.calm = true
        case neg => rw [if_neg hc] at h; cases h
        · rw [if_pos hc] at h
          obtain ⟨l, e2, h⟩ := Option.map_eq_some_iff.mp h
          subst h
          obtain ⟨f, h1, h2⟩ := ok.fns x i e3
          obtain ⟨a1, a2, a3⟩ := s.es ok e2
          obtain ⟨cal, rm, tk⟩ := ok.calm hc
          exact EOk.congr (e_call (ev := C.fn i) (ok.prom i f h2) rm tk hg h1 a1 n1 (star_ok (a2 e List.mem_cons_self)) (stars_ok fun e' he => a2 e' (List.mem_cons_of_mem _ he))) fun τ S => rfl
        | none =>
        rw [e3] at h
        obtain ⟨f, e4, h⟩ := some_bind h
        obtain ⟨l, e2, h⟩ := some_bind h
        obtain ⟨a1, a2, a3⟩ := s.es ok e2
        have b1 := star_ok (env := X.env) (es := r) (a2 e List.mem_cons_self)
        have b2 := stars_ok (env := X.env) (pos := pos) fun e' he => a2 e' (List.mem_cons_of_mem _ he)
        by_cases hnew : isNew c pos = true
        · rw [if_pos hnew] at h
          by_cases hf : f = .list
          case neg => rw [if_neg hf] at h; cases h
          rw [if_pos hf] at h
          cases h
          subst hf
          have hxl : x = "list" := by rcases blt_cases e4 with z | z | z | z | z | z | z | z | z | z | z | z | z <;> first | exact z.1 | cases z.2
          subst hxl
          exact EOk.congr (e_new (f_list ok.K hg (ok.free _ (.inl (by decide))) a1 b1 b2)) fun τ S => rfl
        · rw [if_neg hnew] at h
          cases h
          exact EOk.congr (e_callBF ok.toCxB hcalm e4 hg a1 n3 n1 b1 b2) fun τ S => rfl
  match es, h with
  | [], h => cases h
  | [e], h =>
    cases e with
    | Lambda ps body scope lpos =>
      replace h : (if c.top && isGlob c.sc x && noParams ps && lamSB c.sc scope then (c.lams.lookup x).bind fun i => (cE n (lamCc c scope) body).map fun b => E.lam i b else none) = some ir := h
      by_cases hq : (c.top && isGlob c.sc x && noParams ps && lamSB c.sc scope) = true
      case neg => rw [if_neg hq] at h; cases h
      rw [if_pos hq] at h
      simp only [Bool.and_eq_true] at hq
      obtain ⟨i, e1, h⟩ := some_bind h
      obtain ⟨b, e2, h⟩ := Option.map_eq_some_iff.mp h
      subst h
      exact EOk.congr (ok.lam hq.1.1.1 x i ps body scope p lpos pos (evalE C b) e1 hq.1.1.2 hx' hq.1.2 hq.2 fun X' W' ok' => (s.e (ok'.ok rfl) e2).1) fun τ S => rfl
    | _ => exact key _ [] h
  | e :: e2 :: r, h =>
    cases e <;> exact key _ (e2 :: r) h
end
end RA

set_option Elab.async false
set_option linter.all false
set_option maxRecDepth 100000
set_option maxHeartbeats 4000000
set_option autoImplicit false
/-! B15: an expression's tree reads as the interpreter has it. -/
namespace RA
open PySem PySem.Spec PyProof.Rows L2 LamX
section
variable {G : Gd} {X : Cx} {W : WX} {n : Nat} {c : Cc} {C : Ora} {k : Nat}
theorem IOk.congr {tg e : Expr} {ev ev' : Ev (List D × Option Nat)} (h : IOk G X W tg e ev) (q : ∀ τ S, ev' τ S = ev τ S) : IOk G X W tg e ev' := by
  have : ev' = ev := funext fun τ => funext fun S => q τ S
  rw [this]; exact h
theorem i_valR (s : Snd G n) {tg e : Expr} {y : E} (ok : CxOk G c C X W k) (h : cE n c e = some y) (hs : isSet e = false) :
    IOk G X W tg e (fun τ S => (evalEs C [y] τ S).bind fun ds S => RA.lift S (srcOf S .val ds)) ∧ ∀ env x, foldedSetIterable e env x = pure x := by
  refine ⟨IOk.congr (i_val ok.K (s.e ok h).1) fun τ S => ?_, fun env x => ?_⟩
  · show ((evalE C y τ S).bind fun d S => (Res.ok [] S).bind fun ds S => .ok (d :: ds) S).bind _ = _
    rw [bind_assoc]
    rfl
  · cases e <;> first | rfl | cases hs
theorem snd_I (s : Snd G n) {tg e : Expr} {sk : SK} {irs : List E} (ok : CxOk G c C X W k) (h : cI (n + 1) c e = some (sk, irs)) :
    IOk G X W tg e (fun τ S => (evalEs C irs τ S).bind fun ds S => RA.lift S (srcOf S sk ds)) ∧ ∀ env x, foldedSetIterable e env x = pure x := by
  have val : (cE n c e).map (fun y => (SK.val, [y])) = some (sk, irs) → isSet e = false → (IOk G X W tg e (fun τ S => (evalEs C irs τ S).bind fun ds S => RA.lift S (srcOf S sk ds)) ∧ ∀ env x, foldedSetIterable e env x = pure x) := fun h hs => by
    obtain ⟨y, e1, e2⟩ := Option.map_eq_some_iff.mp h
    cases e2
    exact i_valR (tg := tg) (X := X) (W := W) s ok e1 hs
  have gl : ∀ {x : Str}, isGlob c.sc x = true → Gl X x := fun q => by
    show X.env.scope.names.lookup _ = _
    rw [ok.sc]; exact isGlob_gl q
  unfold cI at h
  split at h
  · rename_i x p a pos
    by_cases q : (decide (x = "range") && isGlob c.sc x && !isStar a) = true
    · rw [if_pos q] at h
      simp only [Bool.and_eq_true, decide_eq_true_eq, Bool.not_eq_true'] at q
      obtain ⟨⟨rfl, q2⟩, q3⟩ := q
      obtain ⟨y, e1, e2⟩ := Option.map_eq_some_iff.mp h
      cases e2
      exact ⟨IOk.congr (i_rng1 (gl q2) (ok.free _ (.inr (.inr rfl))) (a_cons (s.e ok e1).1 a_nil (star_ok q3)) (star_ok q3)) fun τ S => rfl, fun _ _ => rfl⟩
    · rw [if_neg q] at h
      exact val h rfl
  · rename_i x p a b pos
    by_cases q : (decide (x = "range") && isGlob c.sc x && !isStar a && !isStar b) = true
    · rw [if_pos q] at h
      simp only [Bool.and_eq_true, decide_eq_true_eq, Bool.not_eq_true'] at q
      obtain ⟨⟨⟨rfl, q2⟩, q3⟩, q4⟩ := q
      obtain ⟨y, e1, h⟩ := some_bind h
      obtain ⟨z, e2, e3⟩ := Option.map_eq_some_iff.mp h
      cases e3
      refine ⟨IOk.congr (i_rng2 (gl q2) (ok.free _ (.inr (.inr rfl))) (a_cons (s.e ok e1).1 (a_cons (s.e ok e2).1 a_nil (star_ok q4)) (star_ok q3)) ?_ (star_ok q4)) fun τ S => rfl, fun _ _ => rfl⟩
      rw [star_ok q3, star_ok q4]
      rfl
    · rw [if_neg q] at h
      exact val h rfl
  · cases h
  · rename_i h1 h2 h3
    refine val h ?_
    cases e <;> first | rfl | exact absurd rfl (h3 _ _ _)
theorem own_ix (N : List Str) (scope : Scope) : (ownOf N scope).map (·.2) = ownIx N scope := rfl
theorem snd_L (s : Snd G n) {elt : Expr} {gs : List Comprehension} {scope : Scope} {ir : E} (ok : CxOk G c C X W k) (h : cL (n + 1) c elt gs scope = some ir) : CompOk G X W elt gs scope (evalE C ir) := by
  unfold cL at h
  by_cases hc : (!c.calm) = true
  case pos => rw [if_pos hc] at h; cases h
  rw [if_neg hc] at h
  have hc' : c.calm = true := by simpa using hc
  split at h
  case h_2 => cases h
  rename_i tg iter ifs
  obtain ⟨⟨sk, irs⟩, e1, h⟩ := some_bind h
  by_cases hb : L2.blkC c.N c.sc scope (ownOf c.N scope) = true
  case neg => rw [if_neg hb] at h; cases h
  rw [if_pos hb] at h
  obtain ⟨⟨tup, is⟩, e2, h⟩ := some_bind h
  by_cases ho : (is.all fun i => (ownIx c.N scope).contains i) = true
  case neg => rw [if_neg ho] at h; cases h
  rw [if_pos ho] at h
  obtain ⟨f, e3, h⟩ := some_bind h
  obtain ⟨y, e4, h⟩ := Option.map_eq_some_iff.mp h
  subst h
  obtain ⟨i1, i2⟩ := s.i (tg := tg) ok e1
  obtain ⟨g, g1, g2⟩ := target_ok (G := G) e2
  have bo : ∀ (s : Shared) (H : Hp) (CC : Addr) (cl : List (Str × Addr)) (fp : List Addr), CxB G (blkCc c scope) C (X.blk s H scope (compEnvC scope cl CC X.env) fp) WNo k := fun s H CC cl fp => ok.toCxB.blk hc' scope s H _ fp rfl
  refine ⟨tg, iter, ifs, ownOf c.N scope, tup, is, g, _, evalE C f, evalE C y, rfl, (ok.calm hc').1, i1, by rw [ok.N, ok.sc]; exact blkOk_by hb, fun i hi => ?_, g1, fun s' H CC cl fp => g2 _ (bo s' H CC cl fp).setX, fun s' H CC cl fp => ?_, fun s' H CC cl fp => (s.e ((bo s' H CC cl fp).ok rfl) e4).1, fun x => i2 _ x, fun τ S => ?_⟩
  · have := List.all_eq_true.mp ho i hi
    rw [own_ix]
    simpa using this
  · match ifs, e3 with
    | [], e3 =>
      cases e3
      exact pts_b0
    | [t], e3 =>
      replace e3 : (if noTest t then none else cE n (blkCc c scope) t) = some f := e3
      by_cases hn : noTest t = true
      case pos => rw [if_pos hn] at e3; cases e3
      rw [if_neg hn] at e3
      exact pts_one ((s.e ((bo s' H CC cl fp).ok rfl) e3).2 (by simpa using hn))
    | _ :: _ :: _, e3 => cases e3
  · show ((evalEs C irs τ S).bind fun ds S => match srcOf S sk ds with
      | none => Res.bad
      | some it => (compL (compG tup (ownIx c.N scope) is (evalE C f) (evalE C y) τ) (fun S => still S it) it.1 S []).bind fun l S => .ok (D.vl l) S) = _
    unfold compEv
    rw [bind_assoc]
    cases evalEs C irs τ S with
    | bad => rfl
    | exc x S' => rfl
    | ok ds S' =>
      rw [r_ok, r_ok]
      cases srcOf S' sk ds <;> rfl
end
end RA

set_option Elab.async false
set_option linter.all false
set_option maxRecDepth 100000
set_option maxHeartbeats 4000000
set_option autoImplicit false
/-! B16: .. the step, all fuels. -/
namespace RA
open PySem PySem.Spec PyProof.Rows L2 LamX
section
variable {G : Gd} {X : Cx} {W : WX} {n : Nat} {c : Cc} {C : Ora} {k : Nat}
theorem neg_of {b : Bool} (h : ¬ b = true) : b = false := by simpa using h
theorem lst_lists {ees : Ev (List D)} : Lists fun τ S => (ees τ S).bind fun ds S => Res.ok (.vl ds) S := fun τ S d S' e => by
  dsimp only at e
  cases e1 : ees τ S with
  | bad => rw [e1] at e; cases e
  | exc x S1 => rw [e1] at e; cases e
  | ok ds S1 =>
    rw [e1] at e
    cases e
    exact ⟨ds, rfl⟩
theorem binF (hK : X.K = G.K) {op : Operator} {o : BOp} (h : bopOf op = some o) (ho : o = .add ∨ o = .mul) : OpR X (binaryOp op) (rDF G fun S => binop S o) := by
  rcases ho with rfl | rfl
  · cases op <;> first | exact opD_addF hK | cases h
  · cases op <;> first | exact opD_mulF | cases h
theorem snd_E (s : Snd G n) {e : Expr} {ir : E} (ok : CxOk G c C X W k) (h : cE (n + 1) c e = some ir) : EOk G X W e (evalE C ir) ∧ (noTest e = false → TOk G X W e (evalE C ir)) := by
  cases e with
  | Name x p => exact t_of ok.K (snd_name ok h) fun _ => rfl
  | Constant v j p =>
    obtain ⟨d, e1, h⟩ := Option.map_eq_some_iff.mp (show (cConst v).map E.con = some ir from h)
    subst h
    refine t_of ok.K ?_ fun _ => rfl
    cases v <;> first | (cases e1; done) | skip
    all_goals cases e1
    · exact EOk.congr (e_con pe_non fun _ _ => .non) fun τ S => rfl
    · exact EOk.congr (e_con pe_bl fun _ _ => .bl _) fun τ S => rfl
    · exact EOk.congr (e_con pe_int fun _ _ => .int _) fun τ S => rfl
    · exact EOk.congr (e_con pe_str fun _ _ => .str _) fun τ S => rfl
  | BinOp a op b pos =>
    obtain ⟨o, e1, h⟩ := some_bind (show ((bopOf op).bind fun o => (cE n c a).bind fun x => (cE n c b).bind fun y => if isNew c pos then (if o = .add || o = .mul then some (E.new (.bin o x y)) else none) else some (.bin o x y)) = some ir from h)
    obtain ⟨x, e2, h⟩ := some_bind h
    obtain ⟨y, e3, h⟩ := some_bind h
    refine t_of ok.K ?_ fun _ => rfl
    by_cases hn : isNew c pos = true
    · rw [if_pos hn] at h
      by_cases ho : (decide (o = .add) || decide (o = .mul)) = true
      case neg => rw [if_neg ho] at h; cases h
      rw [if_pos ho] at h
      cases h
      have ho' : o = .add ∨ o = .mul := by simpa using ho
      refine EOk.congr (e_new (f_bin (binF ok.K e1 ho') (s.e ok e2).1 (s.e ok e3).1)) fun τ S => ?_
      show ((evalE C x τ S).bind fun d1 S => (evalE C y τ S).bind fun d2 S => RA.lift S (binop S o d1 d2)).bind _ = _
      simp only [bind_assoc]
      refine congrArg _ (funext fun d1 => funext fun S1 => congrArg _ (funext fun d2 => funext fun S2 => congrArg _ (funext fun d => funext fun S3 => ?_)))
      cases d <;> rfl
    · rw [if_neg hn] at h
      cases h
      exact EOk.congr (e_bin (opB ok.K e1) (s.e ok e2).1 (s.e ok e3).1) fun τ S => rfl
  | UnaryOp op a pos =>
    cases op with
    | Not =>
      obtain ⟨x, e1, h⟩ := some_bind (show ((cE n c a).bind fun x => if noTest a then none else some (E.not x)) = some ir from h)
      by_cases hn : noTest a = true
      case pos => rw [if_pos hn] at h; cases h
      rw [if_neg hn] at h
      cases h
      obtain ⟨h1, h2⟩ := s.e ok e1
      exact ⟨EOk.congr (e_not ok.K h1) fun τ S => rfl, fun _ => TOk.congr (t_not (h2 (neg_of hn))) fun τ S => rfl⟩
    | USub =>
      obtain ⟨x, e1, h⟩ := Option.map_eq_some_iff.mp (show (cE n c a).map E.neg = some ir from h)
      subst h
      exact t_of ok.K (EOk.congr (e_neg (s.e ok e1).1) fun τ S => rfl) fun _ => rfl
    | _ => cases h
  | BoolOp op vs pos =>
    obtain ⟨h1, h2⟩ := s.b (pos := pos) ok (show cB n c op vs = some ir from h)
    exact ⟨h1, fun _ => h2.pt⟩
  | IfExp t a b pos =>
    replace h : (if noTest t then none else (cE n c t).bind fun x => (cE n c a).bind fun y => (cE n c b).map fun z => E.ife x y z) = some ir := h
    by_cases hn : noTest t = true
    case pos => rw [if_pos hn] at h; cases h
    rw [if_neg hn] at h
    obtain ⟨x, e1, h⟩ := some_bind h
    obtain ⟨y, e2, h⟩ := some_bind h
    obtain ⟨z, e3, h⟩ := Option.map_eq_some_iff.mp h
    subst h
    exact ⟨EOk.congr (e_ife ((s.e ok e1).2 (neg_of hn)) (s.e ok e2).1 (s.e ok e3).1) fun τ S => rfl, fun z => by cases z⟩
  | Compare a ops bs pos =>
    match ops, bs, h with
    | [op], [b], h =>
      replace h : (if isSet b then none else (cE n c a).bind fun x => (cE n c b).map fun y => E.cmp (copOf op) x y) = some ir := h
      by_cases hs : isSet b = true
      case pos => rw [if_pos hs] at h; cases h
      rw [if_neg hs] at h
      obtain ⟨x, e1, h⟩ := some_bind h
      obtain ⟨y, e2, h⟩ := Option.map_eq_some_iff.mp h
      subst h
      have hm := mark_ok (op := op) (neg_of hs)
      exact ⟨EOk.congr (e_cmp (opC ok.K ok.un op) (s.e ok e1).1 (s.e ok e2).1 hm) fun τ S => rfl, fun _ => TOk.congr (t_cmp (opC ok.K ok.un op) (s.e ok e1).1 (s.e ok e2).1 hm fun S x y d e => cmpop_bool e) fun τ S => rfl⟩
    | [o1, o2], [b, d], h =>
      replace h : (if isSet b || isSet d then none else (cE n c a).bind fun x => (cE n c b).bind fun y => (cE n c d).map fun z => E.chain (copOf o1) (copOf o2) x y z) = some ir := h
      by_cases hs : (isSet b || isSet d) = true
      case pos => rw [if_pos hs] at h; cases h
      rw [if_neg hs] at h
      obtain ⟨x, e1, h⟩ := some_bind h
      obtain ⟨y, e2, h⟩ := some_bind h
      obtain ⟨z, e3, h⟩ := Option.map_eq_some_iff.mp h
      subst h
      have hm := marks_ok (o1 := o1) (o2 := o2) (b := b) (e := d) (by
        have := neg_of hs
        rw [Bool.or_eq_false_iff] at this
        exact this.2)
      exact ⟨EOk.congr (e_chainR ok.K ok.un (s.e ok e1).1 (s.e ok e2).1 (s.e ok e3).1 hm) fun τ S => rfl, fun _ => TOk.congr (t_chainR ok.K ok.un (s.e ok e1).1 (s.e ok e2).1 (s.e ok e3).1 hm) fun τ S => rfl⟩
    | [], _, h => cases h
    | [_], [], h => cases h
    | [_], _ :: _ :: _, h => cases h
    | [_, _], [], h => cases h
    | [_, _], [_], h => cases h
    | [_, _], _ :: _ :: _ :: _, h => cases h
    | _ :: _ :: _ :: _, _, h => cases h
  | Tuple es j pos =>
    replace h : (if es.length ≤ 1000 then (cEs n c es).map E.tup else none) = some ir := h
    by_cases hl : es.length ≤ 1000
    case neg => rw [if_neg hl] at h; cases h
    rw [if_pos hl] at h
    obtain ⟨l, e1, h⟩ := Option.map_eq_some_iff.mp h
    subst h
    obtain ⟨a1, a2, a3⟩ := s.es ok e1
    exact t_of ok.K (EOk.congr (e_tup a1 (Nat.le_trans hl (by decide)) fun τ S ds S' e => (evalEs_len e).trans a3) fun τ S => rfl) fun _ => rfl
  | List es pos =>
    replace h : (if es.length ≤ 1000 then (cEs n c es).map fun l => made c pos (.lst l) else none) = some ir := h
    by_cases hl : es.length ≤ 1000
    case neg => rw [if_neg hl] at h; cases h
    rw [if_pos hl] at h
    obtain ⟨l, e1, h⟩ := Option.map_eq_some_iff.mp h
    subst h
    obtain ⟨a1, a2, a3⟩ := s.es ok e1
    have f := f_lst (pos := pos) a1 (Nat.le_trans hl (by decide)) fun τ S ds S' e => (evalEs_len e).trans a3
    refine t_of ok.K ?_ fun _ => rfl
    unfold made
    by_cases hn : isNew c pos = true
    · rw [if_pos hn]
      exact EOk.congr (e_new f) fun τ S => rfl
    · rw [if_neg hn]
      exact EOk.congr (e_ofF f lst_lists) fun τ S => rfl
  | Subscript a i pos =>
    refine t_of ok.K ?_ fun _ => rfl
    by_cases hi : isSlice i = true
    · cases i with
      | Slice lo up st p2 =>
        replace h : (if isOneRev lo up st then (cE n c a).map E.rev else match (generalizing := false) st with
          | none => (cE n c a).bind fun x => (cO n c lo).bind fun y => (cO n c up).map fun z => E.slice x y z
          | _ => none) = some ir := h
        by_cases hr : isOneRev lo up st = true
        · rw [if_pos hr] at h
          obtain ⟨x, e1, h⟩ := Option.map_eq_some_iff.mp h
          subst h
          unfold isOneRev at hr
          split at hr
          · have hr' := eq_of_beq hr
            subst hr'
            exact EOk.congr (e_rev ok.K (s.e ok e1).1) fun τ S => rfl
          · cases hr
        · rw [if_neg hr] at h
          cases st with
          | some z => cases h
          | none =>
            obtain ⟨x, e1, h⟩ := some_bind h
            obtain ⟨y, e2, h⟩ := some_bind h
            obtain ⟨z, e3, h⟩ := Option.map_eq_some_iff.mp h
            subst h
            exact EOk.congr (e_slice ok.K (s.e ok e1).1 (s.o ok e2) (s.o ok e3)) fun τ S => rfl
      | Tuple es j p => cases h
      | _ => cases hi
    · have h' : (if isSlice i then none else (cE n c a).bind fun x => (cE n c i).map fun y => E.sub x y) = some ir := by
        cases i <;> first | exact h | exact absurd rfl hi
      rw [if_neg hi] at h'
      obtain ⟨x, e1, h2⟩ := some_bind h'
      obtain ⟨y, e2, h3⟩ := Option.map_eq_some_iff.mp h2
      subst h3
      exact EOk.congr (e_sub ok.K (s.e ok e1).1 (s.e ok e2).1 (ix_ok (neg_of hi))) fun τ S => rfl
  | Call f es ks pos =>
    refine t_of ok.K ?_ fun _ => rfl
    match ks, h with
    | _ :: _, h => cases h
    | [], h =>
      cases f with
      | Name x p => exact s.call ok (show cCall n c x es pos = some ir from h)
      | Attribute o x apos =>
        match es, h with
        | [], h => cases h
        | _ :: _ :: _, h => cases h
        | [e], h =>
          replace h : (if isName o && !isStar e && (apos.endLine == pos.line) && c.calm then (cE n c o).bind fun a => (cE n c e).bind fun b => if x = "append" then some (E.append a b) else if x = "pop" then some (.pop a b) else none else none) = some ir := h
          by_cases q : (isName o && !isStar e && (apos.endLine == pos.line) && c.calm) = true
          case neg => rw [if_neg q] at h; cases h
          rw [if_pos q] at h
          simp only [Bool.and_eq_true, Bool.not_eq_true'] at q
          obtain ⟨⟨⟨q1, q2⟩, q3⟩, q4⟩ := q
          obtain ⟨a, e1, h⟩ := some_bind h
          obtain ⟨b, e2, h⟩ := some_bind h
          have hbase : ∀ y : Str, attributeBase o y X.env (eval o X.env) = eval o X.env := fun y => by cases o <;> first | rfl | cases q1
          have hfew : ((backTo pos (starEach [e] X.env)).all (fun x => !x.1) && (backToKw pos (keywordEach [] X.env)).all (fun x => x.1.isSome)
              && decide ([e].length + ([] : List Keyword).length + (if ([] : List Keyword).isEmpty then 0 else 1) < 30)) = true := by
            rw [star_ok q2]; rfl
          by_cases x1 : x = "append"
          · rw [if_pos x1] at h
            cases h
            subst x1
            exact EOk.congr (e_append ok.K (s.e ok e1).1 (s.e ok e2).1 (hbase _) hfew q3 (star_ok q2) rfl) fun τ S => rfl
          · rw [if_neg x1] at h
            by_cases x2 : x = "pop"
            case neg => rw [if_neg x2] at h; cases h
            rw [if_pos x2] at h
            cases h
            subst x2
            exact EOk.congr (e_pop ok.K (s.e ok e1).1 (s.e ok e2).1 (hbase _) hfew q3 (star_ok q2) rfl) fun τ S => rfl
      | _ => cases h
  | ListComp elt gs scope pos =>
    obtain ⟨x, e1, h⟩ := Option.map_eq_some_iff.mp (show (cL n c elt gs scope).map (made c pos) = some ir from h)
    subst h
    have cok := s.l ok e1
    have f := cok.fok (pos := pos) ok.nd
    refine t_of ok.K ?_ fun _ => rfl
    unfold made
    by_cases hn : isNew c pos = true
    · rw [if_pos hn]
      exact EOk.congr (e_new f) fun τ S => rfl
    · rw [if_neg hn]
      exact e_ofF f cok.lists
  | Dict ks vs pos =>
    match ks, vs, h with
    | [], [], h =>
      cases h
      exact t_of ok.K (EOk.congr e_dict0 fun τ S => rfl) fun _ => rfl
    | _ :: _, _, h => cases h
    | [], _ :: _, h => cases h
  | _ => cases h
theorem snd : ∀ n, Snd G n
  | 0 => snd_zero
  | n + 1 =>
    have s := snd n
    ⟨fun ok h => snd_E s ok h, fun ok h => snd_B s ok h, fun ok h => snd_Es s ok h, fun ok h => snd_O s ok h, fun ok h => snd_call s ok h, fun ok h => snd_I s ok h, fun ok h => snd_L s ok h⟩
end
end RA

set_option Elab.async false
set_option linter.all false
set_option maxRecDepth 100000
set_option maxHeartbeats 4000000
set_option autoImplicit false
/-! B17: a statement's tree reads as the interpreter has it. -/
namespace RA
open PySem PySem.Spec PyProof.Rows L2 LamX
section
variable {G : Gd} {X : Cx} {W : WX} {n : Nat} {c : Cc} {C : Ora} {k : Nat}
/-! ### which stores are swapped -/
theorem sw_no {e : Expr} {o : Option Expr} {l : Nat} {env : Env} (h : isComp e = false) : swapsWith e o l env = pure false := by
  cases e <;> first | (cases o <;> rfl) | cases h
theorem sole_no {e t : Expr} {l : Nat} {env : Env} (h : isComp e = false) : swapsWithSole [t] e l env = pure false := sw_no h
theorem st_sub {e o i : Expr} {p : Pos} {env : Env} : swappedStores [.Subscript o i p] e env = pure none := by
  cases e <;> rfl
theorem st_tup {ts : List Expr} {k : Nat} {q : Pos} {e : Expr} {env : Env} (h : isTuple e = false) : swappedStores [.Tuple ts k q] e env = pure none := by
  cases e <;> first | rfl | cases h
theorem as_sub {o i : Expr} {tpos : Pos} {env : Env} (h : isSlice i = false) (v : Value) : assign (.Subscript o i tpos) env v = (do
      let ov ← holding [v] (eval o env)
      let iv ← holding [v, ov] (eval i env)
      standAt tpos
      holding [v, ov, iv] (setItem ov iv v)
      release [v, ov, iv] []) := by cases i <;> first | rfl | cases h
theorem st_par {x y : Str} {px py pt pos pt2 : Pos} {kt k2 : Nat} {a b : Expr} {env : Env} (hs : env.scope = c.sc) (h : parGood c x y px py [a, b] = true) :
    swappedStores [.Tuple [.Name x px, .Name y py] kt pt] (.Tuple [a, b] k2 pt2) env = pure (some [x, y]) ∧ env.scope.names.lookup x = some .local ∧ env.scope.names.lookup y = some .local ∧ x ≠ y := by
  unfold parGood at h
  simp only [Bool.and_eq_true, Bool.not_eq_true'] at h
  obtain ⟨⟨⟨⟨⟨⟨⟨h1, h2⟩, h3⟩, h4⟩, h5⟩, h6⟩, h7⟩, h8⟩ := h
  have k1 : env.kindOf x = some .local := by show env.scope.names.lookup x = _; rw [hs]; exact plainLoc_loc h1
  have k2' : env.kindOf y = some .local := by show env.scope.names.lookup y = _; rw [hs]; exact plainLoc_loc h2
  have kf : env.scope.kind = .function := by
    rw [hs]
    split at h5
    · assumption
    · cases h5
  have bk : env.blockKind = .function := by unfold Env.blockKind; rw [kf]; rfl
  have st : ∀ f : Expr → Bool, (∀ e, f e = isStar e) → [a, b].any f = false := fun f hf => by
    rw [show f = isStar from funext hf]; exact h6
  have l1 : (px.line == px.line) = true := by simp
  have l2 : (py.line == px.line) = true := by
    have := eq_of_beq h4
    rw [this]; simp
  have ne : (x == y) = false := h3
  have nm : ∀ f : Expr → Option Str, f (.Name x px) = some x → f (.Name y py) = some y → List.filterMap f [.Name x px, .Name y py] = [x, y] := fun f e1 e2 => by
    rw [List.filterMap_cons_some e1, List.filterMap_cons_some e2, List.filterMap_nil]
  have ed : [x, y].eraseDups.length = 2 := by
    have : (y == x) = false := by
      rw [← ne]; exact BEq.comm
    simp [List.eraseDups_cons, this]
  refine ⟨?_, k1, k2', fun z => by rw [z] at ne; simp at ne⟩
  unfold swappedStores
  dsimp only
  rw [bk]
  refine (if_neg (by simp)).trans ?_
  refine (if_neg ?_).trans ?_
  · rw [st _ fun e => by cases e <;> rfl]; decide
  rw [nm _ (by dsimp only; rw [k1]; exact if_pos l1) (by dsimp only; rw [k2']; exact if_pos l2), ed]
  refine (if_neg (by simp)).trans ?_
  refine (if_neg ?_).trans ?_
  · rw [h7]; decide
  refine (if_neg ?_).trans rfl
  rw [h8]; decide
/-! ### the context of a statement -/
/-- a class of exceptions without its own __init__ -/
structure ExcC (G : Gd) (X : Cx) (x : Str) (f : Addr) : Prop where
  mg : X.mg x = some (.ref f)
  facts : ∃ B newId initId bmB, ExcBaseFacts B newId initId bmB ∧ PySem.W.excIn X.K f bmB newId = true
  keep : PySem.W.keepIn X.K (.ref f) = true
  sub : PySem.W.subIn X.K (.ref f) (.type "BaseException") = some true
  ty : PySem.W.typeIn X.K (.ref f) = some (.type "type")
structure StOk (G : Gd) (T : Cls) (c : Cc) (C : Ora) (X : Cx) (W : WX) (k : Nat) : Prop extends CxOk G c C X W k where
  pass : c.calm = true → PassesOwn (model X.prog X.w) X.A X.env X.xe
  stk : c.top = true → X.stack = X.env :: X.outer ∧ X.env.frame = some X.env.locals
  cls : ∀ x i, c.clss.lookup x = some i → ∃ f, ExcC G X x f ∧ G.CA i = some f
  sub : SubOk G T.sub
  kp : ∀ x i, c.clss.lookup x = some i → T.keeps i = []
theorem SOk.congr {e : Stmt} {ev ev' : Ev Out} (h : SOk G X W e ev) (q : ∀ τ S, ev' τ S = ev τ S) : SOk G X W e ev' := by
  have : ev' = ev := funext fun τ => funext fun S => q τ S
  rw [this]; exact h
theorem SsOk.congr {e : List Stmt} {ev ev' : Ev Out} (h : SsOk G X W e ev) (q : ∀ τ S, ev' τ S = ev τ S) : SsOk G X W e ev' := by
  have : ev' = ev := funext fun τ => funext fun S => q τ S
  rw [this]; exact h
theorem glob_of {c : Cc} (hs : X.env.scope = c.sc) {x : Str} (h : isGlob c.sc x = true) : Gl X x := by
  show X.env.scope.names.lookup x = _
  rw [hs]; exact isGlob_gl h
/-- the clauses -/
def hsOf (T : Cls) (C : Ora) : List Hd → List (Nat × (Exn → Ev Out))
  | [] => []
  | .mk k _ b :: r => (k, fun z => execs T { C with ex := some z } b) :: hsOf T C r
theorem handle_eq {T : Cls} {C : Ora} {x : Exn} : ∀ (hs : List Hd) (τ : Sig) (S : Store), handle T C x hs τ S = handleEv T.sub x (hsOf T C hs) τ S
  | [], τ, S => rfl
  | .mk k o b :: r, τ, S => by
    show (if T.sub x.k k then (execs T { C with ex := some x } b τ S).noexc else handle T C x r τ S) = if T.sub x.k k then (execs T { C with ex := some x } b τ S).noexc else handleEv T.sub x (hsOf T C r) τ S
    rw [handle_eq r]
/-- what is proved of the fuel n -/
structure SndS (G : Gd) (T : Cls) (n : Nat) : Prop where
  s : ∀ {c C X W k st ir}, StOk G T c C X W k → cS n c st = some ir → SOk G X W st (execS T C ir)
  ss : ∀ {c C X W k sts irs}, StOk G T c C X W k → cSs n c sts = some irs → SsOk G X W sts (execs T C irs)
  hs : ∀ {c C X W k hds irs}, StOk G T c C X W k → cHs n c hds = some irs → HOk G X hds (hsOf T C irs) ∧ irs.length = hds.length
theorem sndS_zero {T : Cls} : SndS G T 0 := ⟨fun _ h => (by cases h), fun _ h => (by cases h), fun _ h => (by cases h)⟩
variable {T : Cls}
theorem sndS_ss (s : SndS G T n) {sts : List Stmt} {irs : List St} (ok : StOk G T c C X W k) (h : cSs (n + 1) c sts = some irs) : SsOk G X W sts (execs T C irs) := by
  match sts, h with
  | [], h =>
    cases h
    exact ss_nil
  | st :: r, h =>
    obtain ⟨l, e2, h⟩ := Option.map_eq_some_iff.mp (show (cSs n c r).map (fun l => (cS n c st).getD .stuck :: l) = some irs from h)
    subst h
    have one : SOk G X W st (execS T C ((cS n c st).getD .stuck)) := by
      cases e1 : cS n c st with
      | none => exact ⟨fun pins s σ H D I ⟨m, S, τ, c, sr, l, p⟩ => p.elim⟩
      | some x => exact s.s ok e1
    exact SsOk.congr (ss_cons one (s.ss ok e2)) fun τ S => rfl
/-- the context of an except's suite -/
theorem StOk.suite (ok : StOk G T c C X W k) (a : Addr) (oe : Obj) (pn : List (Addr × Obj)) (y : Exn) : StOk G T (suiteCc c) { C with ex := some y } (X.suite a ((a, oe) :: pn)) WNo k where
  N := ok.N
  nd := ok.nd
  sc := ok.sc
  K := ok.K
  calm := fun z => by cases z
  un := ok.un
  gd := ok.gd
  fn := ok.fn
  cons := ok.cons
  fns := ok.fns
  free := ok.free
  prom := ok.prom
  lam := fun z => by cases z
  pass := fun z => by cases z
  stk := fun z => by cases z
  cls := fun x i h => by
    obtain ⟨f, h1, h2⟩ := ok.cls x i h
    exact ⟨f, ⟨h1.mg, h1.facts, h1.keep, h1.sub, h1.ty⟩, h2⟩
  sub := ok.sub
  kp := ok.kp
theorem sndS_hs (s : SndS G T n) {hds : List ExceptHandler} {irs : List Hd} (ok : StOk G T c C X W k) (h : cHs (n + 1) c hds = some irs) :
    HOk G X hds (hsOf T C irs) ∧ irs.length = hds.length := by
  unfold cHs at h
  split at h
  · cases h
    exact ⟨.nil, rfl⟩
  · rename_i x np b body pos r
    by_cases q : (okName x && isGlob c.sc x) = true
    case neg => rw [if_neg q] at h; cases h
    rw [if_pos q] at h
    rw [Bool.and_eq_true] at q
    obtain ⟨i, e1, h⟩ := some_bind h
    obtain ⟨y, e2, h⟩ := some_bind h
    obtain ⟨l, e3, h⟩ := Option.map_eq_some_iff.mp h
    subst h
    obtain ⟨f, h1, h2⟩ := ok.cls x i e1
    obtain ⟨h3, h5⟩ := s.hs ok e3
    obtain ⟨n1, n2, n3⟩ := okName_1 q.1
    exact ⟨.cons ⟨glob_of ok.sc q.2, n1, .inl h1.mg⟩ h2 (fun a oe cls d pn z _ _ => s.ss (ok.suite a oe pn z) e2) h3, by rw [List.length_cons, List.length_cons, h5]⟩
  · cases h
/-- the context of a try's body -/
theorem StOk.tr (ok : StOk G T c C X W k) (hc : c.calm = true) {W' : WX} {pn : List (Addr × Obj)} {xe : Value → Shared → Prop} (tk : Takes (X.tr pn xe) W') (hp : PassesOwn (model X.prog X.w) X.A X.env xe) : StOk G T { c with top := false } C (X.tr pn xe) W' k where
  N := ok.N
  nd := ok.nd
  sc := ok.sc
  K := ok.K
  calm := fun _ => ⟨(ok.toCxOk.calm hc).1, (ok.toCxOk.calm hc).2.1, tk⟩
  un := ok.un
  gd := ok.gd
  fn := ok.fn
  cons := ok.cons
  fns := ok.fns
  free := ok.free
  prom := ok.prom
  lam := fun z => by cases z
  pass := fun _ => hp
  stk := fun z => by cases z
  cls := fun x i h => by
    obtain ⟨f, h1, h2⟩ := ok.cls x i h
    exact ⟨f, ⟨h1.mg, h1.facts, h1.keep, h1.sub, h1.ty⟩, h2⟩
  sub := ok.sub
  kp := ok.kp
end
end RA

set_option Elab.async false
set_option linter.all false
set_option maxRecDepth 100000
set_option maxHeartbeats 4000000
set_option autoImplicit false
/-! B18: .. the step, all fuels. -/
namespace RA
open PySem PySem.Spec PyProof.Rows L2 LamX
section
variable {G : Gd} {X : Cx} {W : WX} {n : Nat} {c : Cc} {C : Ora} {k : Nat} {T : Cls}
theorem swaps_ok {x : Str} {p : Pos} {e : Expr} (h : swaps c x p e = true) : ∃ elt gs scope pos, e = .ListComp elt gs scope pos ∧ c.sc.kind = .function ∧ c.sc.names.lookup x = some .local ∧ (p.line == pos.line) = true ∧ (scope.names.any fun (n, k) => n == x && (k == .local || k == .cell)) = false := by
  unfold swaps at h
  split at h
  · rename_i elt gs scope pos
    simp only [Bool.and_eq_true, Bool.not_eq_true'] at h
    obtain ⟨⟨⟨h1, h2⟩, h3⟩, h4⟩ := h
    refine ⟨elt, gs, scope, pos, rfl, ?_, plainLoc_loc h2, h3, h4⟩
    split at h1
    · assumption
    · cases h1
  · cases h
theorem set_name (ok : StOk G T c C X W k) {x : Str} {p pos : Pos} {e : Expr} {i : Nat} {v : E} (hs : isComp e = true → swaps c x p e = true) (e1 : setOf c x = some i) (e2 : cE n c e = some v) : SetOk G X W (.Assign [.Name x p] e pos) i (evalE C v) := by
  obtain ⟨h1, h2, h3⟩ := setOf_ok e1
  by_cases hc : isComp e = true
  · obtain ⟨elt, gs, scope, pos2, rfl, k1, k2, k3, k4⟩ := swaps_ok (hs hc)
    cases n with
    | zero => cases e2
    | succ m =>
      obtain ⟨y, e3, e4⟩ := Option.map_eq_some_iff.mp (show (cL m c elt gs scope).map (made c pos2) = some v from e2)
      subst e4
      obtain ⟨tg, iter, ifs, own, tup, is, g, ei, ef, ee, rfl, hcl, c1, c2, c3, c4, c5, c6, c7, c8, c9⟩ := (snd m).l ok.toCxOk e3
      have hev : evalE C y = compEv (own.map (·.2)) tup is ei ef ee := funext fun τ => funext fun S => c9 τ S
      refine set_comp hcl ok.nd (by rw [ok.N]; exact h3) (by rw [ok.sc]; exact k2) (sw_true (by rw [ok.sc]; exact k1) (by rw [ok.sc]; exact k2) k3 k4) c1 c2 c3 c4 c5 c6 c7 c8 ?_
      unfold made
      by_cases hn : isNew c pos2 = true
      · rw [if_pos hn]
        have : evalE C (.new y) = newEv (evalE C y) := rfl
        rw [this, hev]
        exact takes_new
      · rw [if_neg hn, hev]
        exact takes_vl (comp_lists _ _ _ _ _ _)
  · exact set_of ok.nd (by rw [ok.N]; exact h3) (by rw [ok.sc]; exact h1) ((snd n).e ok.toCxOk e2).1 (sw_no (neg_of hc)) (by rw [ok.sc]; exact h2.imp (ok.fn x) id)
theorem sndS_s (s : SndS G T n) {st : Stmt} {ir : St} (ok : StOk G T c C X W k) (h : cS (n + 1) c st = some ir) : SOk G X W st (execS T C ir) := by
  have se := snd (G := G) n
  have okX := ok.toCxOk
  cases st with
  | Assign ts e pos =>
    obtain ⟨t, e0, h⟩ := some_bind (show ((oneOf ts).bind fun t => cAsg n c t e) = some ir from h)
    have ht0 : ts = [t] := by
      unfold oneOf at e0
      split at e0
      · cases e0; rfl
      · cases e0
    subst ht0
    cases t with
    | Name x p =>
      replace h : (if isComp e && !swaps c x p e then none else (setOf c x).bind fun i => (cE n c e).map fun v => St.asg i v) = some ir := h
      by_cases q : (isComp e && !swaps c x p e) = true
      case pos => rw [if_pos q] at h; cases h
      rw [if_neg q] at h
      obtain ⟨i, e1, h⟩ := some_bind h
      obtain ⟨v, e2, h⟩ := Option.map_eq_some_iff.mp h
      subst h
      refine SOk.congr (s_set (set_name ok (fun hc => ?_) e1 e2)) fun τ S => rfl
      cases hs : swaps c x p e with
      | true => rfl
      | false => exact absurd (by rw [hc, hs]; rfl) q
    | Subscript o i tp =>
      replace h : (if isComp e || isSlice i then none else (cE n c e).bind fun v => (cE n c o).bind fun x => (cE n c i).map fun y => St.seti x y v) = some ir := h
      by_cases q : (isComp e || isSlice i) = true
      case pos => rw [if_pos q] at h; cases h
      rw [if_neg q] at h
      have q' := neg_of q
      rw [Bool.or_eq_false_iff] at q'
      obtain ⟨v, e1, h⟩ := some_bind h
      obtain ⟨x, e2, h⟩ := some_bind h
      obtain ⟨y, e3, h⟩ := Option.map_eq_some_iff.mp h
      subst h
      exact SOk.congr (s_seti (se.e okX e1).1 (se.e okX e2).1 (se.e okX e3).1 (sole_no q'.1) st_sub rfl (as_sub q'.2)) fun τ S => rfl
    | Tuple ts j q =>
      replace h : (if isTuple e then cPar n c ts (eltsOf e) else if isComp e then none else (cTarget c (.Tuple ts j q)).bind fun t => (cE n c e).map fun v => St.asgT t.2 v) = some ir := h
      by_cases ht : isTuple e = true
      · rw [if_pos ht] at h
        cases e with
        | Tuple vs j2 q2 =>
          replace h : cPar n c ts vs = some ir := h
          unfold cPar at h
          split at h
          · rename_i x px y py a b _
            by_cases g : (parGood c x y px py [a, b] && c.calm) = true
            case neg => rw [if_neg g] at h; cases h
            rw [if_pos g] at h
            rw [Bool.and_eq_true] at g
            obtain ⟨i, e1, h⟩ := some_bind h
            obtain ⟨j', e2, h⟩ := some_bind h
            obtain ⟨l, e3, h⟩ := Option.map_eq_some_iff.mp h
            subst h
            obtain ⟨w1, w2, w3, w4⟩ := st_par (pt := q) (pos := pos) (pt2 := q2) (kt := j) (k2 := j2) ok.sc g.1
            obtain ⟨_, _, i1⟩ := setOf_ok e1
            obtain ⟨_, _, i2⟩ := setOf_ok e2
            have hij : i ≠ j' := fun z => by
              rw [z, i2] at i1
              exact w4 (Option.some.inj i1).symm
            exact SOk.congr (s_par (okX.calm g.2).1 ok.nd (by rw [ok.N]; exact i1) (by rw [ok.N]; exact i2) hij w2 w3 (se.es okX e3).1 w1 rfl) fun τ S => rfl
          · cases h
        | _ => cases ht
      · rw [if_neg ht] at h
        by_cases hc : isComp e = true
        case pos => rw [if_pos hc] at h; cases h
        rw [if_neg hc] at h
        obtain ⟨⟨tup, is⟩, e1, h⟩ := some_bind h
        obtain ⟨v, e2, h⟩ := Option.map_eq_some_iff.mp h
        subst h
        obtain ⟨g, g1, g2⟩ := target_ok (G := G) e1
        have : tup = true := by
          replace e1 : (if c.calm then (cNames c ts).map fun l => (true, l) else none) = some (tup, is) := e1
          split at e1
          · obtain ⟨l, _, h2⟩ := Option.map_eq_some_iff.mp e1
            cases h2; rfl
          · cases e1
        subst this
        exact SOk.congr (s_asgT (se.e okX e2).1 (g2 _ okX.toCxB.setX) g1 (sole_no (neg_of hc)) (st_tup (neg_of ht)) rfl) fun τ S => rfl
    | _ => cases h
  | Expr e pos =>
    replace h : (if isComp e then none else (cE n c e).map St.exp) = some ir := h
    by_cases hc : isComp e = true
    case pos => rw [if_pos hc] at h; cases h
    rw [if_neg hc] at h
    obtain ⟨v, e2, h⟩ := Option.map_eq_some_iff.mp h
    subst h
    exact SOk.congr (s_exp (se.e okX e2).1 (sw_no (neg_of hc))) fun τ S => rfl
  | Return o pos =>
    cases o with
    | none =>
      cases h
      exact SOk.congr s_retN fun τ S => rfl
    | some e =>
      obtain ⟨v, e2, h⟩ := Option.map_eq_some_iff.mp (show (cE n c e).map St.ret = some ir from h)
      subst h
      exact SOk.congr (s_ret (se.e okX e2).1) fun τ S => rfl
  | If t a b pos =>
    replace h : (if noTest t then none else (cE n c t).bind fun x => (cSs n c a).bind fun y => (cSs n c b).map fun z => St.ite x y z) = some ir := h
    by_cases hn : noTest t = true
    case pos => rw [if_pos hn] at h; cases h
    rw [if_neg hn] at h
    obtain ⟨x, e1, h⟩ := some_bind h
    obtain ⟨y, e2, h⟩ := some_bind h
    obtain ⟨z, e3, h⟩ := Option.map_eq_some_iff.mp h
    subst h
    exact SOk.congr (s_if ((se.e okX e1).2 (neg_of hn)) (s.ss ok e2) (s.ss ok e3)) fun τ S => rfl
  | For tg iter body orelse pos =>
    match orelse, h with
    | _ :: _, h => cases h
    | [], h =>
      replace h : (if c.calm then (cI n c iter).bind fun (it : SK × List E) => (cTarget c tg).bind fun (t : Bool × List Nat) => (cSs n c body).map fun b => St.loop t.1 t.2 it.1 it.2 b else none) = some ir := h
      by_cases hc : c.calm = true
      case neg => rw [if_neg hc] at h; cases h
      rw [if_pos hc] at h
      obtain ⟨⟨sk, irs⟩, e1, h⟩ := some_bind h
      obtain ⟨⟨tup, is⟩, e2, h⟩ := some_bind h
      obtain ⟨b, e3, h⟩ := Option.map_eq_some_iff.mp h
      subst h
      obtain ⟨g, g1, g2⟩ := target_ok (G := G) e2
      obtain ⟨i1, i2⟩ := se.i (tg := tg) okX e1
      refine SOk.congr (s_for (ok.pass hc) (okX.calm hc).1 i1 (g2 _ okX.toCxB.setX) g1 (s.ss ok e3) fun x => i2 _ x) fun τ S => ?_
      unfold forEv
      show ((evalEs C irs τ S).bind fun ds S => match srcOf S sk ds with
        | none => Res.bad
        | some it => forL (fun d τ S => match target τ tup is d with
          | none => Res.bad
          | some τ2 => execs T C b τ2 S) (fun S => still S it) it.1 τ S) = _
      rw [bind_assoc]
      cases evalEs C irs τ S with
      | bad => rfl
      | exc x S' => rfl
      | ok ds S' =>
        rw [r_ok, r_ok]
        cases srcOf S' sk ds <;> rfl
  | While t body orelse pos =>
    match orelse, h with
    | _ :: _, h => cases h
    | [], h =>
      replace h : (if noTest t then none else if c.calm then (cE n c t).bind fun x => (cSs n c body).map fun b => St.while x b else none) = some ir := h
      by_cases hn : noTest t = true
      case pos => rw [if_pos hn] at h; cases h
      rw [if_neg hn] at h
      by_cases hc : c.calm = true
      case neg => rw [if_neg hc] at h; cases h
      rw [if_pos hc] at h
      obtain ⟨x, e1, h⟩ := some_bind h
      obtain ⟨b, e2, h⟩ := Option.map_eq_some_iff.mp h
      subst h
      exact SOk.congr (s_while (turns := C.turns) (ok.pass hc) ((se.e okX e1).2 (neg_of hn)) (s.ss ok e2)) fun τ S => rfl
  | Raise o cz pos =>
    match o, cz, h with
    | some e, none, h =>
      replace h : (if c.calm then (cRaise c e).map fun k => St.raise k [] else none) = some ir := h
      by_cases hc : c.calm = true
      case neg => rw [if_neg hc] at h; cases h
      rw [if_pos hc] at h
      obtain ⟨i, e1, h⟩ := Option.map_eq_some_iff.mp h
      subst h
      obtain ⟨cal, rm, tk⟩ := okX.calm hc
      unfold cRaise at e1
      split at e1
      · rename_i x p m j p2 p3
        by_cases q : (okName x && isGlob c.sc x) = true
        case neg => rw [if_neg q] at e1; cases e1
        rw [if_pos q] at e1
        rw [Bool.and_eq_true] at q
        obtain ⟨f, h1, h2⟩ := ok.cls x i e1
        obtain ⟨B, newId, initId, bmB, F, q2⟩ := h1.facts
        have hm := pmk_own (m := m) (j := j) (p := p) (p2 := p2) (pos := p3) F q2 h1.mg h1.keep (raises_own h1.sub h1.ty) (glob_of ok.sc q.2) (okName_1 q.1).1
        refine SOk.congr (s_raise cal tk hm h2) fun τ S => ?_
        show Res.exc ⟨i, (T.keeps i).zip []⟩ S = _
        rw [List.zip_nil_right]
      · cases e1
    | some e, some z, h => cases h
    | none, _, h => cases h
  | Try body hds orelse fin pos =>
    match orelse, fin, h with
    | [], [], h =>
      replace h : (if c.top && c.calm then (cSs n { c with top := false } body).bind fun b => (cHs n c hds).bind fun l => (match (generalizing := false) l with | [] => none | _ => some (St.tri b l)) else none) = some ir := h
      by_cases hc : (c.top && c.calm) = true
      case neg => rw [if_neg hc] at h; cases h
      rw [if_pos hc] at h
      rw [Bool.and_eq_true] at hc
      obtain ⟨hc, hcalm⟩ := hc
      obtain ⟨b, e1, h⟩ := some_bind h
      obtain ⟨l, e2, h⟩ := some_bind h
      obtain ⟨h3, h5⟩ := s.hs ok e2
      cases l with
      | nil => cases h
      | cons y ys =>
        cases h
        cases hds with
        | nil => simp at h5
        | cons h0 hds =>
          obtain ⟨cal, rm, tk⟩ := okX.calm hcalm
          obtain ⟨s1, s2⟩ := ok.stk hc
          refine SOk.congr (s_try ok.K ok.sub s1 s2 tk (fun W' pn xe tk' hp => s.ss (ok.tr hcalm tk' hp) e1) h3) fun τ S => ?_
          show (match execs T C b τ S with
            | .exc x S => handle T C x (y :: ys) (τ.map fun _ => none) S
            | r => r) = _
          unfold triEv
          cases execs T C b τ S with
          | exc x S' => exact handle_eq _ _ S'
          | bad => rfl
          | ok o S' => rfl
    | [], _ :: _, h => cases h
    | _ :: _, _, h => cases h
  | Pass pos =>
    cases h
    exact SOk.congr s_pass fun τ S => rfl
  | _ => cases h
theorem sndS : ∀ n, SndS G T n
  | 0 => sndS_zero
  | n + 1 =>
    have s := sndS n
    ⟨fun ok h => sndS_s s ok h, fun ok h => sndS_ss s ok h, fun ok h => sndS_hs s ok h⟩
end
end RA

set_option Elab.async false
set_option linter.all false
set_option maxRecDepth 100000
set_option maxHeartbeats 4000000
set_option autoImplicit false
/-! B19: the defs of a module, level by level. -/
namespace RA
open PySem PySem.Spec PyProof.Rows L2 LamX
/-- what is known of the module's names -/
structure Md where
  fns : List (Str × Nat)
  cons : List (Str × D)
  clss : List (Str × Nat)
  lams : List (Str × Nat)
/-- a def's text -/
structure Df where
  x : Str
  ps : List Str
  N : List Str
  scope : Scope
  body : List Stmt
  news : List (Nat × Nat)
  /-- it makes lambdas -/
  lam : Bool
def Md.cc (M : Md) (d : Df) : Cc := ⟨d.N, d.scope, M.fns, M.cons, M.clss, if d.lam then M.lams else [], d.news, fun _ => true, true, true⟩
def Md.cc0 (M : Md) (d : Df) : Cc := ⟨d.N, d.scope, M.fns, M.cons, M.clss, [], d.news, fun _ => true, true, false⟩
/-- the def at f -/
def DefAt (K : PySem.W.Frag) (d : Df) (f : Addr) (cdv : Value) : Prop :=
  PySem.W.keepIn K (.ref f) = true ∧ FnScope d.N d.ps d.scope ∧ ∃ (params : Arguments) (dV kV doc pm ct oc : Value) (an od : Option Addr) (osl : Array (Option Value)),
    K.lookup f = some ⟨oc, od, .func (PySem.W.fnOf d.x d.x params d.body d.scope dV kV doc pm an cdv ct), osl⟩ ∧ PySem.W.codeIn K cdv d.x = true ∧ L2.Binds K (PySem.W.fnOf d.x d.x params d.body d.scope dV kV doc pm an cdv ct) d.ps []
/-- .. of an exception's class -/
structure ExcK (K : PySem.W.Frag) (mg : Str → Option Value) (x : Str) (f : Addr) : Prop where
  mg : mg x = some (.ref f)
  facts : ∃ B newId initId bmB, ExcBaseFacts B newId initId bmB ∧ PySem.W.excIn K f bmB newId = true
  keep : PySem.W.keepIn K (.ref f) = true
  sub : PySem.W.subIn K (.ref f) (.type "BaseException") = some true
  ty : PySem.W.typeIn K (.ref f) = some (.type "type")
section
variable {G : Gd} {P : Program} {w : World} {K : PySem.W.Frag} {mg : Str → Option Value} {base : Heap} {M : Md} {T : Cls} {Γ : List Fn} {Wt : Nat}
structure ModOk (G : Gd) (K : PySem.W.Frag) (mg : Str → Option Value) (M : Md) (T : Cls) : Prop where
  hK : K = G.K
  cons : ∀ x d, M.cons.lookup x = some d → ∃ u v, mg x = some u ∧ RelV v u ∧ ∀ m H, VR G m H v d
  fns : ∀ x i, M.fns.lookup x = some i → ∃ f, mg x = some (.ref f) ∧ G.FA i = some f
  free : ∀ x, (bltOf x ≠ none ∨ tyName x ≠ none ∨ x = "range") → mg x = none
  cls : ∀ x i, M.clss.lookup x = some i → ∃ f, ExcK K mg x f ∧ G.CA i = some f
  sub : SubOk G T.sub
  kp : ∀ x i, M.clss.lookup x = some i → T.keeps i = []
/-- a def that makes lambdas has a table -/
def LamMk (G : Gd) (base : Heap) (mg : Str → Option Value) (d : Df) (cdv : Value) : Prop := d.lam = true → ∃ c P, cdv = .ref c ∧ TabB base mg c P ∧ (P, (d.x ++ (".<locals>." : Str)) ++ ("<lambda>" : Str)) ∈ G.T ∧ ∀ p ∈ G.T, p.1 = P → p.2 = (d.x ++ (".<locals>." : Str)) ++ ("<lambda>" : Str)
/-- a def that is handed a lambda -/
def LamTo (K : PySem.W.Frag) (mg : Str → Option Value) (M : Md) (Γ : List Fn) (x : Str) (i : Nat) : Prop := ∃ (g : Addr) (d : Df) (cdv : Value) (a : Str) (body : List St), d.x = x ∧ mg x = some (.ref g) ∧ DefAt K d g cdv ∧ d.ps = [a] ∧ okName a = true ∧ seen d.scope a = true ∧
  Γ[i]? = some ⟨1, d.N.length, body⟩ ∧ cLam 60 (M.cc0 d) a d.body = some body
/-- the context of a def's body -/
theorem stOk_def (mod : ModOk G K mg M T) {d : Df} {f : Addr} {cdv : Value} {A : Around} {outer : List Env} {s : Shared} {H : Hp} {E : XK} {k : Nat} {c : Cc} {C : Ora} (nd : d.N.Nodup) (hr : RoomG k (A.deeper (envOfC d.x d.scope s.heap.objs.size f cdv)))
    (prom : ∀ i f, G.FA i = some f → Prom P w K mg base k f (spI G (C.fn i))) (h1 : c.N = d.N) (h2 : c.sc = d.scope) (h3 : c.fns = M.fns) (h4 : c.cons = M.cons) (h5 : c.clss = M.clss)
    (lam : c.top = true → ∀ (x : Str) (i : Nat) (ps : Arguments) (body : Expr) (scope : Scope) (p lpos pos : Pos) (eb : Ev D), c.lams.lookup x = some i → isGlob c.sc x = true → okName x = true → noParams ps = true → lamSB c.sc scope = true →
      (∀ X' W', CxB G (lamCc c scope) C X' W' k → EOk G X' W' body eb) → EOk G (cxOf (L2.CX P w) P w K mg base d.N d.x d.scope f cdv A outer s H E) (fun cls d _ H => E cls d H) (.Call (.Name x p) [.Lambda ps body scope lpos] [] pos) fun τ S => C.lam i (fun S => eb τ S) S) :
    StOk G T c C (cxOf (L2.CX P w) P w K mg base d.N d.x d.scope f cdv A outer s H E) (fun cls d _ H => E cls d H) k where
  N := h1.symm
  nd := nd
  sc := h2.symm
  K := mod.hK
  calm := fun _ => ⟨rfl, hr, takes_of (X := cxOf (L2.CX P w) P w K mg base d.N d.x d.scope f cdv A outer s H E) (E := E) (E₁ := fun e' s'' => L2.CX P w outer H s E e' s'') rfl rfl rfl rfl⟩
  un := hr.room.units
  gd := hr.gd
  fn := fun _ _ => rfl
  cons := fun x d h => mod.cons x d (h4 ▸ h)
  fns := fun x i h => mod.fns x i (h3 ▸ h)
  free := mod.free
  prom := prom
  lam := lam
  pass := fun _ => passes_of (X := cxOf (L2.CX P w) P w K mg base d.N d.x d.scope f cdv A outer s H E) (K := fun e s'' => L2.CX P w outer H s E e s'') (E₁ := fun e' s'' => L2.CX P w outer H s E e' s'') rfl
  stk := fun _ => ⟨rfl, rfl⟩
  cls := fun x i h => by
    obtain ⟨f, h1, h2⟩ := mod.cls x i (h5 ▸ h)
    exact ⟨f, ⟨h1.mg, h1.facts, h1.keep, h1.sub, h1.ty⟩, h2⟩
  sub := mod.sub
  kp := fun x i h => mod.kp x i (h5 ▸ h)
theorem cLam_ok {n : Nat} {c : Cc} {a : Str} {sts : List Stmt} {body : List St} (h : cLam n c a sts = some body) : ∃ (isRet : Bool) (p1 p2 p3 p4 : Pos) (hds : List ExceptHandler) (rest : List Stmt) (l : List Hd) (r : List St),
    sts = .Try [first isRet a p1 p2 p3] hds [] [] p4 :: rest ∧ hds ≠ [] ∧ cHs n c hds = some l ∧ cSs n c rest = some r ∧ body = .tri [if isRet then .ret .thunk else .exp .thunk] l :: r := by
  unfold cLam at h
  split at h
  · rename_i x p1 p2 p3 hds p4 rest
    split at h
    · rename_i e
      obtain ⟨e, hne⟩ := e
      obtain ⟨l, h1, h⟩ := some_bind h
      obtain ⟨r, h2, h⟩ := Option.map_eq_some_iff.mp h
      subst h e
      exact ⟨false, _, _, _, _, hds, rest, l, r, rfl, hne, h1, h2, rfl⟩
    · cases h
  · rename_i x p1 p2 p3 hds p4 rest
    split at h
    · rename_i e
      obtain ⟨e, hne⟩ := e
      obtain ⟨l, h1, h⟩ := some_bind h
      obtain ⟨r, h2, h⟩ := Option.map_eq_some_iff.mp h
      subst h e
      exact ⟨true, _, _, _, _, hds, rest, l, r, rfl, hne, h1, h2, rfl⟩
    · cases h
  · cases h
theorem lam_ok (mod : ModOk G K mg M T) {d : Df} {f : Addr} {cdv : Value} {A : Around} {outer : List Env} {s : Shared} {H : Hp} {E : XK} {j : Nat} (nd : d.N.Nodup) (hr : RoomG (4 * j + 3) (A.deeper (envOfC d.x d.scope s.heap.objs.size f cdv)))
    (prom : ∀ i f, G.FA i = some f → Prom P w K mg base (4 * j) f (spI G (callF T Γ Wt j i))) (mk : LamMk G base mg d cdv) (to : ∀ x i, M.lams.lookup x = some i → LamTo K mg M Γ x i)
    (x : Str) (i : Nat) (ps : Arguments) (body : Expr) (scope : Scope) (p lpos pos : Pos) (eb : Ev D) (hx : (M.cc d).lams.lookup x = some i) (hg : isGlob d.scope x = true) (hn : okName x = true) (hps : noParams ps = true) (hl : lamSB d.scope scope = true)
    (hb : ∀ X' W', CxB G (lamCc (M.cc d) scope) (ora1 T Γ (callF T Γ Wt j) Wt) X' W' (4 * j) → EOk G X' W' body eb) :
    EOk G (cxOf (L2.CX P w) P w K mg base d.N d.x d.scope f cdv A outer s H E) (fun cls d _ H => E cls d H) (.Call (.Name x p) [.Lambda ps body scope lpos] [] pos) fun τ S => (ora1 T Γ (callF T Γ Wt j) Wt).lam i (fun S => eb τ S) S := by
  have hd : d.lam = true := by
    cases e : d.lam with
    | true => rfl
    | false =>
      have hx' : (if d.lam then M.lams else []).lookup x = some i := hx
      rw [e] at hx'
      cases hx'
  have hx' : M.lams.lookup x = some i := by
    have hx' : (if d.lam then M.lams else []).lookup x = some i := hx
    rw [hd] at hx'
    exact hx'
  obtain ⟨c, Pt, rfl, TB, hm, hu⟩ := mk hd
  obtain ⟨g, dg, cdg, a, gb, rfl, hmg, ⟨kp, Sf, params, dV, kV, doc, pm, ct, oc, an, od, osl, lk, hcd, bn⟩, hps', ha, hsa, hΓ, hcl⟩ := to x i hx'
  obtain ⟨isRet, p1, p2, p3, p4, hds, rest, l, r, eb0, hne, e1, e2, rfl⟩ := cLam_ok hcl
  have hN0 : dg.N[0]? = some a := by
    have := Sf.pre
    rw [hps'] at this
    cases hN : dg.N with
    | nil => rw [hN] at this; cases this
    | cons y ys =>
      rw [hN] at this
      have : [y] = [a] := this
      cases this
      rfl
  have St : ∀ (A : Around) (outer : List Env) (s : Shared) (H : Hp) (E : XK), RoomG (4 * j + 1 + 1) (A.deeper (envOfC dg.x dg.scope s.heap.objs.size g cdg)) → StOk G T (M.cc0 dg) (ora0 (callF T Γ Wt j) Wt) (cxOf (L2.CX P w) P w K mg base dg.N dg.x dg.scope g cdg A outer s H E) (fun cls d _ H => E cls d H) (4 * j) :=
    fun A outer s H E hr => stOk_def mod Sf.nd (hr.mono (by omega)) prom rfl rfl rfl rfl rfl fun z => by cases z
  have sn := sndS (G := G) (T := T) 60
  cases hds with
  | nil => exact absurd rfl hne
  | cons h0 hds =>
  have hps0 := noParams_ok hps
  subst hps0
  obtain ⟨n1, n2, n3⟩ := okName_1 hn
  obtain ⟨a1, a2, a3⟩ := okName_1 ha
  rw [eb0] at lk bn
  rw [hps'] at bn Sf
  refine EOk.congr (e_lam (eb := eb) (k := 4 * j + 1) (er := execs T (ora0 (callF T Γ Wt j) Wt) r) (l := hsOf T (ora0 (callF T Γ Wt j) Wt) l) (sub := T.sub) mod.hK (glob_of (c := M.cc d) (X := cxOf (L2.CX P w) P w K mg base d.N d.x d.scope f (.ref c) A outer s H E) rfl hg) hmg kp lk hcd bn Sf hN0 (seen_vis hsa) TB rfl hm hu hr (lamS_by hl) rfl (fun _ _ _ _ _ => rfl) ?_ ?_ mod.sub ?_ ?_ n1 a1 a2) fun τ S => ?_
  · intro A' outer' s' H' E' f' c' L' hr'
    refine hb _ _ ?_
    exact { N := rfl, nd := nd, sc := rfl, K := mod.hK, calm := fun _ => ⟨rfl, hr'.mono (by omega), takes_lam⟩, un := hr'.room.units, gd := hr'.gd, fn := fun x z => z, cons := mod.cons, fns := mod.fns, free := mod.free, prom := prom }
  · exact takes_of (X := cxOf (L2.CX P w) P w K mg base d.N d.x d.scope f (.ref c) A outer s H E) (E := E) (E₁ := fun e' s'' => L2.CX P w outer H s E e' s'') rfl rfl rfl rfl
  · exact fun A' outer' s' H' E' hr' => (sn.hs (St A' outer' s' H' E' hr') e1).1
  · exact fun A' outer' s' H' E' hr' => sn.ss (St A' outer' s' H' E' hr') e2
  · show (match Γ[i]? with
      | none => Res.bad
      | some gn => lamRun T (ora0 (callF T Γ Wt j) Wt) gn.ns gn.body (fun S => eb τ S) S) = _
    rw [hΓ]
    unfold lamTri
    cases isRet with
    | false =>
      show lamEnd T (ora0 (callF T Γ Wt j) Wt) dg.N.length l r ((eb τ S).bind fun _ S => .ok (.nx (List.replicate dg.N.length none)) S) = _
      unfold lamEnd thenS
      dsimp only
      generalize eb τ S = R
      cases R with
      | bad => rfl
      | ok d S' => rfl
      | exc x S' =>
        show fin ((handle T _ x l _ S').bind _) = fin ((handleEv T.sub x _ _ S').bind _)
        rw [handle_eq] <;> rfl
    | true =>
      show lamEnd T (ora0 (callF T Γ Wt j) Wt) dg.N.length l r ((eb τ S).bind fun d S => .ok (.ret d) S) = _
      unfold lamEnd thenS
      dsimp only
      generalize eb τ S = R
      cases R with
      | bad => rfl
      | ok d S' => rfl
      | exc x S' =>
        show fin ((handle T _ x l _ S').bind _) = fin ((handleEv T.sub x _ _ S').bind _)
        rw [handle_eq] <;> rfl
/-- all calls, level by level -/
theorem levels (mod : ModOk G K mg M T) (defs : ∀ i f, G.FA i = some f → ∃ (d : Df) (cdv : Value) (irs : List St), DefAt K d f cdv ∧ Γ[i]? = some ⟨d.ps.length, d.N.length, irs⟩ ∧ cSs 60 (M.cc d) d.body = some irs ∧ LamMk G base mg d cdv)
    (to : ∀ x i, M.lams.lookup x = some i → LamTo K mg M Γ x i) : ∀ j i f, G.FA i = some f → Prom P w K mg base (4 * j) f (spI G (callF T Γ Wt j i))
  | 0, i, f, h => by
    obtain ⟨d, cdv, irs, h1, _⟩ := defs i f h
    exact ⟨h1.1, fun A outer s H us vs Q E hr e0 r ⟨m, S, ds, c, rs, p⟩ => p.elim⟩
  | j + 1, i, f, h => by
    have ih := levels mod defs to j
    obtain ⟨d, cdv, irs, ⟨kp, Sf, params, dV, kV, doc, pm, ct, oc, an, od, osl, lk, hcd, bn⟩, hΓ, hc, mk⟩ := defs i f h
    have pr : Prom P w K mg base (4 * j + 3 + 1) f (spI G fun ds S => if ds.length = d.ps.length then fin (execs T (ora1 T Γ (callF T Γ Wt j) Wt) irs (RA.start d.N.length ds) S) else .bad) :=
      prom_of lk hcd Sf kp bn fun A outer s H E hr => (sndS (G := G) (T := T) 60).ss (stOk_def mod Sf.nd (hr.mono (by omega)) ih rfl rfl rfl rfl rfl fun _ x i ps body scope p lpos pos eb hx hg hn hps hl hb => lam_ok mod Sf.nd hr ih mk to x i ps body scope p lpos pos eb hx hg hn hps hl hb) hc
    have e : callF T Γ Wt (j + 1) i = fun ds S => if ds.length = d.ps.length then fin (execs T (ora1 T Γ (callF T Γ Wt j) Wt) irs (RA.start d.N.length ds) S) else .bad := by
      funext ds S
      show (match Γ[i]? with
        | none => Res.bad
        | some fn => if ds.length = fn.np then fin (execs T (ora1 T Γ (callF T Γ Wt j) Wt) fn.body (RA.start fn.ns ds) S) else .bad) = _
      rw [hΓ]
    rw [e]
    exact pr
end
end RA

set_option Elab.async false
set_option linter.all false
set_option maxRecDepth 100000
set_option maxHeartbeats 4000000
set_option autoImplicit false
/-! B20: the end: the law's own call. -/
namespace RA
open PySem PySem.Spec PyProof.Rows L2 LamX
section
variable {P : Program} {w : World} {K : PySem.W.Frag} {mg mb : Str → Option Value} {k : Nat} {fa a : Addr} {cs : List (Addr × Addr)} {sp : Sp} {s : Shared} {vs : List Value} {ns : List Int}
/-- tracked at the start: the tables, the script unless it is written -/
def hp0 (K : PySem.W.Frag) (a : Addr) (vs : List Value) (ns : List Int) (ts : List Addr) : Hp := fun b =>
  if b ∈ ts then some (.tbl #[]) else if b = a ∧ (K.lookup a).isNone = true then some (.frz { cls := .type "list", data := .seq vs.toArray } (.lst (ns.map V.int))) else none
theorem hp0_cases {ts : List Addr} {b : Addr} : (b ∈ ts ∧ hp0 K a vs ns ts b = some (.tbl #[])) ∨ (b ∉ ts ∧ b = a ∧ K.lookup a = none ∧ hp0 K a vs ns ts b = some (.frz { cls := .type "list", data := .seq vs.toArray } (.lst (ns.map V.int)))) ∨ (b ∉ ts ∧ ¬ (b = a ∧ K.lookup a = none) ∧ hp0 K a vs ns ts b = none) := by
  unfold hp0
  by_cases h1 : b ∈ ts
  · exact .inl ⟨h1, if_pos h1⟩
  · by_cases h2 : b = a ∧ (K.lookup a).isNone = true
    · exact .inr (.inl ⟨h1, h2.1, Option.isNone_iff_eq_none.mp h2.2, by rw [if_neg h1, if_pos h2]⟩)
    · exact .inr (.inr ⟨h1, fun z => h2 ⟨z.1, Option.isNone_iff_eq_none.mpr z.2⟩, by rw [if_neg h1, if_neg h2]⟩)
theorem law_end (KX : K.In s.heap) (gN : s.heap.Ns mainGlobals mg) (bN : s.heap.Ns builtinsNs mb) (bB : ∀ x : Str, x ≠ "__name__" → mb x = bootBuiltins x) (lim : s.heap.NoLimit) (hg : s.gens = #[])
    (tab : ∀ p ∈ cs, s.heap.get? p.2 = some { cls := .none, data := .fields #[] } ∧ K.lookup p.2 = none ∧ PySem.W.CodeHd s.heap p.1 p.2)
    (mod : ∃ (bm : Addr) (ob : Obj), mg "__builtins__" = some (.ref bm) ∧ bm ≠ builtinsNs ∧ s.heap.get? bm = some ob ∧ ob.cls = .type "module" ∧ ob.dict = some builtinsNs ∧ ob.data = .plain)
    (ha : s.heap.get? a = some { cls := .type "list", data := .seq vs.toArray }) (hi : IntsAre vs ns) (hl : ns.length ≤ sizeLine) (hr : RoomG k callerA)
    (F : ∀ base : Heap, K.In base → base.Ns mainGlobals mg → (∀ p ∈ cs, TabB base mg p.1 p.2) → Prom P w K mg base k fa sp)
    (hsp : ∀ H : Hp, (∀ p ∈ cs, H p.2 = some (.tbl #[])) → SqL K H a (ns.map V.int) → sp [.ref a] H (fun v _ => v = .bl true) fun _ _ _ => False) :
    codeAny (model P w) callerA (.call (.ref fa) ⟨[.ref a], []⟩) (fun r s' => r = .ok (.ret (.bool true)) ∧ OldK s.heap s'.heap ∧ s'.os = s.os ∧ AllBare s'.gens) s := by
  have rv := vals_ints hi
  have lv := hi.length
  let ts := cs.map (·.2)
  let H := hp0 K a vs ns ts
  have mem : ∀ {p}, p ∈ cs → p.2 ∈ ts := fun hp => List.mem_map.mpr ⟨_, hp, rfl⟩
  have tabs : ∀ {b}, b ∈ ts → s.heap.get? b = some { cls := .none, data := .fields #[] } ∧ K.lookup b = none ∧ ∃ c, (c, b) ∈ cs := fun hb => by
    obtain ⟨p, hp, e⟩ := List.mem_map.mp hb
    subst e
    exact ⟨(tab p hp).1, (tab p hp).2.1, p.1, hp⟩
  have na : a ∉ ts := fun z => by
    have q := (tabs z).1
    rw [ha] at q
    have := congrArg Obj.data (Option.some.inj q)
    cases this
  have cases_ : ∀ b, (b ∈ ts ∧ H b = some (.tbl #[])) ∨ (b ∉ ts ∧ b = a ∧ K.lookup a = none ∧ H b = some (.frz { cls := .type "list", data := .seq vs.toArray } (.lst (ns.map V.int)))) ∨ (b ∉ ts ∧ ¬ (b = a ∧ K.lookup a = none) ∧ H b = none) := fun b => hp0_cases
  -- what the heap tracks is there
  have hok : L2.HOk P w H s.heap := fun b u e => by
    rcases cases_ b with ⟨h1, h2⟩ | ⟨h1, h2, h3, h4⟩ | ⟨h1, h2, h3⟩
    · rw [h2] at e; cases e
      exact (tabs h1).1
    · rw [h4] at e; cases e
      subst h2
      exact ⟨ha, by rw [List.length_map]; exact hl, vs, _, rv, ha⟩
    · rw [h3] at e; cases e
  have tH : ∀ p ∈ cs, H p.2 = some (.tbl #[]) := fun p hp => by
    rcases cases_ p.2 with z | z | z
    · exact z.2
    · exact absurd (mem hp) z.1
    · exact absurd (mem hp) z.1
  have sq : SqL K H a (ns.map V.int) := by
    cases e : K.lookup a with
    | none =>
      rcases cases_ a with z | z | z
      · exact absurd z.1 na
      · exact .inl (.inr ⟨_, z.2.2.2⟩)
      · exact absurd ⟨rfl, e⟩ z.2.1
    | some o =>
      have q := KX a o e
      rw [ha] at q
      cases q
      exact .inr ⟨_, vs.toArray, _, e, rfl, rfl, rfl, by rw [List.size_toArray, lv]; exact hl, by simpa using rv⟩
  -- what is neither a list nor an empty table is not tracked
  have plain : ∀ {b o}, s.heap.get? b = some o → (∀ xs n, o.data ≠ .seq xs n) → o.data ≠ .fields #[] → H b = none := fun {b o} e h1 h2 => by
    rcases cases_ b with z | z | z
    · rw [(tabs z.1).1] at e; cases e
      exact absurd rfl h2
    · rw [z.2.1, ha] at e; cases e
      exact absurd rfl (h1 _ _)
    · exact z.2.2
  have ofN : ∀ {b : Addr} {m : Str → Option Value}, s.heap.Ns b m → (hidT s.heap H).Ns b m := by
    rintro b m ⟨o, es, ep, e, d, r⟩
    refine ⟨o, es, ep, hidT_get e (plain e ?_ ?_), d, r⟩
    · intro xs n z; rw [d] at z; cases z
    · intro z; rw [d] at z; cases z
  have KB : K.In (hidT s.heap H) := fun b o e => hidT_get (KX b o e) (by
    rcases cases_ b with z | z | z
    · rw [(tabs z.1).2.1] at e; cases e
    · rw [z.2.1, z.2.2.1] at e; cases e
    · exact z.2.2)
  have TB : ∀ p ∈ cs, TabB (hidT s.heap H) mg p.1 p.2 := fun p hp => by
    obtain ⟨t1, _, t3⟩ := tab p hp
    refine ⟨?_, ?_, ?_⟩
    · obtain ⟨o, us, file, tf, flags, tg, inF, text, tt, e1, r1, r2, r3, r4⟩ := t3
      refine ⟨o, us, file, tf, flags, tg, inF, text, tt, hidT_get e1 (plain e1 ?_ ?_), r1, r2, r3, r4⟩
      · intro xs n z; rw [r2] at z; cases z
      · intro z; rw [r2] at z; cases z; simp at r3
    · obtain ⟨bm, ob, b1, b2, b3, b4, b5, b6⟩ := mod
      refine ⟨bm, ob, b1, b2, ?_, ?_, hidT_get b3 (plain b3 ?_ ?_), b4, b5, b6⟩
      · intro q
        obtain ⟨o, es, ep, e, hd, _⟩ := gN
        rw [q, e] at b3; cases b3
        rw [hd] at b6; cases b6
      · intro q; rw [q, t1] at b3; cases b3; cases b6
      · intro xs n z; rw [b6] at z; cases z
      · intro z; rw [b6] at z; cases z
    · intro z
      obtain ⟨o, es, ep, e, hd, _⟩ := gN
      rw [z, t1] at e; cases e; cases hd
  have e0 : Env0 P w K mg (hidT s.heap H) callerA [] s H :=
    { frames := rfl, mod := ⟨KB, ofN gN, ⟨mb, ofN bN, bB⟩, lim.elim fun mc z => ⟨mc, ofN z.1, z.2⟩⟩, bs := fun b o e => of_hidT e, bsz := Nat.le_of_eq (hidT_size _ _), funs := trivial, frf := fun b hb => (nomatch hb), hok := hok, bare := .of_eq hg }
  refine codeAny_mono ((F _ KB (ofN gN) TB).run callerA [] s H [.ref a] [.ref a] _ _ hr e0 (.cons rfl .nil) (hsp H tH sq)) fun r s' h => ?_
  match r, h with
  | .error e, ⟨_, _, _, _, _, _, _, _, _, _, _, _, z⟩ => exact z.elim
  | .ok (.ret u), ⟨v, H', os, bare, un, hok', ru, q⟩ =>
    have q' : v = .bl true := q
    subst q'
    obtain rfl : u = Value.bool true := ru
    have stays : ∀ {b o}, b ∉ ts → s.heap.get? b = some o → s'.heap.get? b = some o := fun {b o} nb e => by
      rcases cases_ b with z | z | z
      · exact absurd z.1 nb
      · have f2 := un.frzs b _ _ z.2.2.2
        have e1 := (hok b _ z.2.2.2).1
        have e2 := (hok' b _ f2).1
        rw [e] at e1; cases e1
        exact e2
      · exact un.keep b o e z.2.2 (fun z => nomatch z) (fun z => nomatch z)
    have grows : ∀ {b}, b ∈ ts → ∃ more : Array Value, s'.heap.get? b = some { cls := .none, data := .fields more } := fun {b} hb => by
      obtain ⟨p, hp, rfl⟩ := List.mem_map.mp hb
      obtain ⟨more, z⟩ := un.tbls p.2 #[] (tH p hp)
      exact ⟨_, hok' _ _ z⟩
    refine ⟨rfl, ⟨fun b o e => ?_, fun b o e => ?_⟩, os, bare⟩
    all_goals by_cases hb : b ∈ ts
    · obtain ⟨t1, t2, c, hc⟩ := tabs hb
      obtain ⟨more, hm⟩ := grows hb
      rw [t1] at e; cases e
      exact .inr (.inl ⟨((tab _ hc).2.2.tab t1).isCodeTable, rfl, #[], more, rfl, by rw [Array.empty_append]; exact hm⟩)
    · exact .inl (stays hb e)
    · obtain ⟨more, hm⟩ := grows hb
      exact ⟨_, hm⟩
    · exact ⟨o, stays hb e⟩
end
/-- the law's promise at the heap h, the tables that it uses -/
def LawP (l : PySem.W.OpenLaw) (w : World) (K : PySem.W.Frag) (k n : Nat) (mg : Str → Option Value) (fa : Addr) (h : Heap) : Prop :=
  ∃ (cs : List (Addr × Addr)) (sp : Sp), (∀ p ∈ cs, h.get? p.2 = some { cls := .none, data := .fields #[] } ∧ K.lookup p.2 = none ∧ PySem.W.CodeHd h p.1 p.2) ∧
    (∀ (H : Hp) (a : Addr) (ns : List Int), ns.length ≤ n → (∀ z ∈ ns, Builtin.Int.intBits z ≤ 1048576) → (∀ p ∈ cs, H p.2 = some (.tbl #[])) → SqL K H a (ns.map V.int) → sp [.ref a] H (fun v _ => v = .bl true) fun _ _ _ => False) ∧
    ∀ base : Heap, K.In base → base.Ns mainGlobals mg → (∀ p ∈ cs, TabB base mg p.1 p.2) → Prom l.prog w K mg base k fa sp
theorem walk_end {l : PySem.W.OpenLaw} {n k : Nat} {q : Program} {loose : List Str} {XP : (Str → Option Value) → Heap → Prop} {YP : World → Heap → Prop} {d : DefRec} {K : Params → PySem.W.Frag}
    (hn : l.most = some n) (hn2 : n ≤ sizeLine) (hdf : d.params.defaults = []) (hr : RoomG k callerA) (hY : ∀ (w : World) (h : Heap), YP w h → (K w.params).In h)
    (F : ∀ (w : World) (s₀ : Shared) (mg mb : Str → Option Value) (fa : Addr) (h : Heap), PyProof.Rows.Top q (PySem.W.looseW q loose) (ExcName.means s₀.heap) mg mb h → YP w h → (K w.params).In h → h.Ns mainGlobals mg → mg d.name = some (.ref fa) → LawP l w (K w.params) k n mg fa h) :
    PySem.W.WalkO q loose XP YP l.row.toRowW d [] (fun f vs => PySem.call f vs) := by
  refine Att.attach_callB hn hdf ?_
  intro w s₀ s₁ mg mb fa o pm cd doc a vs ns G Y ho hd hcd hmg hobj hints hlen hbits hg
  obtain ⟨cs, sp, h1, h2, h3⟩ := F w s₀ mg mb fa _ G.T Y (hY w _ Y) G.T.g hmg
  exact law_end (hY w _ Y) G.T.g G.T.b G.T.builtins G.T.nolimit hg h1 G.T.bmain hobj hints (Nat.le_trans hlen hn2) hr h3 fun H tH sq => h2 H a ns hlen hbits tH sq
/-- what the interpreter's answer gives -/
theorem law_sp {G : Gd} {K : PySem.W.Frag} (hK : K = G.K) {ev : List D → Store → Res D} {H : Hp} {a : Addr} {ns : List Int} (ht : Tabs G.T H) (sq : SqL K H a (ns.map V.int)) (h : ∃ S, ev [.ro (ns.map D.int)] [] = .ok (.bl true) S) :
    spI G ev [.ref a] H (fun v _ => v = .bl true) fun _ _ _ => False := by
  obtain ⟨S, e⟩ := h
  refine ⟨⟨[], []⟩, [], [.ro (ns.map D.int)], ⟨rfl, List.nodup_nil, fun n ds h => (by cases h), (fun a h => nomatch h), ht⟩, .cons (.ro ?_ (VRs.of_ints ns)) .nil, ?_⟩
  · rcases hK ▸ sq with z | z
    · exact .inl ⟨z, ⟨(fun z => nomatch z), (fun z => nomatch z)⟩⟩
    · exact .inr z
  · rw [e]
    intro v m' H' c st r
    cases r
    rfl
end RA

set_option Elab.async false
set_option linter.all false
set_option maxRecDepth 100000
set_option maxHeartbeats 4000000
set_option autoImplicit false
/-! B21: small things for a law's head. -/
namespace RA
open PySem PySem.Spec PyProof.Rows L2 LamX
theorem all_nil {α : Type} {Q : Str → α → Prop} : ∀ x d, ([] : List (Str × α)).lookup x = some d → Q x d := fun x d h => by cases h
theorem all_cons {α : Type} {Q : Str → α → Prop} {y : Str} {e : α} {l : List (Str × α)} (h : Q y e) (t : ∀ x d, l.lookup x = some d → Q x d) : ∀ x d, ((y, e) :: l).lookup x = some d → Q x d := fun x d q => by
  rw [List.lookup_cons] at q
  by_cases hx : (x == y) = true
  · rw [hx] at q
    cases q
    rw [eq_of_beq hx]
    exact h
  · have hx' : (x == y) = false := by simpa using hx
    rw [hx'] at q
    exact t x d q
/-- from the place k on -/
def AllIx {α : Type} (l : List (Option α)) (k : Nat) (Q : Nat → α → Prop) : Prop := ∀ i a, l[i]? = some (some a) → Q (k + i) a
theorem AllIx.nil {α : Type} {k : Nat} {Q : Nat → α → Prop} : AllIx [] k Q := fun i a h => by simp at h
theorem AllIx.some {α : Type} {l : List (Option α)} {k : Nat} {b : α} {Q : Nat → α → Prop} (h : Q k b) (t : AllIx l (k + 1) Q) : AllIx (Option.some b :: l) k Q := fun i a e => by
  cases i with
  | zero => cases e; exact h
  | succ i =>
    have := t i a (by simpa using e)
    rw [show k + (i + 1) = k + 1 + i from by omega]; exact this
theorem AllIx.none {α : Type} {l : List (Option α)} {k : Nat} {Q : Nat → α → Prop} (t : AllIx l (k + 1) Q) : AllIx (Option.none :: l) k Q := fun i a e => by
  cases i with
  | zero => cases e
  | succ i =>
    have := t i a (by simpa using e)
    rw [show k + (i + 1) = k + 1 + i from by omega]; exact this
theorem AllIx.get {α : Type} {l : List (Option α)} {Q : Nat → α → Prop} (h : AllIx l 0 Q) : ∀ i a, l.getD i Option.none = Option.some a → Q i a := fun i a e => by
  have : l[i]? = Option.some (Option.some a) := by
    rw [List.getD_eq_getElem?_getD] at e
    cases q : l[i]? with
    | none => rw [q] at e; cases e
    | some o => rw [q] at e; exact congrArg Option.some e
  have := h i a this
  rwa [Nat.zero_add] at this
def bltNames : List Str := ["len", "abs", "max", "min", "sum", "all", "any", "tuple", "list", "int", "str", "repr", "isinstance", "bool", "dict", "range"]
theorem free_of {mg : Str → Option Value} (h : ∀ y ∈ bltNames, mg y = none) : ∀ x, (bltOf x ≠ none ∨ tyName x ≠ none ∨ x = "range") → mg x = none := fun x hx => by
  have mem : x ∈ bltNames := by
    rcases hx with hx | hx | hx
    · cases e : bltOf x with
      | none => exact absurd e hx
      | some f => rcases blt_cases e with ⟨z, _⟩ | ⟨z, _⟩ | ⟨z, _⟩ | ⟨z, _⟩ | ⟨z, _⟩ | ⟨z, _⟩ | ⟨z, _⟩ | ⟨z, _⟩ | ⟨z, _⟩ | ⟨z, _⟩ | ⟨z, _⟩ | ⟨z, _⟩ | ⟨z, _⟩ <;> (rw [z]; decide +kernel)
    · cases e : tyName x with
      | none => exact absurd e hx
      | some f => rcases ty_cases e with ⟨z, _⟩ | ⟨z, _⟩ | ⟨z, _⟩ | ⟨z, _⟩ | ⟨z, _⟩ | ⟨z, _⟩ <;> (rw [z]; decide +kernel)
    · rw [hx]; decide +kernel
  exact h x mem
theorem mem_nil {mg : Str → Option Value} : ∀ y ∈ ([] : List Str), mg y = none := fun y h => nomatch h
theorem mem_cons {mg : Str → Option Value} {x : Str} {l : List Str} (h : mg x = none) (t : ∀ y ∈ l, mg y = none) : ∀ y ∈ x :: l, mg y = none := fun y hy => by
  rcases List.mem_cons.mp hy with e | e
  · rw [e]; exact h
  · exact t y e
theorem exm_mk {K : PySem.W.Frag} {c c' : Addr} {v : Bool} (b : PySem.W.subIn K (.ref c') (.type "BaseException") = some true) (i : PySem.W.isClsIn K c' = true) (t : PySem.W.typeIn K (.ref c') = some (.type "type")) (s : PySem.W.subIn K (.ref c) (.ref c') = some v) : PySem.W.exmOne K (.ref c) (.ref c') = some v := by
  unfold PySem.W.exmOne
  rw [b, if_pos (by decide)]
  unfold PySem.W.kitCls
  have i' : (PySem.W.clsIn K c').isSome = true := i
  dsimp only
  rw [i', t, if_pos (by decide)]
  exact s
theorem roomG_caller {k : Nat} (h : L2.Room k callerA) : RoomG k callerA := ⟨h, rfl⟩
end RA

set_option Elab.async false
set_option linter.all false
set_option maxRecDepth 100000
set_option maxHeartbeats 4000000
set_option autoImplicit false
namespace Law
open PySem PySem.Spec PyProof.Rows L2 LamX RA
def top (i : Nat) : Stmt := PySem.Challenge.pw_roundsalike_k21_whole_rounds.main.body.getD i (.Pass ⟨0, 0, 0, 0⟩)
def MD : Md := ⟨[("is_name", 0), ("is_days", 1), ("require_days", 2), ("period_in", 3), ("rotations_in", 4), ("form_in", 5), ("form", 6), ("are_one_round", 7), ("root", 8), ("turned_days", 9), ("rotations", 10), ("_law_dice", 11), ("_law_roll", 12), ("_law_pick", 13), ("_law_shuffled", 14), ("_law_turns", 15), ("_law_root", 16), ("_law_drawn", 17), ("_law_right", 18), ("_law_refusals_right", 20), ("law", 21)], [("MAX_NAME", .int 12), ("FIRST_SIGNS", .str ("abcdefghijklmnopqrstuvwxyz" : Str)), ("NEXT_SIGNS", .str ("abcdefghijklmnopqrstuvwxyz0123456789." : Str)), ("MAX_DAYS", .int 400), ("MAX_LISTED", .int 12)], [("RotaError", 0), ("InvalidRound", 1)], [("_law_refused", 19)]⟩
def D0 : Df := ⟨"is_name", ["value"], ["value", "sign"], defScope (top 7), defBody (top 7), [], false⟩
def D1 : Df := ⟨"is_days", ["value"], ["value", "one"], defScope (top 11), defBody (top 11), [], false⟩
def D2 : Df := ⟨"require_days", ["days"], ["days"], defScope (top 12), defBody (top 12), [], false⟩
def D3 : Df := ⟨"period_in", ["days"], ["days", "many", "long"], defScope (top 13), defBody (top 13), [], false⟩
def D4 : Df := ⟨"rotations_in", ["days"], ["days", "at"], defScope (top 14), defBody (top 14), [], false⟩
def D5 : Df := ⟨"form_in", ["days"], ["days"], defScope (top 15), defBody (top 15), [], false⟩
def D6 : Df := ⟨"form", ["days"], ["days"], defScope (top 16), defBody (top 16), [], false⟩
def D7 : Df := ⟨"are_one_round", ["one", "other"], ["one", "other"], defScope (top 17), defBody (top 17), [], false⟩
def D8 : Df := ⟨"root", ["days"], ["days", "long"], defScope (top 18), defBody (top 18), [], false⟩
def D9 : Df := ⟨"turned_days", ["days"], ["days"], defScope (top 19), defBody (top 19), [], false⟩
def D10 : Df := ⟨"rotations", ["days"], ["days"], defScope (top 20), defBody (top 20), [], false⟩
def D11 : Df := ⟨"_law_dice", ["script", "spot"], ["script", "spot", "cell", "great", "seed"], defScope (top 22), defBody (top 22), [(54, 11)], false⟩
def D12 : Df := ⟨"_law_roll", ["dice", "total"], ["dice", "total", "found", "one", "two"], defScope (top 23), defBody (top 23), [], false⟩
def D13 : Df := ⟨"_law_pick", ["dice", "items"], ["dice", "items"], defScope (top 24), defBody (top 24), [], false⟩
def D14 : Df := ⟨"_law_shuffled", ["dice", "items"], ["dice", "items", "found", "left"], defScope (top 25), defBody (top 25), [(67, 19), (67, 23)], false⟩
def D15 : Df := ⟨"_law_turns", ["days"], ["days", "found", "at"], defScope (top 26), defBody (top 26), [(72, 12)], false⟩
def D16 : Df := ⟨"_law_root", ["days"], ["days", "many"], defScope (top 27), defBody (top 27), [], false⟩
def D17 : Df := ⟨"_law_drawn", ["dice"], ["dice", "names", "days", "turn"], defScope (top 28), defBody (top 28), [], false⟩
def D18 : Df := ⟨"_law_right", ["dice"], ["dice", "days", "other", "turns", "told", "due", "at", "some", "one"], defScope (top 29), defBody (top 29), [], false⟩
def D19 : Df := ⟨"_law_refused", ["call"], ["call"], defScope (top 30), defBody (top 30), [], false⟩
def D20 : Df := ⟨"_law_refusals_right", ["dice"], ["dice", "bad", "value", "call", "long", "told"], defScope (top 31), defBody (top 31), [], true⟩
def D21 : Df := ⟨"law", ["script"], ["script", "spot", "dice", "turn"], defScope (top 32), defBody (top 32), [], false⟩
def I0 : List RA.St := [(.ite (.or (.not (.bcall .isinst [(.var 0), (.con (.ty "str"))])) (.or (.not (.chain .le .le (.con (.int 1)) (.bcall .len [(.var 0)]) (.con (.int 12)))) (.cmp .nin (.sub (.var 0) (.con (.int 0))) (.con (.str ("abcdefghijklmnopqrstuvwxyz" : Str)))))) [(.ret (.con (.bl false)))] []),     (.ret (.bcall .all [(.comp [1] false [1] .val [(.var 0)] (.con (.bl true)) (.cmp .isin (.var 1) (.con (.str ("abcdefghijklmnopqrstuvwxyz0123456789." : Str)))))]))]
def F0 : Fn := ⟨1, 2, I0⟩
def I1 : List RA.St := [(.ret (.and (.bcall .isinst [(.var 0), (.con (.ty "tuple"))]) (.and (.chain .le .le (.con (.int 1)) (.bcall .len [(.var 0)]) (.con (.int 400))) (.bcall .all [(.comp [1] false [1] .val [(.var 0)] (.con (.bl true)) (.call 0 [(.var 1)]))]))))]
def F1 : Fn := ⟨1, 2, I1⟩
def I2 : List RA.St := [(.ite (.not (.call 1 [(.var 0)])) [(.raise 1 [])] [])]
def F2 : Fn := ⟨1, 1, I2⟩
def I3 : List RA.St := [(.asg 1 (.bcall .len [(.var 0)])),     (.loop false [2] .rng2 [(.con (.int 1)), (.var 1)] [(.ite (.and (.cmp .eq (.bin .mod (.var 1) (.var 2)) (.con (.int 0))) (.cmp .eq (.bin .mul (.slice (.var 0) (.con .non) (.ofInt (.var 2))) (.bin .fdiv (.var 1) (.var 2))) (.var 0))) [(.ret (.var 2))] [])]),     (.ret (.var 1))]
def F3 : Fn := ⟨1, 3, I3⟩
def I4 : List RA.St := [(.ret (.comp [1] false [1] .rng1 [(.call 3 [(.var 0)])] (.con (.bl true)) (.bin .add (.slice (.var 0) (.ofInt (.var 1)) (.con .non)) (.slice (.var 0) (.con .non) (.ofInt (.var 1))))))]
def F4 : Fn := ⟨1, 2, I4⟩
def I5 : List RA.St := [(.ret (.bcall .min [(.call 4 [(.var 0)])]))]
def F5 : Fn := ⟨1, 1, I5⟩
def I6 : List RA.St := [(.exp (.call 2 [(.var 0)])),     (.ret (.call 5 [(.var 0)]))]
def F6 : Fn := ⟨1, 1, I6⟩
def I7 : List RA.St := [(.exp (.call 2 [(.var 0)])),     (.exp (.call 2 [(.var 1)])),     (.ret (.cmp .eq (.call 5 [(.var 0)]) (.call 5 [(.var 1)])))]
def F7 : Fn := ⟨2, 2, I7⟩
def I8 : List RA.St := [(.exp (.call 2 [(.var 0)])),     (.asg 1 (.call 3 [(.var 0)])),     (.ret (.tup [(.slice (.var 0) (.con .non) (.ofInt (.var 1))), (.bin .fdiv (.bcall .len [(.var 0)]) (.var 1))]))]
def F8 : Fn := ⟨1, 2, I8⟩
def I9 : List RA.St := [(.exp (.call 2 [(.var 0)])),     (.ret (.rev (.var 0)))]
def F9 : Fn := ⟨1, 1, I9⟩
def I10 : List RA.St := [(.exp (.call 2 [(.var 0)])),     (.ret (.bcall .tuple [(.call 4 [(.var 0)])]))]
def F10 : Fn := ⟨1, 1, I10⟩
def I11 : List RA.St := [(.asg 2 (.ife (.cmp .lt (.var 1) (.bcall .len [(.var 0)])) (.bcall .int [(.sub (.var 0) (.var 1))]) (.bin .add (.bin .mul (.con (.int 131)) (.var 1)) (.con (.int 37))))),     (.asg 3 (.bin .mod (.bcall .int [(.bcall .abs [(.var 2)])]) (.bin .pow (.bin .pow (.con (.int 10)) (.con (.int 53))) (.con (.int 6))))),     (.asg 4 (.bin .add (.bin .add (.bin .add (.bin .mul (.bin .mod (.var 3) (.con (.int 2305843009213693907))) (.con (.int 73))) (.bin .mul (.con (.int 619)) (.var 1))) (.bin .mul (.con (.int 41)) (.bcall .int [(.cmp .lt (.var 2) (.con (.int 0)))]))) (.con (.int 17)))),     (.ret (.new (.lst [(.bcall .max [(.con (.int 0)), (.bin .sub (.var 3) (.bin .pow (.con (.int 10)) (.con (.int 16))))]), (.var 4), (.con (.int 0))])))]
def F11 : Fn := ⟨2, 5, I11⟩
def I12 : List RA.St := [(.ite (.cmp .gt (.sub (.var 0) (.con (.int 0))) (.con (.int 0))) [(.asg 2 (.bin .mod (.sub (.var 0) (.con (.int 0))) (.var 1))),     (.seti (.var 0) (.con (.int 0)) (.bin .fdiv (.sub (.var 0) (.con (.int 0))) (.var 1))),     (.ret (.bcall .int [(.var 2)]))] []),     (.seti (.var 0) (.con (.int 2)) (.bin .add (.sub (.var 0) (.con (.int 2))) (.con (.int 1)))),     (.asg 3 (.bin .mod (.bin .add (.sub (.var 0) (.con (.int 1))) (.bin .mul (.con (.int 49979687)) (.sub (.var 0) (.con (.int 2))))) (.con (.int 2305843009213693951)))),     (.asg 4 (.bin .add (.bin .mul (.bin .mod (.bin .add (.bin .mul (.var 3) (.var 3)) (.bin .mul (.con (.int 131)) (.sub (.var 0) (.con (.int 2))))) (.con (.int 2305843009213693921))) (.con (.int 32452843))) (.var 3))),     (.ret (.bin .mod (.bcall .int [(.bin .fdiv (.var 4) (.con (.int 65587)))]) (.var 1)))]
def F12 : Fn := ⟨2, 5, I12⟩
def I13 : List RA.St := [(.ret (.sub (.var 1) (.call 12 [(.var 0), (.bcall .len [(.var 1)])])))]
def F13 : Fn := ⟨2, 2, I13⟩
def I14 : List RA.St := [(.par [2, 3] [(.new (.lst [])), (.new (.bcall .list [(.var 1)]))]),     (.while (.cmp .ne (.var 3) (.lst [])) [(.exp (.append (.var 2) (.pop (.var 3) (.call 12 [(.var 0), (.bcall .len [(.var 3)])]))))]),     (.ret (.var 2))]
def F14 : Fn := ⟨2, 4, I14⟩
def I15 : List RA.St := [(.asg 1 (.new (.lst []))),     (.loop false [2] .rng1 [(.bcall .len [(.var 0)])] [(.ite (.cmp .nin (.bin .add (.slice (.var 0) (.ofInt (.var 2)) (.con .non)) (.slice (.var 0) (.con .non) (.ofInt (.var 2)))) (.var 1)) [(.exp (.append (.var 1) (.bin .add (.slice (.var 0) (.ofInt (.var 2)) (.con .non)) (.slice (.var 0) (.con .non) (.ofInt (.var 2))))))] [])]),     (.ret (.var 1))]
def F15 : Fn := ⟨1, 3, I15⟩
def I16 : List RA.St := [(.loop false [1] .rng2 [(.con (.int 1)), (.bin .add (.bcall .len [(.var 0)]) (.con (.int 1)))] [(.ite (.and (.cmp .eq (.bin .mod (.bcall .len [(.var 0)]) (.var 1)) (.con (.int 0))) (.cmp .eq (.bin .mul (.slice (.var 0) (.con .non) (.ofInt (.var 1))) (.bin .fdiv (.bcall .len [(.var 0)]) (.var 1))) (.var 0))) [(.ret (.tup [(.slice (.var 0) (.con .non) (.ofInt (.var 1))), (.bin .fdiv (.bcall .len [(.var 0)]) (.var 1))]))] [])]),     (.ret (.tup [(.var 0), (.con (.int 1))]))]
def F16 : Fn := ⟨1, 2, I16⟩
def I17 : List RA.St := [(.asg 1 (.slice (.call 14 [(.var 0), (.lst [(.con (.str ("a" : Str))), (.con (.str ("b" : Str))), (.con (.str ("a." : Str))), (.con (.str ("ab" : Str))), (.con (.str ("day" : Str))), (.con (.str ("z9" : Str)))])]) (.con .non) (.ofInt (.bin .add (.con (.int 1)) (.call 12 [(.var 0), (.con (.int 3))]))))),     (.asg 2 (.bcall .tuple [(.comp [3] false [3] .rng1 [(.bin .add (.con (.int 1)) (.call 12 [(.var 0), (.con (.int 7))]))] (.con (.bl true)) (.call 13 [(.var 0), (.var 1)]))])),     (.ret (.ife (.cmp .eq (.call 12 [(.var 0), (.con (.int 2))]) (.con (.int 0))) (.bin .mul (.var 2) (.bin .add (.con (.int 1)) (.call 12 [(.var 0), (.con (.int 2))]))) (.var 2)))]
def F17 : Fn := ⟨1, 4, I17⟩
def I18 : List RA.St := [(.par [1, 2] [(.call 17 [(.var 0)]), (.call 17 [(.var 0)])]),     (.asg 3 (.call 15 [(.var 1)])),     (.asg 4 (.lst [(.call 6 [(.var 1)]), (.call 8 [(.var 1)]), (.call 10 [(.var 1)]), (.call 9 [(.var 1)]), (.call 6 [(.call 13 [(.var 0), (.var 3)])]), (.call 1 [(.var 1)])])),     (.asg 5 (.lst [(.bcall .min [(.var 3)]), (.call 16 [(.var 1)]), (.bcall .tuple [(.var 3)]), (.rev (.var 1)), (.bcall .min [(.var 3)]), (.con (.bl true))])),     (.ite (.or (.cmp .ne (.bcall .repr [(.var 4)]) (.bcall .repr [(.var 5)])) (.or (.cmp .ne (.bcall .len [(.var 3)]) (.bcall .len [(.sub (.call 16 [(.var 1)]) (.con (.int 0)))])) (.cmp .ne (.bin .mul (.bcall .len [(.var 3)]) (.sub (.call 16 [(.var 1)]) (.con (.int 1)))) (.bcall .len [(.var 1)])))) [(.ret (.con (.bl false)))] []),     (.asg 6 (.call 12 [(.var 0), (.bcall .len [(.var 1)])])),     (.asg 7 (.lst [(.var 2), (.bin .add (.var 1) (.slice (.var 1) (.con .non) (.ofInt (.con (.int 1))))), (.rev (.var 1)), (.bin .add (.bin .add (.slice (.var 1) (.con .non) (.ofInt (.var 6))) (.tup [(.con (.str ("q" : Str)))])) (.slice (.var 1) (.ofInt (.bin .add (.var 6) (.con (.int 1)))) (.con .non))), (.call 13 [(.var 0), (.var 3)]), (.bin .mul (.var 1) (.con (.int 2)))])),     (.loop false [8] .val [(.var 7)] [(.ite (.cmp .ne (.bcall .repr [(.lst [(.call 7 [(.var 1), (.var 8)]), (.call 7 [(.var 8), (.var 1)])])]) (.bcall .repr [(.bin .mul (.lst [(.cmp .isin (.var 8) (.var 3))]) (.con (.int 2)))])) [(.ret (.con (.bl false)))] [])]),     (.ret (.cmp .eq (.bcall .repr [(.call 6 [(.bin .mul (.var 1) (.con (.int 3)))])]) (.bcall .repr [(.bin .mul (.bcall .min [(.var 3)]) (.con (.int 3)))])))]
def F18 : Fn := ⟨1, 9, I18⟩
def I19 : List RA.St := [(.tri [(.exp .thunk)] [(.mk 1 none [(.ret (.con (.bl true)))])]),     (.ret (.con (.bl false)))]
def F19 : Fn := ⟨1, 1, I19⟩
def I20 : List RA.St := [(.asg 1 (.lst [(.con .non), (.tup []), (.con (.str ("a" : Str))), (.lst [(.con (.str ("a" : Str)))]), (.tup [(.con (.str ("a" : Str))), (.con (.str ("" : Str)))]), (.tup [(.con (.str ("A" : Str)))]), (.tup [(.con (.int 0))]), (.tup [(.con .non)]), (.bin .mul (.tup [(.con (.str ("a" : Str)))]) (.con (.int 401))), (.con (.vd [] [])), (.con (.int 0)), (.tup [(.tup [(.con (.str ("a" : Str)))])]), (.tup [(.bin .mul (.con (.str ("a" : Str))) (.con (.int 13)))])])),     (.loop false [2] .val [(.var 1)] [(.ite (.cmp .isn (.call 1 [(.var 2)]) (.con (.bl false))) [(.ret (.con (.bl false)))] []),     (.loop false [3] .val [(.tup [(.con (.fn 6)), (.con (.fn 8)), (.con (.fn 10)), (.con (.fn 9))])] [(.ite (.not (.lam 19 (.callv (.var 3) [(.var 2)]))) [(.ret (.con (.bl false)))] [])]),     (.ite (.not (.lam 19 (.call 7 [(.var 2), (.tup [(.con (.str ("a" : Str)))])]))) [(.ret (.con (.bl false)))] []),     (.ite (.not (.lam 19 (.call 7 [(.tup [(.con (.str ("a" : Str)))]), (.var 2)]))) [(.ret (.con (.bl false)))] [])]),     (.asg 4 (.bin .add (.bin .add (.tup [(.con (.str ("b" : Str)))]) (.bin .mul (.tup [(.con (.str ("a" : Str)))]) (.con (.int 398)))) (.tup [(.con (.str ("b" : Str)))]))),     (.asg 5 (.lst [(.call 1 [(.var 4)]), (.call 6 [(.var 4)]), (.call 8 [(.bin .mul (.tup [(.con (.str ("a" : Str))), (.con (.str ("b" : Str)))]) (.con (.int 200)))])])),     (.ret (.cmp .eq (.var 5) (.lst [(.con (.bl true)), (.bin .add (.bin .mul (.tup [(.con (.str ("a" : Str)))]) (.con (.int 398))) (.tup [(.con (.str ("b" : Str))), (.con (.str ("b" : Str)))])), (.tup [(.tup [(.con (.str ("a" : Str))), (.con (.str ("b" : Str)))]), (.con (.int 200))])])))]
def F20 : Fn := ⟨1, 6, I20⟩
def I21 : List RA.St := [(.loop false [1] .rng1 [(.bcall .max [(.con (.int 1)), (.bcall .min [(.con (.int 8)), (.bcall .len [(.var 0)])])])] [(.asg 2 (.call 11 [(.var 0), (.var 1)])),     (.ite (.cmp .ne (.comp [3] false [3] .rng1 [(.con (.int 4))] (.not (.call 18 [(.var 2)])) (.var 3)) (.lst [])) [(.ret (.con (.bl false)))] [])]),     (.ret (.and (.cmp .eq (.con (.int 400)) (.con (.int 400))) (.and (.cmp .eq (.con (.int 12)) (.con (.int 12))) (.call 20 [(.call 11 [(.var 0), (.con (.int 0))])]))))]
def F21 : Fn := ⟨1, 4, I21⟩
def GA : List Fn := [F0, F1, F2, F3, F4, F5, F6, F7, F8, F9, F10, F11, F12, F13, F14, F15, F16, F17, F18, F19, F20, F21]
def TC : Cls := ⟨fun i j => [(0, 0), (1, 0), (1, 1)].contains (i, j), fun _ => []⟩
set_option maxRecDepth 100000
theorem ci0 : cSs 60 (MD.cc D0) D0.body = some I0 := by kernel_rfl
theorem sc0 : FnScope D0.N D0.ps D0.scope := ⟨rfl, rfl, rfl, by decide +kernel, rfl, by decide +kernel, by decide +kernel⟩
theorem ci1 : cSs 60 (MD.cc D1) D1.body = some I1 := by kernel_rfl
theorem sc1 : FnScope D1.N D1.ps D1.scope := ⟨rfl, rfl, rfl, by decide +kernel, rfl, by decide +kernel, by decide +kernel⟩
theorem ci2 : cSs 60 (MD.cc D2) D2.body = some I2 := by kernel_rfl
theorem sc2 : FnScope D2.N D2.ps D2.scope := ⟨rfl, rfl, rfl, by decide +kernel, rfl, by decide +kernel, by decide +kernel⟩
theorem ci3 : cSs 60 (MD.cc D3) D3.body = some I3 := by kernel_rfl
theorem sc3 : FnScope D3.N D3.ps D3.scope := ⟨rfl, rfl, rfl, by decide +kernel, rfl, by decide +kernel, by decide +kernel⟩
theorem ci4 : cSs 60 (MD.cc D4) D4.body = some I4 := by kernel_rfl
theorem sc4 : FnScope D4.N D4.ps D4.scope := ⟨rfl, rfl, rfl, by decide +kernel, rfl, by decide +kernel, by decide +kernel⟩
theorem ci5 : cSs 60 (MD.cc D5) D5.body = some I5 := by kernel_rfl
theorem sc5 : FnScope D5.N D5.ps D5.scope := ⟨rfl, rfl, rfl, by decide +kernel, rfl, by decide +kernel, by decide +kernel⟩
theorem ci6 : cSs 60 (MD.cc D6) D6.body = some I6 := by kernel_rfl
theorem sc6 : FnScope D6.N D6.ps D6.scope := ⟨rfl, rfl, rfl, by decide +kernel, rfl, by decide +kernel, by decide +kernel⟩
theorem ci7 : cSs 60 (MD.cc D7) D7.body = some I7 := by kernel_rfl
theorem sc7 : FnScope D7.N D7.ps D7.scope := ⟨rfl, rfl, rfl, by decide +kernel, rfl, by decide +kernel, by decide +kernel⟩
theorem ci8 : cSs 60 (MD.cc D8) D8.body = some I8 := by kernel_rfl
theorem sc8 : FnScope D8.N D8.ps D8.scope := ⟨rfl, rfl, rfl, by decide +kernel, rfl, by decide +kernel, by decide +kernel⟩
theorem ci9 : cSs 60 (MD.cc D9) D9.body = some I9 := by kernel_rfl
theorem sc9 : FnScope D9.N D9.ps D9.scope := ⟨rfl, rfl, rfl, by decide +kernel, rfl, by decide +kernel, by decide +kernel⟩
theorem ci10 : cSs 60 (MD.cc D10) D10.body = some I10 := by kernel_rfl
theorem sc10 : FnScope D10.N D10.ps D10.scope := ⟨rfl, rfl, rfl, by decide +kernel, rfl, by decide +kernel, by decide +kernel⟩
theorem ci11 : cSs 60 (MD.cc D11) D11.body = some I11 := by kernel_rfl
theorem sc11 : FnScope D11.N D11.ps D11.scope := ⟨rfl, rfl, rfl, by decide +kernel, rfl, by decide +kernel, by decide +kernel⟩
theorem ci12 : cSs 60 (MD.cc D12) D12.body = some I12 := by kernel_rfl
theorem sc12 : FnScope D12.N D12.ps D12.scope := ⟨rfl, rfl, rfl, by decide +kernel, rfl, by decide +kernel, by decide +kernel⟩
theorem ci13 : cSs 60 (MD.cc D13) D13.body = some I13 := by kernel_rfl
theorem sc13 : FnScope D13.N D13.ps D13.scope := ⟨rfl, rfl, rfl, by decide +kernel, rfl, by decide +kernel, by decide +kernel⟩
theorem ci14 : cSs 60 (MD.cc D14) D14.body = some I14 := by kernel_rfl
theorem sc14 : FnScope D14.N D14.ps D14.scope := ⟨rfl, rfl, rfl, by decide +kernel, rfl, by decide +kernel, by decide +kernel⟩
theorem ci15 : cSs 60 (MD.cc D15) D15.body = some I15 := by kernel_rfl
theorem sc15 : FnScope D15.N D15.ps D15.scope := ⟨rfl, rfl, rfl, by decide +kernel, rfl, by decide +kernel, by decide +kernel⟩
theorem ci16 : cSs 60 (MD.cc D16) D16.body = some I16 := by kernel_rfl
theorem sc16 : FnScope D16.N D16.ps D16.scope := ⟨rfl, rfl, rfl, by decide +kernel, rfl, by decide +kernel, by decide +kernel⟩
theorem ci17 : cSs 60 (MD.cc D17) D17.body = some I17 := by kernel_rfl
theorem sc17 : FnScope D17.N D17.ps D17.scope := ⟨rfl, rfl, rfl, by decide +kernel, rfl, by decide +kernel, by decide +kernel⟩
theorem ci18 : cSs 60 (MD.cc D18) D18.body = some I18 := by kernel_rfl
theorem sc18 : FnScope D18.N D18.ps D18.scope := ⟨rfl, rfl, rfl, by decide +kernel, rfl, by decide +kernel, by decide +kernel⟩
theorem ci19 : cLam 60 (MD.cc0 D19) "call" D19.body = some I19 := by kernel_rfl
theorem sc19 : FnScope D19.N D19.ps D19.scope := ⟨rfl, rfl, rfl, by decide +kernel, rfl, by decide +kernel, by decide +kernel⟩
theorem ci20 : cSs 60 (MD.cc D20) D20.body = some I20 := by kernel_rfl
theorem sc20 : FnScope D20.N D20.ps D20.scope := ⟨rfl, rfl, rfl, by decide +kernel, rfl, by decide +kernel, by decide +kernel⟩
theorem ci21 : cSs 60 (MD.cc D21) D21.body = some I21 := by kernel_rfl
theorem sc21 : FnScope D21.N D21.ps D21.scope := ⟨rfl, rfl, rfl, by decide +kernel, rfl, by decide +kernel, by decide +kernel⟩
end Law

set_option linter.all false
set_option maxRecDepth 100000
set_option maxHeartbeats 4000000
set_option autoImplicit false
/-! R1: the dice of the laws: what each law's own drawing gives, in the interpreter. -/
namespace RA
open PySem (Str)
/-- by which simp does not take an equation for one that holds by definition (the kernel need not look it up again) -/
theorem nr {α : Sort _} {a b : α} (h : a = b) : a = b := h
theorem rk {α β : Type} (a : α) (S : Store) (f : α → Store → Res β) : (Res.ok a S).bind f = f a S := nr rfl
theorem lk {α : Type} (a : α) (S : Store) : RA.lift S (some a) = .ok a S := nr rfl
section
variable {C : Ora} {T : Cls} {τ : Sig} {S : Store}
theorem ev_con (d : D) : RA.evalE C (.con d) τ S = .ok d S := nr rfl
theorem ev_and (a b : E) : RA.evalE C (.and a b) τ S = (RA.evalE C a τ S).bind fun x S => (RA.lift S (truth S x)).bind fun k S => if k then RA.evalE C b τ S else .ok x S := nr rfl
theorem ev_or (a b : E) : RA.evalE C (.or a b) τ S = (RA.evalE C a τ S).bind fun x S => (RA.lift S (truth S x)).bind fun k S => if k then .ok x S else RA.evalE C b τ S := nr rfl
theorem ev_not (a : E) : RA.evalE C (.not a) τ S = (RA.evalE C a τ S).bind fun x S => RA.lift S ((truth S x).map fun b => .bl (!b)) := nr rfl
theorem ev_bin (o : BOp) (a b : E) : RA.evalE C (.bin o a b) τ S = (RA.evalE C a τ S).bind fun x S => (RA.evalE C b τ S).bind fun y S => RA.lift S (binop S o x y) := nr rfl
theorem ev_cmp (o : COp) (a b : E) : RA.evalE C (.cmp o a b) τ S = (RA.evalE C a τ S).bind fun x S => (RA.evalE C b τ S).bind fun y S => RA.lift S (cmpop S o x y) := nr rfl
theorem ev_chain (o1 o2 : COp) (a b c : E) : RA.evalE C (.chain o1 o2 a b c) τ S = (RA.evalE C a τ S).bind fun x S => (RA.evalE C b τ S).bind fun y S => (RA.lift S (cmpop S o1 x y)).bind fun k S => match k with
    | .bl true => (RA.evalE C c τ S).bind fun z S => RA.lift S (cmpop S o2 y z)
    | .bl false => .ok (.bl false) S
    | _ => .bad := nr rfl
theorem ev_ife (c a b : E) : RA.evalE C (.ife c a b) τ S = (RA.evalE C c τ S).bind fun x S => (RA.lift S (truth S x)).bind fun k S => if k then RA.evalE C a τ S else RA.evalE C b τ S := nr rfl
theorem ev_sub (a i : E) : RA.evalE C (.sub a i) τ S = (RA.evalE C a τ S).bind fun x S => (RA.evalE C i τ S).bind fun y S => RA.lift S (RA.sub S x y) := nr rfl
theorem ev_slice (a b c : E) : RA.evalE C (.slice a b c) τ S = (RA.evalE C a τ S).bind fun x S => (RA.evalE C b τ S).bind fun y S => (RA.evalE C c τ S).bind fun z S => RA.lift S (slice S x y z) := nr rfl
theorem ev_rev (a : E) : RA.evalE C (.rev a) τ S = (RA.evalE C a τ S).bind fun x S => RA.lift S (rev S x) := nr rfl
theorem ev_ofInt (a : E) : RA.evalE C (.ofInt a) τ S = (RA.evalE C a τ S).bind fun d S => match d with | .int i => .ok (.int i) S | _ => .bad := nr rfl
theorem ev_tup (es : List E) : RA.evalE C (.tup es) τ S = (RA.evalEs C es τ S).bind fun ds S => .ok (.tup ds) S := nr rfl
theorem ev_lst (es : List E) : RA.evalE C (.lst es) τ S = (RA.evalEs C es τ S).bind fun ds S => .ok (.vl ds) S := nr rfl
theorem ev_call (f : Nat) (es : List E) : RA.evalE C (.call f es) τ S = (RA.evalEs C es τ S).bind fun ds S => C.fn f ds S := nr rfl
theorem ev_bcall (f : BF) (es : List E) : RA.evalE C (.bcall f es) τ S = (RA.evalEs C es τ S).bind fun ds S => RA.lift S (bcall S f ds) := nr rfl
theorem ev_bcall1 (f : BF) (a : E) : RA.evalE C (.bcall f [a]) τ S = (RA.evalE C a τ S).bind fun d S => RA.lift S (bcall S f [d]) := by
  show ((RA.evalE C a τ S).bind fun d S => .ok [d] S).bind _ = _
  cases RA.evalE C a τ S <;> rfl
theorem ev_call1 (f : Nat) (a : E) : RA.evalE C (.call f [a]) τ S = (RA.evalE C a τ S).bind fun d S => C.fn f [d] S := by
  show ((RA.evalE C a τ S).bind fun d S => .ok [d] S).bind _ = _
  cases RA.evalE C a τ S <;> rfl
theorem es_nil : RA.evalEs C [] τ S = .ok [] S := nr rfl
theorem es_cons (e : E) (r : List E) : RA.evalEs C (e :: r) τ S = (RA.evalE C e τ S).bind fun d S => (RA.evalEs C r τ S).bind fun ds S => .ok (d :: ds) S := nr rfl
theorem xs_nil : RA.execs T C [] τ S = .ok (.nx τ) S := nr rfl
theorem xs_cons (s : RA.St) (r : List RA.St) : RA.execs T C (s :: r) τ S = (RA.execS T C s τ S).bind fun o S => match o with
    | .nx σ => RA.execs T C r σ S
    | .ret d => .ok (.ret d) S := nr rfl
theorem st_ret (e : E) : RA.execS T C (.ret e) τ S = (RA.evalE C e τ S).bind fun d S => .ok (.ret d) S := nr rfl
theorem st_asg (i : Nat) (e : E) : RA.execS T C (.asg i e) τ S = (RA.evalE C e τ S).bind fun d S => .ok (.nx (τ.set i (some d))) S := nr rfl
theorem st_exp (e : E) : RA.execS T C (.exp e) τ S = (RA.evalE C e τ S).bind fun _ S => .ok (.nx τ) S := nr rfl
theorem st_ite (c : E) (a b : List RA.St) : RA.execS T C (.ite c a b) τ S = (RA.evalE C c τ S).bind fun x S => (RA.lift S (truth S x)).bind fun k S => if k then RA.execs T C a τ S else RA.execs T C b τ S := nr rfl
end
section
variable {T : Cls} {Γ : List Fn} {W : Nat}
theorem callF_eq {k f : Nat} {ds : List D} {S : Store} {fn : Fn} (h : Γ[f]? = some fn) (hl : ds.length = fn.np) : callF T Γ W (k + 1) f ds S = fin (RA.execs T (ora1 T Γ (callF T Γ W k) W) fn.body (RA.start fn.ns ds) S) := by
  show (match Γ[f]? with | none => Res.bad | some fn => if ds.length = fn.np then fin (RA.execs T (ora1 T Γ (callF T Γ W k) W) fn.body (RA.start fn.ns ds) S) else .bad) = _
  rw [h]
  exact if_pos hl
/-- _law_roll -/
def Iroll : List RA.St := [(.ite (.cmp .gt (.sub (.var 0) (.con (.int 0))) (.con (.int 0))) [(.asg 2 (.bin .mod (.sub (.var 0) (.con (.int 0))) (.var 1))),
    (.seti (.var 0) (.con (.int 0)) (.bin .fdiv (.sub (.var 0) (.con (.int 0))) (.var 1))), (.ret (.bcall .int [(.var 2)]))] []),
    (.seti (.var 0) (.con (.int 2)) (.bin .add (.sub (.var 0) (.con (.int 2))) (.con (.int 1)))),
    (.asg 3 (.bin .mod (.bin .add (.sub (.var 0) (.con (.int 1))) (.bin .mul (.con (.int 49979687)) (.sub (.var 0) (.con (.int 2))))) (.con (.int 2305843009213693951)))),
    (.asg 4 (.bin .add (.bin .mul (.bin .mod (.bin .add (.bin .mul (.var 3) (.var 3)) (.bin .mul (.con (.int 131)) (.sub (.var 0) (.con (.int 2))))) (.con (.int 2305843009213693921))) (.con (.int 32452843))) (.var 3))),
    (.ret (.bin .mod (.bcall .int [(.bin .fdiv (.var 4) (.con (.int 65587)))]) (.var 1)))]
/-- dice at place n: what was thrown at most B times -/
def Dice (S : Store) (n : Nat) (B : Nat) : Prop := ∃ a b c : Int, S[n]? = some (.lst [.int a, .int b, .int c]) ∧ 0 ≤ a ∧ 0 ≤ b ∧ b < 2 ^ 200 ∧ 0 ≤ c ∧ c ≤ B
/-- the same but for the dice -/
def SameBut (n : Nat) (S S' : Store) : Prop := S'.length = S.length ∧ ∀ i, i ≠ n → S'[i]? = S[i]?
theorem SameBut.refl {n : Nat} {S : Store} : SameBut n S S := ⟨rfl, fun _ _ => rfl⟩
theorem SameBut.trans {n : Nat} {S S1 S2 : Store} (a : SameBut n S S1) (b : SameBut n S1 S2) : SameBut n S S2 := ⟨b.1.trans a.1, fun i h => (b.2 i h).trans (a.2 i h)⟩
theorem SameBut.set {n : Nat} {S : Store} {o : SO} : SameBut n S (S.set n o) := ⟨List.length_set, fun i h => List.getElem?_set_ne (Ne.symm h)⟩
theorem log_lt {x : Int} {n : Nat} (h0 : 0 ≤ x) (h : x < 2 ^ n) : x.natAbs.log2 ≤ n := by
  by_cases e : x.natAbs = 0
  · rw [e]; exact Nat.zero_le _
  · have hx : (x.natAbs : Int) = x := Int.natAbs_of_nonneg h0
    have : x.natAbs < 2 ^ n := by
      have : (x.natAbs : Int) < ((2 ^ n : Nat) : Int) := by rw [hx]; push_cast; exact h
      exact_mod_cast this
    exact Nat.le_of_lt ((Nat.log2_lt e).mpr this)
theorem roll {i k n B : Nat} {S : Store} {t : Int} (hi : Γ[i]? = some ⟨2, 5, Iroll⟩) (d : Dice S n B) (hB : B ≤ 1000000) (ht : 0 < t) (htl : t.natAbs.log2 < 9000) :
    ∃ (r : Int) (S' : Store), callF T Γ W (k + 1) i [.ref n, .int t] S = .ok (.int r) S' ∧ 0 ≤ r ∧ r < t ∧ Dice S' n (B + 1) ∧ SameBut n S S' := by
  obtain ⟨a, b, c, h, ha, hb, hb2, hc, hcB⟩ := d
  rw [callF_eq hi rfl]
  have hn : n < S.length := (List.getElem?_eq_some_iff.mp h).1
  have ht0 : t ≠ 0 := by omega
  have n0 : natIx 3 0 = some 0 := rfl
  have n1 : natIx 3 1 = some 1 := rfl
  have n2 : natIx 3 2 = some 2 := rfl
  have s1 : RA.start 5 [.ref n, .int t] = [some (.ref n), some (.int t), none, none, none] := rfl
  by_cases hp : 0 < a
  · refine ⟨a.fmod t, S.set n (.lst [.int (a.fdiv t), .int b, .int c]), ?_, Int.fmod_nonneg_of_pos _ ht, Int.fmod_lt_of_pos _ ht, ⟨a.fdiv t, b, c, List.getElem?_set_self hn, Int.fdiv_nonneg ha (Int.le_of_lt ht), hb, hb2, hc, by omega⟩, SameBut.set⟩
    simp only [Iroll, s1, RA.execs, RA.execS, RA.evalE, RA.evalEs, rk, lk, List.getElem?_cons_zero, List.getElem?_cons_succ, RA.sub, asQ, asL, h, List.length_cons, List.length_nil, Nat.zero_add, Nat.reduceAdd, n0, Option.bind_some, cmpop, lts, Option.map_some, truth, hp, decide_true, binop, if_pos ht0,
      List.set_cons_zero, List.set_cons_succ, if_pos (And.intro ht0 htl), bcall, one, intD, fin, ite_true]
  · have h' : (S.set n (.lst [.int a, .int b, .int (c + 1)]))[n]? = some (.lst [.int a, .int b, .int (c + 1)]) := List.getElem?_set_self hn
    have c1 : (c + 1).natAbs.log2 ≤ 200 := log_lt (by omega) (by
      have : c + 1 ≤ 1000001 := by omega
      exact Int.lt_of_le_of_lt this (by decide))
    have e0 : (49979687 : Int).natAbs.log2 ≤ 200 := by decide
    have e1 : (131 : Int).natAbs.log2 ≤ 200 := by decide
    have e2 : (32452843 : Int).natAbs.log2 ≤ 200 := by decide
    have m1 : (2305843009213693951 : Int) ≠ 0 := by decide
    have m2 : (2305843009213693921 : Int) ≠ 0 := by decide
    have m3 : (65587 : Int) ≠ 0 ∧ (65587 : Int).natAbs.log2 < 9000 := by decide
    generalize hone : (b + 49979687 * (c + 1)).fmod 2305843009213693951 = one'
    have o1 : one'.natAbs.log2 ≤ 200 := log_lt (by rw [← hone]; exact Int.fmod_nonneg_of_pos _ (by decide)) (by
      rw [← hone]; exact Int.lt_trans (Int.fmod_lt_of_pos _ (by decide)) (by decide))
    generalize htwo : (one' * one' + 131 * (c + 1)).fmod 2305843009213693921 = two'
    have o2 : two'.natAbs.log2 ≤ 200 := log_lt (by rw [← htwo]; exact Int.fmod_nonneg_of_pos _ (by decide)) (by
      rw [← htwo]; exact Int.lt_trans (Int.fmod_lt_of_pos _ (by decide)) (by decide))
    have q1 : (49979687 : Int).natAbs.log2 + (c + 1).natAbs.log2 < 1000000 := by omega
    have q2 : one'.natAbs.log2 + one'.natAbs.log2 < 1000000 := by omega
    have q3 : (131 : Int).natAbs.log2 + (c + 1).natAbs.log2 < 1000000 := by omega
    have q4 : two'.natAbs.log2 + (32452843 : Int).natAbs.log2 < 1000000 := by omega
    refine ⟨((two' * 32452843 + one').fdiv 65587).fmod t, S.set n (.lst [.int a, .int b, .int (c + 1)]), ?_, Int.fmod_nonneg_of_pos _ ht, Int.fmod_lt_of_pos _ ht, ⟨a, b, c + 1, h', ha, hb, hb2, by omega, by push_cast; omega⟩, SameBut.set⟩
    simp only [Iroll, s1, RA.execs, RA.execS, RA.evalE, RA.evalEs, rk, lk, List.getElem?_cons_zero, List.getElem?_cons_succ, RA.sub, asQ, asL, h, List.length_cons, List.length_nil, Nat.zero_add, Nat.reduceAdd, n0, n1, n2, Option.bind_some, cmpop, lts, Option.map_some, truth, hp, decide_false, Bool.false_eq_true, binop, if_pos ht0,
      List.set_cons_zero, List.set_cons_succ, if_pos (And.intro ht0 htl), bcall, one, intD, fin, ite_true, ite_false, h', if_pos q1, if_pos m1, if_pos m2, if_pos m3, hone, if_pos q2, if_pos q3, htwo, if_pos q4]
end
end RA

set_option linter.all false
set_option maxRecDepth 100000
set_option maxHeartbeats 4000000
set_option autoImplicit false
/-! RN: the equations by which a body is run. -/
namespace RA
open PySem (Str)
theorem bind_cong {α β : Type} {r r' : Res α} (f : α → Store → Res β) (h : r = r') : r.bind f = r'.bind f := by rw [h]
section
variable {C : Ora} {T : Cls} {τ : Sig} {S : Store}
theorem ev_var (i : Nat) : RA.evalE C (.var i) τ S = match τ[i]? with
  | some (some d) => .ok d S
  | _ => .bad := nr rfl
theorem ev_neg (a : E) : RA.evalE C (.neg a) τ S = (RA.evalE C a τ S).bind fun x S => match x with
    | .int i => .ok (.int (-i)) S
    | _ => .bad := nr rfl
theorem ev_new (e : E) : RA.evalE C (.new e) τ S = (RA.evalE C e τ S).bind fun d S => match d with
    | .vl ds => .ok (.ref S.length) (S ++ [.lst ds])
    | _ => .bad := nr rfl
theorem ev_callv (f : E) (es : List E) : RA.evalE C (.callv f es) τ S = (RA.evalE C f τ S).bind fun x S => match x with
    | .fn i => (RA.evalEs C es τ S).bind fun ds S => C.fn i ds S
    | _ => .bad := nr rfl
theorem sx_asgT (is : List Nat) (e : E) : RA.execS T C (.asgT is e) τ S = (RA.evalE C e τ S).bind fun d S => (RA.lift S (target τ true is d)).bind fun σ S => .ok (.nx σ) S := nr rfl
theorem sx_par (is : List Nat) (es : List E) : RA.execS T C (.par is es) τ S = (RA.evalEs C es τ S).bind fun ds S => (RA.lift S (setAll τ is ds)).bind fun σ S => .ok (.nx σ) S := nr rfl
theorem sx_seti (o i e : E) : RA.execS T C (.seti o i e) τ S = (RA.evalE C e τ S).bind fun v S => (RA.evalE C o τ S).bind fun x S => (RA.evalE C i τ S).bind fun y S => match x, y with
    | .ref n, .int k => match S[n]? with
      | some (.lst ds) => match natIx ds.length k with
        | some j => .ok (.nx τ) (S.set n (.lst (ds.set j v)))
        | none => .bad
      | none => .bad
    | _, _ => .bad := nr rfl
theorem sx_pass : RA.execS T C .pass τ S = .ok (.nx τ) S := nr rfl
end
theorem fin_nx (σ : Sig) (S : Store) : fin (.ok (.nx σ) S) = .ok .non S := nr rfl
theorem fin_ret (d : D) (S : Store) : fin (.ok (.ret d) S) = .ok d S := nr rfl
theorem fin_exc (x : Exn) (S : Store) : fin (.exc x S) = .exc x S := nr rfl
section
variable (S : Store) (x y : D)
theorem truth_bl (b : Bool) : truth S (.bl b) = some b := nr rfl
theorem cm_eq : cmpop S .eq x y = (eqd S x y).map .bl := nr rfl
theorem cm_ne : cmpop S .ne x y = (eqd S x y).map fun b => .bl (!b) := nr rfl
theorem cm_lt : cmpop S .lt x y = (lts x y).map .bl := nr rfl
theorem cm_le : cmpop S .le x y = (les x y).map .bl := nr rfl
theorem cm_gt : cmpop S .gt x y = (lts y x).map .bl := nr rfl
theorem cm_ge : cmpop S .ge x y = (les y x).map .bl := nr rfl
theorem cm_is : cmpop S .is x y = (sameAs x y).map .bl := nr rfl
theorem cm_isn : cmpop S .isn x y = (sameAs x y).map fun b => .bl (!b) := nr rfl
theorem cm_in : cmpop S .isin x y = (isIn S x y).map .bl := nr rfl
theorem cm_nin : cmpop S .nin x y = (isIn S x y).map fun b => .bl (!b) := nr rfl
theorem bc_len : bcall S .len [x] = lenD S x := nr rfl
theorem bc_tuple : bcall S .tuple [x] = (asQ S x).map .tup := nr rfl
theorem bc_list : bcall S .list [x] = (asQ S x).map .vl := nr rfl
theorem bc_int : bcall S .int [x] = intD x := nr rfl
theorem bc_repr : bcall S .repr [x] = reprD S x := nr rfl
theorem bc_isinst : bcall S .isinst [x, y] = isinstD S x y := nr rfl
end
end RA

set_option linter.all false
set_option maxRecDepth 100000
set_option maxHeartbeats 4000000
set_option autoImplicit false
/-! R2: dice made, picks. -/
namespace RA
open PySem (Str)
section
variable {T : Cls} {Γ : List Fn} {W : Nat}
def Idice : List RA.St := [(.asg 2 (.ife (.cmp .lt (.var 1) (.bcall .len [(.var 0)])) (.bcall .int [(.sub (.var 0) (.var 1))]) (.bin .add (.bin .mul (.con (.int 131)) (.var 1)) (.con (.int 37))))),
    (.asg 3 (.bin .mod (.bcall .int [(.bcall .abs [(.var 2)])]) (.bin .pow (.bin .pow (.con (.int 10)) (.con (.int 53))) (.con (.int 6))))),
    (.asg 4 (.bin .add (.bin .add (.bin .add (.bin .mul (.bin .mod (.var 3) (.con (.int 2305843009213693907))) (.con (.int 73))) (.bin .mul (.con (.int 619)) (.var 1))) (.bin .mul (.con (.int 41)) (.bcall .int [(.cmp .lt (.var 2) (.con (.int 0)))]))) (.con (.int 17)))),
    (.ret (.new (.lst [(.bcall .max [(.con (.int 0)), (.bin .sub (.var 3) (.bin .pow (.con (.int 10)) (.con (.int 16))))]), (.var 4), (.con (.int 0))])))]
theorem natIx_in {n j : Nat} (h : j < n) : natIx n (j : Int) = some j := by
  unfold natIx
  rw [if_pos (Int.natCast_nonneg j), if_pos (by exact_mod_cast h)]
  rfl
theorem dice {i k spot : Nat} {S : Store} {ns : List Int} (hi : Γ[i]? = some ⟨2, 5, Idice⟩) (hs : spot ≤ 1000) :
    ∃ o, callF T Γ W (k + 1) i [.ro (ns.map D.int), .int spot] S = .ok (.ref S.length) (S ++ [o]) ∧ Dice (S ++ [o]) S.length 0 := by
  rw [callF_eq hi rfl]
  have s1 : RA.start 5 [.ro (ns.map D.int), .int (spot : Int)] = [some (.ro (ns.map D.int)), some (.int (spot : Int)), none, none, none] := rfl
  -- the cell
  have cell : ∃ cl : Int, ∀ C : Ora, RA.evalE C (.ife (.cmp .lt (.var 1) (.bcall .len [(.var 0)])) (.bcall .int [(.sub (.var 0) (.var 1))]) (.bin .add (.bin .mul (.con (.int 131)) (.var 1)) (.con (.int 37)))) [some (.ro (ns.map D.int)), some (.int (spot : Int)), none, none, none] S = .ok (.int cl) S := by
    by_cases hl : spot < ns.length
    · refine ⟨ns[spot], fun C => ?_⟩
      have h1 : decide ((spot : Int) < ((ns.map D.int).length : Nat)) = true := by simpa using hl
      have h2 : natIx (ns.map D.int).length (spot : Int) = some spot := natIx_in (by simpa using hl)
      have h3 : (ns.map D.int)[spot]? = some (.int ns[spot]) := by simp [hl]
      simp only [RA.evalE, RA.evalEs, rk, lk, List.getElem?_cons_zero, List.getElem?_cons_succ, bcall, one, lenD, asQ, Option.map_some, cmpop, lts, h1, truth, RA.sub, Option.bind_some, h2, h3, intD, ite_true]
    · refine ⟨131 * spot + 37, fun C => ?_⟩
      have h1 : decide ((spot : Int) < ((ns.map D.int).length : Nat)) = false := by simpa using hl
      have q : (131 : Int).natAbs.log2 + (spot : Int).natAbs.log2 < 1000000 := by
        have a1 : (131 : Int).natAbs.log2 ≤ 200 := by decide
        have a2 : (spot : Int).natAbs.log2 ≤ 200 := log_lt (Int.natCast_nonneg _) (Int.lt_of_le_of_lt (by exact_mod_cast hs) (by decide : (1000 : Int) < 2 ^ 200))
        omega
      simp only [RA.evalE, RA.evalEs, rk, lk, List.getElem?_cons_zero, List.getElem?_cons_succ, bcall, one, lenD, asQ, Option.map_some, cmpop, lts, h1, truth, binop, if_pos q, ite_false, Bool.false_eq_true]
  obtain ⟨cl, hcl⟩ := cell
  have p1 : (0 : Int) ≤ 53 ∧ (53 : Int) ≤ 1000 ∧ (10 : Int).natAbs.log2 < 1000 := by decide
  have p2 : (0 : Int) ≤ 6 ∧ (6 : Int) ≤ 1000 ∧ ((10 : Int) ^ (53 : Int).toNat).natAbs.log2 < 1000 := by decide +kernel
  have p3 : (0 : Int) ≤ 16 ∧ (16 : Int) ≤ 1000 ∧ (10 : Int).natAbs.log2 < 1000 := by decide
  have p4 : (((10 : Int) ^ (53 : Int).toNat) ^ (6 : Int).toNat) ≠ 0 := by decide +kernel
  have p4' : (0 : Int) < (((10 : Int) ^ (53 : Int).toNat) ^ (6 : Int).toNat) := by decide +kernel
  have m1 : (2305843009213693907 : Int) ≠ 0 := by decide
  generalize hg : (if cl < 0 then -cl else cl).fmod (((10 : Int) ^ (53 : Int).toNat) ^ (6 : Int).toNat) = great
  have g0 : 0 ≤ great := by rw [← hg]; exact Int.fmod_nonneg_of_pos _ p4'
  generalize hs' : great.fmod 2305843009213693907 = sd
  have sd0 : 0 ≤ sd := by rw [← hs']; exact Int.fmod_nonneg_of_pos _ (by decide)
  have sd1 : sd < 2305843009213693907 := by rw [← hs']; exact Int.fmod_lt_of_pos _ (by decide)
  have sl : sd.natAbs.log2 ≤ 200 := log_lt sd0 (Int.lt_trans sd1 (by decide))
  have spl : (spot : Int).natAbs.log2 ≤ 200 := log_lt (Int.natCast_nonneg _) (Int.lt_of_le_of_lt (by exact_mod_cast hs) (by decide : (1000 : Int) < 2 ^ 200))
  generalize hn : (if decide (cl < 0) = true then (1 : Int) else 0) = ng
  have n0 : 0 ≤ ng ∧ ng ≤ 1 := by rw [← hn]; split <;> decide
  have nl : ng.natAbs.log2 ≤ 200 := log_lt n0.1 (Int.lt_of_le_of_lt n0.2 (by decide))
  have a73 : (73 : Int).natAbs.log2 ≤ 200 := by decide
  have a619 : (619 : Int).natAbs.log2 ≤ 200 := by decide
  have a41 : (41 : Int).natAbs.log2 ≤ 200 := by decide
  have q1 : sd.natAbs.log2 + (73 : Int).natAbs.log2 < 1000000 := by omega
  have q2 : (619 : Int).natAbs.log2 + (spot : Int).natAbs.log2 < 1000000 := by omega
  have q3 : (41 : Int).natAbs.log2 + ng.natAbs.log2 < 1000000 := by omega
  have hb : (0 : Int) ≤ sd * 73 + 619 * spot + 41 * ng + 17 ∧ sd * 73 + 619 * spot + 41 * ng + 17 < 2 ^ 200 := by
    have : (spot : Int) ≤ 1000 := by exact_mod_cast hs
    have s0 : (0 : Int) ≤ spot := Int.natCast_nonneg _
    have big : (2305843009213693907 : Int) * 73 + 619 * 1000 + 41 + 17 < 2 ^ 200 := by decide
    constructor
    · omega
    · refine Int.lt_of_le_of_lt ?_ big
      omega
  refine ⟨.lst [.int (if great - (10 : Int) ^ (16 : Int).toNat > 0 then great - (10 : Int) ^ (16 : Int).toNat else 0), .int (sd * 73 + 619 * spot + 41 * ng + 17), .int 0], ?_, ⟨if great - (10 : Int) ^ (16 : Int).toNat > 0 then great - (10 : Int) ^ (16 : Int).toNat else 0, sd * 73 + 619 * spot + 41 * ng + 17, 0, ?_, ?_, hb.1, hb.2, Int.le_refl _, Int.le_refl _⟩⟩
  · simp only [Idice, s1, RA.execs, RA.execS, hcl, rk, lk]
    simp only [RA.evalE, RA.evalEs, rk, lk, List.getElem?_cons_zero, List.getElem?_cons_succ, List.set_cons_zero, List.set_cons_succ, bcall, one, two, absD, intD, max2, binop, if_pos p1, if_pos p2, if_pos p3, if_pos p4, if_pos m1, hg, hs', if_pos q1, if_pos q2, cmpop, lts, Option.map_some, hn, if_pos q3, fin]
  · rw [List.getElem?_append_right (Nat.le_refl _), Nat.sub_self]
    rfl
  · split <;> omega
def Ipick (r : Nat) : List RA.St := [(.ret (.sub (.var 1) (.call r [(.var 0), (.bcall .len [(.var 1)])])))]
/-- what stands in a list or a tuple -/
theorem asQ_same {n : Nat} {S S' : Store} {x : D} {ds : List D} (h : asQ S x = some ds) (s : SameBut n S S') (hx : x ≠ .ref n) : asQ S' x = some ds := by
  cases x <;> first | exact h | skip
  rename_i m
  have hm : m ≠ n := fun e => hx (by rw [e])
  replace h : (match S[m]? with | some (.lst ds) => some ds | none => none) = some ds := h
  show (match S'[m]? with | some (.lst ds) => some ds | none => none) = some ds
  rw [s.2 m hm]; exact h
theorem log_len {m : Nat} (h : m ≤ 16777216) : ((m : Nat) : Int).natAbs.log2 < 9000 := by
  have := log_lt (x := (m : Int)) (n := 30) (Int.natCast_nonneg _) (Int.lt_of_le_of_lt (Int.ofNat_le.mpr h) (by decide : ((16777216 : Nat) : Int) < 2 ^ 30))
  omega
/-- a pick of items that are there -/
theorem pick {i r k n B : Nat} {S : Store} {x : D} {ds : List D} (hi : Γ[i]? = some ⟨2, 2, Ipick r⟩) (hr : Γ[r]? = some ⟨2, 5, Iroll⟩) (d : Dice S n B) (hB : B ≤ 1000000) (h : asQ S x = some ds) (hx : x ≠ .ref n) (hs : ∀ s, x ≠ .str s) (h0 : ds ≠ []) (hl : ds.length ≤ 16777216) :
    ∃ (y : D) (S' : Store), callF T Γ W (k + 2) i [.ref n, x] S = .ok y S' ∧ y ∈ ds ∧ Dice S' n (B + 1) ∧ SameBut n S S' := by
  have hlen : 0 < ds.length := List.length_pos_iff.mpr h0
  obtain ⟨v, S', e, r0, r1, d', s'⟩ := roll (T := T) (Γ := Γ) (W := W) (k := k) (t := (ds.length : Int)) hr d hB (by exact_mod_cast hlen) (log_len hl)
  rw [callF_eq hi rfl]
  have s1 : RA.start 2 [.ref n, x] = [some (.ref n), some x] := rfl
  have hv : v = ((v.toNat : Nat) : Int) := (Int.toNat_of_nonneg r0).symm
  have hvl : v.toNat < ds.length := by omega
  have e1 : lenD S x = some (.int ds.length) := by
    cases x <;> first | (exact absurd rfl (hs _)) | (cases h; done) | (exact congrArg (Option.map fun ds : List D => D.int ds.length) h)
  have e2 : RA.sub S' x (.int v) = some ds[v.toNat] := by
    have := asQ_same h s' hx
    have ix : natIx ds.length v = some v.toNat := by
      have q := natIx_in hvl
      rwa [← hv] at q
    have at_ : ds[v.toNat]? = some ds[v.toNat] := List.getElem?_eq_getElem hvl
    cases x <;> first | (exact absurd rfl (hs _)) | (simp only [RA.sub, this, Option.bind_some, ix, at_])
  refine ⟨ds[v.toNat], S', ?_, List.getElem_mem _, d', s'⟩
  have cl : (ora1 T Γ (callF T Γ W (k + 1)) W).fn = callF T Γ W (k + 1) := rfl
  simp only [Ipick, s1, RA.execs, RA.execS, RA.evalE, RA.evalEs, rk, lk, List.getElem?_cons_zero, List.getElem?_cons_succ, bcall, one, e1, cl, e, e2, fin]
end
end RA

set_option linter.all false
set_option maxRecDepth 100000
set_option maxHeartbeats 4000000
set_option autoImplicit false
/-! R3: tuples of texts; comprehensions; the least of many. -/
namespace RA
open PySem (Str PyData)
open PySem.W (listLt dataLt alike alikeAll)
/-- a tuple of texts -/
def TS (l : List Str) : D := .tup (l.map D.str)
def PS (l : List Str) : PyData := .tuple (l.map PyData.str)
theorem toPs_strs (r : Nat → Option PyData) : ∀ l : List Str, toPs r (l.map D.str) = some (l.map PyData.str)
  | [] => rfl
  | x :: l => by
    show (some (PyData.str x)).bind (fun a => (toPs r (l.map D.str)).map fun xs => a :: xs) = _
    rw [toPs_strs r l]; rfl
theorem toP_TS (r : Nat → Option PyData) (l : List Str) : toP r (TS l) = some (PS l) := by
  show (toPs r (l.map D.str)).map PyData.tuple = _
  rw [toPs_strs]; rfl
theorem pd_TS (S : Store) (l : List Str) : pd S (TS l) = some (PS l) := toP_TS _ l
theorem pds_TS (S : Store) : ∀ ls : List (List Str), pds S (ls.map TS) = some (ls.map PS)
  | [] => rfl
  | x :: l => by
    show (toP (deep 8 S) (TS x)).bind (fun a => (pds S (l.map TS)).map fun xs => a :: xs) = _
    rw [toP_TS, pds_TS S l]; rfl
theorem depth_strs : ∀ l : List Str, PyData.depthAll (l.map PyData.str) = 0
  | [] => by simp only [List.map_nil, PyData.depthAll]
  | x :: l => by simp only [List.map_cons, PyData.depthAll, PyData.depth, depth_strs l]; rfl
theorem depth_PS (l : List Str) : (PS l).depth = 1 := by
  unfold PS
  simp only [PyData.depth, depth_strs]
theorem depths_PS : ∀ ls : List (List Str), PyData.depthAll (ls.map PS) ≤ 1
  | [] => by simp only [List.map_nil, PyData.depthAll]; omega
  | x :: l => by
    have := depths_PS l
    simp only [List.map_cons, PyData.depthAll, depth_PS]; omega
theorem eqv_strs : ∀ a b : List Str, PyData.eqvAll (a.map PyData.str) (b.map PyData.str) = decide (a = b)
  | [], [] => by simp only [List.map_nil, PyData.eqvAll, decide_true]
  | [], y :: b => by simp only [List.map_nil, List.map_cons, PyData.eqvAll]; rfl
  | x :: a, [] => by simp only [List.map_nil, List.map_cons, PyData.eqvAll]; rfl
  | x :: a, y :: b => by
    simp only [List.map_cons, PyData.eqvAll, PyData.eqv, eqv_strs a b]
    by_cases h : x = y <;> by_cases h2 : a = b <;> simp [h, h2]
theorem eqv_PS (a b : List Str) : (PS a).eqv (PS b) = decide (a = b) := by
  unfold PS
  simp only [PyData.eqv, eqv_strs]
theorem eqd_TS (S : Store) (a b : List Str) : eqd S (TS a) (TS b) = some (decide (a = b)) := by
  unfold eqd
  rw [pd_TS, pd_TS]
  show (if min (PS a).depth (PS b).depth ≤ 60 then some ((PS a).eqv (PS b)) else none) = _
  rw [depth_PS, depth_PS, if_pos (by decide), eqv_PS]
theorem lt_PS (a b : List Str) : dataLt (PS a) (PS b) = listLt a b := (PySem.W.dataLt_tuple _ _).trans (PySem.W.lexAll_map a b)
theorem lt_self (a : List Str) : listLt a a = false := by rw [← lt_PS]; exact PySem.W.dataLt_self _
theorem lt_trans' {a b c : List Str} (h1 : listLt a b = true) (h2 : listLt b c = true) : listLt a c = true := by
  rw [← lt_PS] at h1 h2 ⊢
  exact PyProof.Rows.lex_trans _ _ _ h1 h2
theorem str_total {x y : Str} (h1 : ¬ x.cps.toList < y.cps.toList) (h2 : ¬ y.cps.toList < x.cps.toList) : x = y := PySem.W.str_of_cps (List.le_antisymm (List.not_lt.mp h2) (List.not_lt.mp h1))
theorem lt_total : ∀ {a b : List Str}, listLt a b = false → listLt b a = false → a = b
  | [], [], _, _ => rfl
  | [], y :: b, h, _ => by cases h
  | x :: a, [], _, h => by cases h
  | x :: a, y :: b, h1, h2 => by
    unfold listLt at h1 h2
    by_cases e : x = y
    · rw [if_pos e] at h1
      rw [if_pos e.symm] at h2
      rw [e, lt_total h1 h2]
    · rw [if_neg e] at h1
      rw [if_neg (Ne.symm e)] at h2
      exact absurd (str_total (of_decide_eq_false h1) (of_decide_eq_false h2)) e
/-! ### the least -/
section
variable {α β : Type}
theorem leastBy_map (f : α → β) (lt : β → β → Bool) (lt' : α → α → Bool) (h : ∀ a b, lt (f a) (f b) = lt' a b) : ∀ (l : List α) (b : α), leastBy lt (f b) (l.map f) = f (leastBy lt' b l)
  | [], b => rfl
  | x :: l, b => by
    show leastBy lt (if lt (f x) (f b) then f x else f b) (l.map f) = f (leastBy lt' (if lt' x b then x else b) l)
    rw [h, ← leastBy_map f lt lt' h l]
    split <;> rfl
theorem leastBy_mem (lt : α → α → Bool) : ∀ (l : List α) (b : α), leastBy lt b l ∈ b :: l
  | [], b => List.mem_singleton_self _
  | x :: l, b => by
    show leastBy lt (if lt x b then x else b) l ∈ _
    rcases List.mem_cons.mp (leastBy_mem lt l (if lt x b then x else b)) with h | h
    · rw [h]; split
      · exact List.mem_cons_of_mem _ List.mem_cons_self
      · exact List.mem_cons_self
    · exact List.mem_cons_of_mem _ (List.mem_cons_of_mem _ h)
theorem leastBy_le {lt : α → α → Bool} (ir : ∀ a, lt a a = false) (tr : ∀ a b c, lt a b = true → lt b c = true → lt a c = true) (tot : ∀ a b, lt a b = false → lt b a = false → a = b) : ∀ (l : List α) (b y : α), y ∈ b :: l → lt y (leastBy lt b l) = false
  | [], b, y, h => by
    rw [List.mem_singleton.mp h]; exact ir b
  | x :: l, b, y, h => by
    show lt y (leastBy lt (if lt x b then x else b) l) = false
    have nt : ∀ {p q r : α}, lt p q = false → lt q r = false → lt p r = false := fun {p q r} h1 h2 => by
      cases e : lt p r with
      | false => rfl
      | true =>
        cases e2 : lt q p with
        | true => rw [tr _ _ _ e2 e] at h2; cases h2
        | false => rw [tot _ _ h1 e2, h2] at e; cases e
    have ih := leastBy_le ir tr tot l (if lt x b then x else b)
    rcases List.mem_cons.mp h with e | h
    · subst e
      by_cases c : lt x y = true
      · rw [if_pos c] at ih ⊢
        refine nt ?_ (ih x List.mem_cons_self)
        cases e : lt y x with
        | false => rfl
        | true => have := tr _ _ _ c e; rw [ir] at this; cases this
      · rw [if_neg c] at ih ⊢
        exact ih y List.mem_cons_self
    · rcases List.mem_cons.mp h with e | h
      · subst e
        by_cases c : lt y b = true
        · rw [if_pos c] at ih ⊢
          exact ih y List.mem_cons_self
        · rw [if_neg c] at ih ⊢
          exact nt (by simpa using c) (ih b List.mem_cons_self)
      · exact ih y (List.mem_cons_of_mem _ h)
end
/-- the least of some rows of texts -/
def least (b : List Str) (l : List (List Str)) : List Str := leastBy listLt b l
theorem least_mem (b : List Str) (l : List (List Str)) : least b l ∈ b :: l := leastBy_mem _ l b
theorem least_le {b y : List Str} {l : List (List Str)} (h : y ∈ b :: l) : listLt y (least b l) = false := leastBy_le lt_self (fun _ _ _ => lt_trans') (fun _ _ => lt_total) l b y h
/-- the same rows have the same least -/
theorem least_eq {b b' : List Str} {l l' : List (List Str)} (h : ∀ y, y ∈ b :: l ↔ y ∈ b' :: l') : least b l = least b' l' :=
  lt_total (least_le ((h _).mp (least_mem b l))) (least_le ((h _).mpr (least_mem b' l')))
theorem alike_strs : ∀ a b : List Str, alikeAll (a.map PyData.str) (b.map PyData.str) = true
  | [], _ => by simp only [List.map_nil, alikeAll]
  | x :: a, [] => by simp only [List.map_nil, List.map_cons, alikeAll]
  | x :: a, y :: b => by simp only [List.map_cons, alikeAll, alike, alike_strs a b, Bool.and_self]
theorem alike_PS (a b : List Str) : alike (PS a) (PS b) = true := by
  unfold PS
  simp only [alike, alike_strs]
theorem pure_strs : ∀ l : List Str, pureDs (l.map D.str) = true
  | [] => rfl
  | x :: l => by
    show (pureD (.str x) && pureDs (l.map D.str)) = true
    rw [pure_strs l]; rfl
theorem pures_TS : ∀ ls : List (List Str), pureDs (ls.map TS) = true
  | [] => rfl
  | x :: l => by
    show (pureDs (x.map D.str) && pureDs (l.map TS)) = true
    rw [pure_strs, pures_TS l]; rfl
theorem best_TS (S : Store) (b : List Str) (l : List (List Str)) : best S false ((b :: l).map TS) = some (TS (least b l)) := by
  unfold best
  rw [pds_TS]
  show (match ((b :: l).map TS).zip ((b :: l).map PS) with
    | [] => none
    | x :: r => if alikes ((b :: l).map PS) = true ∧ PyData.depthAll ((b :: l).map PS) ≤ 60 ∧ pureDs ((b :: l).map TS) = true ∧ (((b :: l).map PS).all fun p => match p with | .none => false | _ => true) = true then
      some (leastBy (fun a b : D × PyData => if false then dataLt b.2 a.2 else dataLt a.2 b.2) x r).1 else none) = _
  have hz : ((b :: l).map TS).zip ((b :: l).map PS) = (b :: l).map fun x => (TS x, PS x) := by
    rw [List.zip_map']
  rw [hz, List.map_cons]
  dsimp only
  have h1 : alikes ((b :: l).map PS) = true := by
    unfold alikes
    rw [List.all_eq_true]
    intro p hp
    rw [List.all_eq_true]
    intro q hq
    obtain ⟨x, _, rfl⟩ := List.mem_map.mp hp
    obtain ⟨y, _, rfl⟩ := List.mem_map.mp hq
    exact alike_PS x y
  have h2 : PyData.depthAll ((b :: l).map PS) ≤ 60 := Nat.le_trans (depths_PS (b :: l)) (by decide)
  have h3 : (((b :: l).map PS).all fun p => match p with | .none => false | _ => true) = true := by
    rw [List.all_eq_true]
    intro p hp
    obtain ⟨x, _, rfl⟩ := List.mem_map.mp hp
    rfl
  rw [if_pos ⟨h1, h2, pures_TS (b :: l), h3⟩, leastBy_map (fun x => (TS x, PS x)) _ listLt fun x y => (by
    rw [if_neg (by decide)]
    exact lt_PS x y)]
  rfl
/-! ### comprehensions -/
/-- each item gives an item, the store stays -/
theorem compL_map {α : Type} {step : α → Store → Res (Option D)} {g : Store → Bool} {S : Store} {f : α → D} (hg : g S = true) : ∀ (l : List α) (acc : List D), (∀ a ∈ l, step a S = .ok (some (f a)) S) → acc.length + l.length ≤ LINE →
    compL step g l S acc = .ok (acc ++ l.map f) S
  | [], acc, _, _ => by
    show (if g S then Res.ok acc S else .bad) = _
    rw [if_pos hg, List.map_nil, List.append_nil]
  | a :: l, acc, h, hl => by
    rw [List.length_cons] at hl
    show (if g S then (step a S).bind fun o S1 => match o with
      | some y => if acc.length < LINE then compL step g l S1 (acc ++ [y]) else .bad
      | none => compL step g l S1 acc
    else .bad) = _
    rw [if_pos hg, h a List.mem_cons_self, rk]
    show (if acc.length < LINE then compL step g l S (acc ++ [f a]) else .bad) = _
    rw [if_pos (by omega), compL_map hg l (acc ++ [f a]) (fun b hb => h b (List.mem_cons_of_mem _ hb)) (by rw [List.length_append, List.length_singleton]; omega)]
    rw [List.map_cons, List.append_assoc]
    rfl
end RA

set_option maxRecDepth 100000
set_option maxHeartbeats 4000000
set_option autoImplicit false
/-! R4: rotations of a list, its least period. No program in sight. -/
namespace Rot
variable {α : Type}
def rot (i : Nat) (l : List α) : List α := l.drop i ++ l.take i
def reps (k : Nat) (l : List α) : List α := (List.replicate k l).flatten
theorem reps_length (k : Nat) (l : List α) : (reps k l).length = k * l.length := by
  unfold reps
  induction k with
  | zero => simp
  | succ k ih => rw [List.replicate_succ, List.flatten_cons, List.length_append, ih, Nat.succ_mul, Nat.add_comm]
theorem reps_get {l : List α} (h : 0 < l.length) : ∀ (k i : Nat), i < k * l.length → (reps k l)[i]? = l[i % l.length]?
  | 0, i, hi => by simp at hi
  | k + 1, i, hi => by
    have e : reps (k + 1) l = l ++ reps k l := by
      unfold reps
      rw [List.replicate_succ, List.flatten_cons]
    rw [e]
    by_cases hl : i < l.length
    · rw [List.getElem?_append_left hl, Nat.mod_eq_of_lt hl]
    · rw [List.getElem?_append_right (Nat.le_of_not_lt hl), reps_get h k (i - l.length) (by rw [Nat.succ_mul] at hi; omega)]
      rw [Nat.mod_eq_sub_mod (Nat.le_of_not_lt hl)]
/-- the item at i, round and round -/
def F (l : List α) (i : Nat) : Option α := l[i % l.length]?
/-- d on is the same -/
def Sh (l : List α) (d : Nat) : Prop := ∀ i, F l (i + d) = F l i
theorem Sh.len (l : List α) : Sh l l.length := fun i => by unfold F; rw [Nat.add_mod_right]
theorem Sh.mul {l : List α} {d : Nat} (h : Sh l d) : ∀ k, Sh l (d * k)
  | 0 => fun i => by rw [Nat.mul_zero, Nat.add_zero]
  | k + 1 => fun i => by rw [Nat.mul_succ, ← Nat.add_assoc, h, Sh.mul h k]
theorem Sh.mod {l : List α} {a b : Nat} (ha : Sh l a) (hb : Sh l b) : Sh l (b % a) := fun i => by
  have h1 := Sh.mul ha (b / a) (i + b % a)
  rw [← h1, Nat.add_assoc, Nat.mod_add_div, hb]
theorem Sh.gcd {l : List α} (a b : Nat) (ha : Sh l a) (hb : Sh l b) : Sh l (Nat.gcd a b) := by
  induction a, b using Nat.gcd.induction with
  | H0 n => rw [Nat.gcd_zero_left]; exact hb
  | H1 m n hm ih => rw [Nat.gcd_rec]; exact ih (ha.mod hb) ha
/-- p is a period that divides the length -/
def Per (l : List α) (p : Nat) : Prop := 0 < p ∧ p ∣ l.length ∧ Sh l p
theorem F_lt {l : List α} {i : Nat} (h : i < l.length) : F l i = l[i]? := by unfold F; rw [Nat.mod_eq_of_lt h]
theorem F_mod {l : List α} {p : Nat} (h : Sh l p) (i : Nat) : F l i = F l (i % p) := by
  have := Sh.mul h (i / p) (i % p)
  rw [Nat.mod_add_div] at this
  exact this
/-- what the programs look at -/
theorem per_iff {l : List α} {p : Nat} (hp : 0 < p) (hd : p ∣ l.length) (h0 : 0 < l.length) : reps (l.length / p) (l.take p) = l ↔ Sh l p := by
  have hpl : p ≤ l.length := Nat.le_of_dvd h0 hd
  have tl : (l.take p).length = p := by rw [List.length_take]; omega
  have mul : l.length / p * p = l.length := Nat.div_mul_cancel hd
  have at_ : ∀ i, i < l.length → (reps (l.length / p) (l.take p))[i]? = l[i % p]? := fun i hi => by
    rw [reps_get (by rw [tl]; exact hp) _ _ (by rw [tl, mul]; exact hi), tl, List.getElem?_take, if_pos (Nat.mod_lt _ hp)]
  constructor
  · intro h
    have per : ∀ i, i < l.length → l[i]? = l[i % p]? := fun i hi => by rw [← at_ i hi, h]
    have key : ∀ x, F l x = l[x % p]? := fun x => by
      unfold F
      rw [per _ (Nat.mod_lt _ h0), Nat.mod_mod_of_dvd _ hd]
    intro i
    rw [key, key, Nat.add_mod_right]
  · intro h
    refine List.ext_getElem? fun i => ?_
    by_cases hi : i < l.length
    · rw [at_ i hi, ← F_lt (l := l) (Nat.lt_of_lt_of_le (Nat.mod_lt _ hp) hpl), ← F_mod h, F_lt hi]
    · rw [List.getElem?_eq_none (by rw [reps_length, tl, mul]; omega), List.getElem?_eq_none (by omega)]
theorem per_of_sh {l : List α} {d : Nat} (h : Sh l d) (h0 : 0 < l.length) : Per l (Nat.gcd d l.length) := ⟨Nat.gcd_pos_of_pos_right _ h0, Nat.gcd_dvd_right _ _, h.gcd _ _ (Sh.len l)⟩
/-! ### rotations -/
theorem rot_length {l : List α} {i : Nat} (h : i ≤ l.length) : (rot i l).length = l.length := by
  unfold rot
  rw [List.length_append, List.length_drop, List.length_take]; omega
theorem rot_get {l : List α} {i j : Nat} (hi : i ≤ l.length) (hj : j < l.length) : (rot i l)[j]? = F l (i + j) := by
  unfold rot F
  by_cases h : j < l.length - i
  · rw [List.getElem?_append_left (by rw [List.length_drop]; exact h), List.getElem?_drop, Nat.mod_eq_of_lt (by omega)]
  · rw [List.getElem?_append_right (by rw [List.length_drop]; omega), List.length_drop, List.getElem?_take, if_pos (by omega)]
    have e : (i + j) % l.length = j - (l.length - i) := by
      rw [Nat.mod_eq_sub_mod (by omega), Nat.mod_eq_of_lt (by omega)]; omega
    rw [e]
theorem rot_ext {l : List α} {i j : Nat} (hi : i ≤ l.length) (hj : j ≤ l.length) : rot i l = rot j l ↔ ∀ t, F l (i + t) = F l (j + t) := by
  constructor
  · intro h t
    by_cases h0 : 0 < l.length
    · have m : ∀ a, F l (a + t) = F l (a + t % l.length) := fun a => by unfold F; rw [Nat.add_mod_mod]
      rw [m i, m j, ← rot_get hi (Nat.mod_lt _ h0), ← rot_get hj (Nat.mod_lt _ h0), h]
    · have : l.length = 0 := by omega
      have hi0 : i = 0 := by omega
      have hj0 : j = 0 := by omega
      rw [hi0, hj0]
  · intro h
    refine List.ext_getElem? fun t => ?_
    by_cases ht : t < l.length
    · rw [rot_get hi ht, rot_get hj ht, h]
    · rw [List.getElem?_eq_none (by rw [rot_length hi]; omega), List.getElem?_eq_none (by rw [rot_length hj]; omega)]
theorem sh_of_rot {l : List α} {i j : Nat} (hj : j ≤ l.length) (hij : i ≤ j) (h : rot i l = rot j l) : Sh l (j - i) := fun x => by
  have hi : i ≤ l.length := Nat.le_trans hij hj
  have e := (rot_ext hi hj).mp h
  by_cases h0 : 0 < l.length
  · have hn : i ≤ l.length * i := Nat.le_mul_of_pos_left i h0
    have q := e (x + (l.length * i - i))
    rw [show i + (x + (l.length * i - i)) = x + l.length * i from by omega, show j + (x + (l.length * i - i)) = (x + (j - i)) + l.length * i from by omega] at q
    rw [Sh.mul (Sh.len l) i, Sh.mul (Sh.len l) i] at q
    exact q.symm
  · have : j - i = 0 := by omega
    rw [this, Nat.add_zero]
theorem rot_of_sh {l : List α} {p i : Nat} (h : Sh l p) (hp : 0 < p) (hpl : p ≤ l.length) (hi : i ≤ l.length) : rot i l = rot (i % p) l := by
  refine (rot_ext hi (Nat.le_trans (Nat.le_of_lt (Nat.mod_lt _ hp)) hpl)).mpr fun t => ?_
  have e : i + t = (i % p + t) + p * (i / p) := by
    have := Nat.mod_add_div i p
    omega
  rw [e, Sh.mul h]
/-- the least period -/
def Least (l : List α) (p : Nat) : Prop := Per l p ∧ ∀ q, Per l q → p ≤ q
theorem Least.le {l : List α} {p : Nat} (h : Least l p) (h0 : 0 < l.length) : p ≤ l.length := Nat.le_of_dvd h0 h.1.2.1
theorem Least.inj {l : List α} {p i j : Nat} (h : Least l p) (h0 : 0 < l.length) (hj : j < p) (hij : i < j) : rot i l ≠ rot j l := fun e => by
  have := h.le h0
  have s := sh_of_rot (by omega) (Nat.le_of_lt hij) e
  have q := h.2 _ (per_of_sh s h0)
  have := Nat.gcd_le_left (m := j - i) l.length (by omega)
  omega
theorem Least.uniq {l : List α} {p q : Nat} (a : Least l p) (b : Least l q) : p = q := Nat.le_antisymm (a.2 _ b.1) (b.2 _ a.1)
/-- all rotations, each once -/
def turns (l : List α) (p : Nat) : List (List α) := (List.range p).map fun i => rot i l
theorem mem_turns {l : List α} {p : Nat} (h : Least l p) (h0 : 0 < l.length) {y : List α} : y ∈ turns l p ↔ ∃ i, i ≤ l.length ∧ y = rot i l := by
  unfold turns
  rw [List.mem_map]
  constructor
  · rintro ⟨i, hi, rfl⟩
    have := List.mem_range.mp hi
    exact ⟨i, Nat.le_trans (Nat.le_of_lt this) (h.le h0), rfl⟩
  · rintro ⟨i, hi, rfl⟩
    exact ⟨i % p, List.mem_range.mpr (Nat.mod_lt _ h.1.1), (rot_of_sh h.1.2.2 h.1.1 (h.le h0) hi).symm⟩
theorem F_rot {l : List α} {i : Nat} (hi : i ≤ l.length) (x : Nat) : F (rot i l) x = F l (i + x) := by
  unfold F
  rw [rot_length hi]
  by_cases h0 : 0 < l.length
  · rw [rot_get hi (Nat.mod_lt _ h0)]
    unfold F
    rw [Nat.add_mod_mod]
  · have e : l = [] := List.length_eq_zero_iff.mp (by omega)
    subst e
    have : i = 0 := by simpa using hi
    subst this
    rfl
theorem rot_rot {l : List α} {i j : Nat} (hi : i ≤ l.length) (hj : j ≤ l.length) : ∃ k, k ≤ l.length ∧ rot j (rot i l) = rot k l := by
  by_cases h0 : 0 < l.length
  · refine ⟨(i + j) % l.length, Nat.le_of_lt (Nat.mod_lt _ h0), ?_⟩
    refine List.ext_getElem? fun t => ?_
    by_cases ht : t < l.length
    · rw [rot_get (by rw [rot_length hi]; exact hj) (by rw [rot_length hi]; exact ht), F_rot hi, rot_get (Nat.le_of_lt (Nat.mod_lt _ h0)) ht]
      unfold F
      rw [Nat.mod_add_mod, Nat.add_assoc]
    · rw [List.getElem?_eq_none (by rw [rot_length (by rw [rot_length hi]; exact hj), rot_length hi]; omega), List.getElem?_eq_none (by rw [rot_length (Nat.le_of_lt (Nat.mod_lt _ h0))]; omega)]
  · have e : l = [] := List.length_eq_zero_iff.mp (by omega)
    subst e
    exact ⟨0, Nat.le_refl _, by simp [rot]⟩
/-- back again -/
theorem rot_back {l : List α} {i : Nat} (hi : i ≤ l.length) : rot (l.length - i) (rot i l) = l := by
  unfold rot
  have e : (l.drop i).length = l.length - i := List.length_drop
  have a : (l.drop i ++ l.take i).drop (l.length - i) = l.take i := by rw [← e, List.drop_left]
  have b : (l.drop i ++ l.take i).take (l.length - i) = l.drop i := by rw [← e, List.take_left]
  rw [a, b, List.take_append_drop]
/-- rotations of a rotation are those of the list -/
theorem mem_rots {l y : List α} : (∃ i, i ≤ l.length ∧ y = rot i l) → ∀ z, (∃ i, i ≤ y.length ∧ z = rot i y) ↔ ∃ i, i ≤ l.length ∧ z = rot i l := by
  rintro ⟨i, hi, rfl⟩ z
  constructor
  · rintro ⟨j, hj, rfl⟩
    exact rot_rot hi (by rw [rot_length hi] at hj; exact hj) |>.imp fun k h => h
  · rintro ⟨j, hj, rfl⟩
    have hl := rot_length hi
    obtain ⟨k, hk, e⟩ := rot_rot (l := rot i l) (i := l.length - i) (j := j) (by rw [hl]; omega) (by rw [hl]; exact hj)
    rw [rot_back hi] at e
    exact ⟨k, hk, e⟩
end Rot

set_option linter.all false
set_option maxRecDepth 100000
set_option maxHeartbeats 4000000
set_option autoImplicit false
/-! R5: k21: what the program's defs give on good days. -/
namespace Law
open PySem (Str PyData)
open RA
variable {W : Nat}
/-- the names that the law draws -/
def OKN : List Str := ["a", "b", "a.", "ab", "day", "z9", "q"]
theorem is_name {x : Str} (h : x ∈ OKN) (k : Nat) (S : Store) : callF TC GA W (k + 1) 0 [.str x] S = .ok (.bl true) S := by
  simp only [OKN, List.mem_cons, List.not_mem_nil, or_false] at h
  rcases h with rfl | rfl | rfl | rfl | rfl | rfl | rfl <;> kernel_rfl
/-- good days -/
structure Days (l : List Str) : Prop where
  nm : ∀ x ∈ l, x ∈ OKN
  lo : 1 ≤ l.length
  hi : l.length ≤ 400
theorem fnEq (k : Nat) : (ora1 TC GA (callF TC GA W k) W).fn = callF TC GA W k := rfl
theorem boolsOf_true : ∀ l : List Str, boolsOf (l.map fun _ => D.bl true) = some (l.map fun _ => true)
  | [] => rfl
  | x :: l => by
    show (boolsOf (l.map fun _ => D.bl true)).map (fun r => true :: r) = _
    rw [boolsOf_true l]; rfl
theorem is_days {l : List Str} (d : Days l) (k : Nat) (S : Store) : callF TC GA W (k + 2) 1 [TS l] S = .ok (.bl true) S := by
  rw [callF_eq (fn := F1) rfl rfl]
  have s1 : RA.start 2 [TS l] = [some (TS l), none] := rfl
  have comp : RA.evalE (ora1 TC GA (callF TC GA W (k + 1)) W) (.comp [1] false [1] .val [(.var 0)] (.con (.bl true)) (.call 0 [(.var 1)])) [some (TS l), none] S = .ok (.vl (l.map fun _ => D.bl true)) S := by
    show (compL _ (fun S => still S (l.map D.str, none)) (l.map D.str) S []).bind _ = _
    rw [compL_map (f := fun _ => D.bl true) rfl]
    · show Res.ok (D.vl ([] ++ (l.map D.str).map fun _ => D.bl true)) S = _
      rw [List.nil_append, List.map_map]; rfl
    · intro a ha
      obtain ⟨x, hx, rfl⟩ := List.mem_map.mp ha
      show ((((callF TC GA W (k + 1) 0 [.str x] S).noexc).bind fun y S => Res.ok (some y) S) : Res (Option D)) = _
      rw [is_name (d.nm x hx)]
      rfl
    · rw [List.length_map, List.length_nil]
      have := d.hi
      exact Nat.le_trans (by omega) (by decide : 400 ≤ LINE)
  have len : lenD S (TS l) = some (.int (l.length : Int)) := by
    show some (D.int ((l.map D.str).length : Int)) = _
    rw [List.length_map]
  have c1 : decide ((1 : Int) ≤ (l.length : Int)) = true := decide_eq_true (by exact_mod_cast d.lo)
  have c2 : decide ((l.length : Int) ≤ 400) = true := decide_eq_true (by exact_mod_cast d.hi)
  have it : isinstD S (TS l) (.ty "tuple") = some (.bl true) := rfl
  have al : bcall S .all [.vl (l.map fun _ => D.bl true)] = some (.bl true) := by
    show ((boolsOf (l.map fun _ => D.bl true)).map fun r => D.bl (r.all id)) = _
    rw [boolsOf_true]
    show some (D.bl ((l.map fun _ => true).all id)) = _
    have : (l.map fun _ => true).all id = true := by simp
    rw [this]
  have eA : RA.evalE (ora1 TC GA (callF TC GA W (k + 1)) W) (.bcall .isinst [(.var 0), (.con (.ty "tuple"))]) [some (TS l), none] S = .ok (.bl true) S := rfl
  have eL : RA.evalE (ora1 TC GA (callF TC GA W (k + 1)) W) (.bcall .len [(.var 0)]) [some (TS l), none] S = .ok (.int (l.length : Int)) S := by
    show RA.lift S (lenD S (TS l)) = _
    rw [len]; rfl
  have eB : RA.evalE (ora1 TC GA (callF TC GA W (k + 1)) W) (.chain .le .le (.con (.int 1)) (.bcall .len [(.var 0)]) (.con (.int 400))) [some (TS l), none] S = .ok (.bl true) S := by
    simp only [ev_chain, eL, ev_con, rk, lk, cmpop, les, c1, c2, Option.map_some]
  have eC : RA.evalE (ora1 TC GA (callF TC GA W (k + 1)) W) (.bcall .all [(.comp [1] false [1] .val [(.var 0)] (.con (.bl true)) (.call 0 [(.var 1)]))]) [some (TS l), none] S = .ok (.bl true) S := by
    rw [ev_bcall1, comp, rk, al]; rfl
  simp only [F1, I1, s1, xs_cons, st_ret, ev_and, eA, eB, eC, rk, lk, truth, if_true, fin]
end Law

set_option linter.all false
set_option maxRecDepth 100000
set_option maxHeartbeats 4000000
set_option autoImplicit false
/-! R6: k21: the period, the rotations. -/
namespace Law
open PySem (Str PyData)
open RA Rot
variable {W : Nat}
theorem require_days {l : List Str} (d : Days l) (k : Nat) (S : Store) : callF TC GA W (k + 3) 2 [TS l] S = .ok .non S := by
  rw [callF_eq (fn := F2) rfl rfl]
  have s1 : RA.start 1 [TS l] = [some (TS l)] := rfl
  have e : RA.evalE (ora1 TC GA (callF TC GA W (k + 2)) W) (.call 1 [.var 0]) [some (TS l)] S = .ok (.bl true) S := by
    rw [ev_call1]
    exact is_days d k S
  simp only [F2, I2, s1, xs_cons, st_ite, ev_not, e, rk, lk, truth, Option.map_some, Bool.not_true, Bool.false_eq_true, if_false, xs_nil, fin]
theorem eqd_int (S : Store) (a b : Int) : eqd S (.int a) (.int b) = some (decide (a = b)) := by
  show (if min (PyData.int a).depth (PyData.int b).depth ≤ 60 then some ((PyData.int a).eqv (PyData.int b)) else none) = _
  rw [if_pos (by simp only [PyData.depth]; decide)]
  simp only [PyData.eqv]
  rfl
theorem fmod_nat (a b : Nat) : (a : Int).fmod (b : Int) = ((a % b : Nat) : Int) := by
  rw [Int.fmod_eq_emod_of_nonneg _ (Int.natCast_nonneg b)]; rfl
theorem fdiv_nat (a b : Nat) : (a : Int).fdiv (b : Int) = ((a / b : Nat) : Int) := by
  rw [Int.fdiv_eq_ediv_of_nonneg _ (Int.natCast_nonneg b)]; rfl
theorem log_small {m : Nat} (h : m ≤ 1000) : ((m : Nat) : Int).natAbs.log2 < 9000 := log_len (Nat.le_trans h (by decide))
theorem slice_lo (S : Store) (l : List Str) {q : Nat} (h : q ≤ l.length) : slice S (TS l) .non (.int (q : Int)) = some (TS (l.take q)) := by
  show some (D.tup (cut (l.map D.str) none (some (q : Int)))) = _
  unfold cut
  have e : six (l.map D.str).length (l.map D.str).length (some (q : Int)) = q := by
    show (if (q : Int) < 0 then ((q : Int) + ((l.map D.str).length : Int)).toNat else min (q : Int).toNat (l.map D.str).length) = q
    rw [if_neg (by omega)]
    simp only [List.length_map, Int.toNat_natCast]
    omega
  rw [e]
  show some (D.tup (((l.map D.str).drop 0).take (q - 0))) = _
  rw [List.drop_zero, Nat.sub_zero, ← List.map_take]
  rfl
theorem slice_hi (S : Store) (l : List Str) {q : Nat} (h : q ≤ l.length) : slice S (TS l) (.int (q : Int)) .non = some (TS (l.drop q)) := by
  show some (D.tup (cut (l.map D.str) (some (q : Int)) none)) = _
  unfold cut
  have e : six (l.map D.str).length 0 (some (q : Int)) = q := by
    show (if (q : Int) < 0 then ((q : Int) + ((l.map D.str).length : Int)).toNat else min (q : Int).toNat (l.map D.str).length) = q
    rw [if_neg (by omega)]
    simp only [List.length_map, Int.toNat_natCast]
    omega
  rw [e]
  show some (D.tup (((l.map D.str).drop q).take ((l.map D.str).length - q))) = _
  rw [List.take_of_length_le (by rw [List.length_drop]; exact Nat.le_refl _), ← List.map_drop]
  rfl
theorem rep_strs (k : Nat) (l : List Str) : rep (k : Int) (l.map D.str) = (reps k l).map D.str := by
  unfold rep reps
  rw [Int.toNat_natCast, List.map_flatten, List.map_replicate]
theorem mul_TS (S : Store) {l : List Str} {k : Nat} (h1 : k ≤ 1000) (h2 : l.length ≤ 1000) : binop S .mul (TS l) (.int (k : Int)) = some (TS (reps k l)) := by
  show (if -1000 ≤ (k : Int) ∧ (k : Int) ≤ 1000 ∧ (l.map D.str).length ≤ 1000 then some (D.tup (rep (k : Int) (l.map D.str))) else none) = _
  rw [if_pos ⟨by omega, by omega, by rw [List.length_map]; exact h2⟩, rep_strs]
  rfl
theorem add_TS (S : Store) {a b : List Str} (h : a.length + b.length ≤ 16777216) : binop S .add (TS a) (TS b) = some (TS (a ++ b)) := by
  show (if (a.map D.str).length + (b.map D.str).length ≤ LINE then some (D.tup (a.map D.str ++ b.map D.str)) else none) = _
  rw [List.length_map, List.length_map, if_pos (show a.length + b.length ≤ LINE from h), ← List.map_append]
  rfl
theorem len_TS (S : Store) (l : List Str) : lenD S (TS l) = some (.int (l.length : Int)) := by
  show some (D.int ((l.map D.str).length : Int)) = _
  rw [List.length_map]
/-! ### the loop that looks for a period -/
/-- what is looked at -/
def good (l : List Str) (q : Nat) : Bool := decide (l.length % q = 0) && decide (reps (l.length / q) (l.take q) = l)
theorem good_iff {l : List Str} {q : Nat} (hq : 0 < q) (h0 : 0 < l.length) : good l q = true ↔ Per l q := by
  unfold good Per
  rw [Bool.and_eq_true, decide_eq_true_eq, decide_eq_true_eq]
  constructor
  · rintro ⟨h1, h2⟩
    have hd := Nat.dvd_of_mod_eq_zero h1
    exact ⟨hq, hd, (per_iff hq hd h0).mp h2⟩
  · rintro ⟨_, hd, h⟩
    exact ⟨Nat.mod_eq_zero_of_dvd hd, (per_iff hq hd h0).mpr h⟩
/-- the first of some that are good -/
def firstGood (l : List Str) : List Nat → Option Nat
  | [] => none
  | q :: r => if good l q then some q else firstGood l r
/-- a for over whole numbers that returns the first good one; i, o: the slots -/
theorem for_good {l : List Str} {S : Store} {g : Store → Bool} (hg : g S = true) {step : D → Sig → Store → Res Out} {P : Sig → Prop} {ret : Nat → D} (hs : ∀ (q : Nat) σ, P σ → q < 1000 → 0 < q → q ≤ l.length → ∃ σ', P σ' ∧ step (.int (q : Int)) σ S = if good l q then .ok (.ret (ret q)) S else .ok (.nx σ') S) :
    ∀ (qs : List Nat) σ, P σ → (∀ q ∈ qs, 0 < q ∧ q ≤ l.length ∧ q < 1000) → ∃ σ', P σ' ∧ forL step g (qs.map fun q : Nat => D.int (q : Int)) σ S = match firstGood l qs with | some q => .ok (.ret (ret q)) S | none => .ok (.nx σ') S
  | [], σ, h, _ => ⟨σ, h, by
    show (if g S then Res.ok (Out.nx σ) S else .bad) = _
    rw [if_pos hg]; rfl⟩
  | q :: r, σ, h, hq => by
    obtain ⟨q1, q2, q3⟩ := hq q List.mem_cons_self
    obtain ⟨σ1, h1, e1⟩ := hs q σ h q3 q1 q2
    obtain ⟨σ2, h2, e2⟩ := for_good hg hs r σ1 h1 fun q' hq' => hq q' (List.mem_cons_of_mem _ hq')
    refine ⟨σ2, h2, ?_⟩
    show (if g S then (step (.int (q : Int)) σ S).bind fun o S => match o with
      | .nx σ => forL step g (r.map fun q : Nat => D.int (q : Int)) σ S
      | .ret x => .ok (.ret x) S
    else .bad) = _
    rw [if_pos hg, e1]
    unfold firstGood
    by_cases gd : good l q = true
    · rw [if_pos gd, if_pos gd]; rfl
    · rw [if_neg gd, if_neg gd]
      exact e2
theorem firstGood_least {l : List Str} (h0 : 0 < l.length) : ∀ (k a : Nat), 0 < a → (∀ q, 0 < q → q < a → ¬ Per l q) → match firstGood l ((List.range k).map fun i => a + i) with
    | some q => Least l q
    | none => ∀ q, 0 < q → q < a + k → ¬ Per l q
  | 0, a, ha, h => h
  | k + 1, a, ha, h => by
    rw [List.range_succ_eq_map, List.map_cons, List.map_map]
    have e : ((fun i => a + i) ∘ Nat.succ) = fun i => a + 1 + i := by funext i; simp only [Function.comp]; omega
    rw [e]
    unfold firstGood
    by_cases g : good l (a + 0) = true
    · rw [if_pos g]
      have p := (good_iff ha h0).mp g
      exact ⟨p, fun q hq => Nat.le_of_not_lt fun z => h q hq.1 z hq⟩
    · rw [if_neg g]
      have := firstGood_least h0 k (a + 1) (Nat.succ_pos _) fun q q0 hq hp => by
        by_cases e : q = a
        · subst e; exact g ((good_iff ha h0).mpr hp)
        · exact h q q0 (by omega) hp
      rw [show a + (k + 1) = a + 1 + k from by omega]
      exact this
/-- the least period, as the programs find it -/
def per (l : List Str) : Nat := (firstGood l ((List.range (l.length - 1)).map fun i => 1 + i)).getD l.length
theorem per_least {l : List Str} (h0 : 0 < l.length) : Least l (per l) := by
  have := firstGood_least h0 (l.length - 1) 1 (by decide) fun q q0 hq => by omega
  unfold per
  cases e : firstGood l ((List.range (l.length - 1)).map fun i => 1 + i) with
  | some q => rw [e] at this; exact this
  | none =>
    rw [e] at this
    refine ⟨⟨h0, Nat.dvd_refl _, Sh.len l⟩, fun q hq => Nat.le_of_not_lt fun z => this q hq.1 ?_ hq⟩
    have : q < l.length := z
    omega
/-- a turn of a for -/
def turn (T : Cls) (C : Ora) (tup : Bool) (tgt : List Nat) (body : List RA.St) (d : D) (σ : Sig) (S : Store) : Res Out := match target σ tup tgt d with
  | none => .bad
  | some σ2 => RA.execs T C body σ2 S
theorem turn_eq {C : Ora} {T : Cls} {tup : Bool} {tgt : List Nat} {body : List RA.St} {d : D} {σ σ2 : Sig} {S : Store} (h : target σ tup tgt d = some σ2) : turn T C tup tgt body d σ S = RA.execs T C body σ2 S := by
  unfold turn
  rw [h]
theorem st_loop {C : Ora} {T : Cls} {τ : Sig} {S : Store} {tup : Bool} {tgt : List Nat} {sk : SK} {es : List E} {body : List RA.St} {ds : List D} {it : List D} {o : Option Nat} (h : RA.evalEs C es τ S = .ok ds S) (hi : srcOf S sk ds = some (it, o)) :
    RA.execS T C (.loop tup tgt sk es body) τ S = forL (turn T C tup tgt body) (fun S => still S (it, o)) it τ S := by
  have e : RA.execS T C (.loop tup tgt sk es body) τ S = (RA.evalEs C es τ S).bind fun ds S => match srcOf S sk ds with
    | none => Res.bad
    | some it => forL (turn T C tup tgt body) (fun S => still S it) it.1 τ S := rfl
  rw [e, h, rk, hi]
theorem rng2I {S : Store} {i j : Int} (h : -(2 ^ 62) ≤ i ∧ i < 2 ^ 62 ∧ -(2 ^ 62) ≤ j ∧ j < 2 ^ 62) : srcOf S .rng2 [.int i, .int j] = some ((List.range (j - i).toNat).map fun k => D.int (i + (k : Nat)), none) := if_pos h
theorem rng1I {S : Store} {j : Int} (h : -(2 ^ 62) ≤ j ∧ j < 2 ^ 62) : srcOf S .rng1 [.int j] = some ((List.range j.toNat).map fun k => D.int (0 + (k : Nat)), none) := if_pos h
theorem small62 {b : Nat} (hb : b ≤ 1000000) : -(2 ^ 62) ≤ (b : Int) ∧ (b : Int) < 2 ^ 62 := by
  have : (b : Int) ≤ 1000000 := Int.ofNat_le.mpr hb
  have big : (1000000 : Int) < 2 ^ 62 := by decide
  have low : -(2 ^ 62) ≤ (0 : Int) := by decide
  exact ⟨Int.le_trans low (Int.natCast_nonneg b), Int.lt_of_le_of_lt this big⟩
theorem rng2 {S : Store} {a b : Nat} (ha : a ≤ 1000000) (hb : b ≤ 1000000) : srcOf S .rng2 [.int (a : Int), .int (b : Int)] = some (((List.range (b - a)).map fun i => a + i).map fun q : Nat => D.int (q : Int), none) := by
  rw [rng2I ⟨(small62 ha).1, (small62 ha).2, (small62 hb).1, (small62 hb).2⟩]
  have e : ((b : Int) - (a : Int)).toNat = b - a := by omega
  rw [e, List.map_map]
  exact congrArg (fun z => some (z, Option.none)) (List.map_congr_left fun i _ => (congrArg D.int (Int.natCast_add a i)).symm)
theorem rng1 {S : Store} {b : Nat} (hb : b ≤ 1000000) : srcOf S .rng1 [.int (b : Int)] = some ((List.range b).map fun q : Nat => D.int (q : Int), none) := by
  rw [rng1I (small62 hb), Int.toNat_natCast]
  exact congrArg (fun z => some (z, Option.none)) (List.map_congr_left fun i _ => congrArg D.int (Int.zero_add _))
def Bper : List RA.St := [(.ite (.and (.cmp .eq (.bin .mod (.var 1) (.var 2)) (.con (.int 0))) (.cmp .eq (.bin .mul (.slice (.var 0) (.con .non) (.ofInt (.var 2))) (.bin .fdiv (.var 1) (.var 2))) (.var 0))) [(.ret (.var 2))] [])]
theorem step_per {C : Ora} {l : List Str} {S : Store} {q : Nat} (h4 : l.length ≤ 400) (q0 : 0 < q) (ql : q ≤ l.length) : RA.execs TC C Bper [some (TS l), some (.int (l.length : Int)), some (.int (q : Int))] S =
    if good l q then .ok (.ret (.int (q : Int))) S else .ok (.nx [some (TS l), some (.int (l.length : Int)), some (.int (q : Int))]) S := by
  have q1 : (q : Int) ≠ 0 := by omega
  have q2 : (q : Int) ≠ 0 ∧ (q : Int).natAbs.log2 < 9000 := ⟨q1, log_small (by omega)⟩
  have v0 : RA.evalE C (.var 0) [some (TS l), some (.int (l.length : Int)), some (.int (q : Int))] S = .ok (TS l) S := rfl
  have v1 : RA.evalE C (.var 1) [some (TS l), some (.int (l.length : Int)), some (.int (q : Int))] S = .ok (.int (l.length : Int)) S := rfl
  have v2 : RA.evalE C (.var 2) [some (TS l), some (.int (l.length : Int)), some (.int (q : Int))] S = .ok (.int (q : Int)) S := rfl
  have m1 : binop S .mod (.int (l.length : Int)) (.int (q : Int)) = some (.int ((l.length % q : Nat) : Int)) := by
    show (if (q : Int) ≠ 0 then some (D.int ((l.length : Int).fmod (q : Int))) else none) = _
    rw [if_pos q1, fmod_nat]
  have m2 : binop S .fdiv (.int (l.length : Int)) (.int (q : Int)) = some (.int ((l.length / q : Nat) : Int)) := by
    show (if (q : Int) ≠ 0 ∧ (q : Int).natAbs.log2 < 9000 then some (D.int ((l.length : Int).fdiv (q : Int))) else none) = _
    rw [if_pos q2, fdiv_nat]
  have m3 : binop S .mul (TS (l.take q)) (.int ((l.length / q : Nat) : Int)) = some (TS (reps (l.length / q) (l.take q))) := mul_TS S (Nat.le_trans (Nat.div_le_self _ _) (by omega)) (by rw [List.length_take]; omega)
  have c1 : cmpop S .eq (.int ((l.length % q : Nat) : Int)) (.int 0) = some (.bl (decide (l.length % q = 0))) := by
    show (eqd S (.int ((l.length % q : Nat) : Int)) (.int 0)).map D.bl = _
    rw [eqd_int]
    have : decide (((l.length % q : Nat) : Int) = 0) = decide (l.length % q = 0) := by
      by_cases z : l.length % q = 0
      · rw [decide_eq_true z, decide_eq_true (by omega)]
      · rw [decide_eq_false z, decide_eq_false (by omega)]
    rw [this]; rfl
  have c2 : cmpop S .eq (TS (reps (l.length / q) (l.take q))) (TS l) = some (.bl (decide (reps (l.length / q) (l.take q) = l))) := by
    show (eqd S (TS (reps (l.length / q) (l.take q))) (TS l)).map D.bl = _
    rw [eqd_TS]; rfl
  unfold Bper
  simp only [xs_cons, st_ite, ev_and, ev_cmp, ev_bin, ev_slice, ev_ofInt, ev_con, v0, v1, v2, rk, lk, m1, m2, slice_lo S l ql, m3, c1, c2, truth, st_ret, xs_nil]
  unfold good
  generalize decide (l.length % q = 0) = b1
  generalize decide (reps (l.length / q) (l.take q) = l) = b2
  cases b1 <;> cases b2 <;> rfl
theorem tgt2 (a b c d : Option D) (x : D) : target [a, b, c] false [2] x = some [a, b, some x] := rfl
theorem period_in {l : List Str} (d : Days l) (k : Nat) (S : Store) : callF TC GA W (k + 1) 3 [TS l] S = .ok (.int (per l : Int)) S := by
  have h0 : 0 < l.length := d.lo
  have h4 := d.hi
  rw [callF_eq (fn := F3) rfl rfl]
  have s1 : RA.start 3 [TS l] = [some (TS l), none, none] := rfl
  generalize hC : ora1 TC GA (callF TC GA W k) W = C
  have v0 : ∀ b c, RA.evalE C (.var 0) [some (TS l), b, c] S = .ok (TS l) S := fun _ _ => rfl
  have v1 : ∀ a c x, RA.evalE C (.var 1) [a, some x, c] S = .ok x S := fun _ _ _ => rfl
  have b1 : ∀ x, bcall S .len [x] = lenD S x := fun _ => rfl
  have es : RA.evalEs C [(.con (.int ((1 : Nat) : Int))), (.var 1)] [some (TS l), some (.int (l.length : Int)), none] S = .ok [.int ((1 : Nat) : Int), .int (l.length : Int)] S := by
    simp only [es_cons, es_nil, ev_con, v1, rk]
  obtain ⟨σ', ⟨x, hx⟩, e⟩ := for_good (l := l) (S := S) (g := fun S => still S (((List.range (l.length - 1)).map fun i => 1 + i).map fun q : Nat => D.int (q : Int), none)) rfl (P := fun σ => ∃ x, σ = [some (TS l), some (.int (l.length : Int)), x]) (ret := fun q => .int (q : Int))
    (step := turn TC C false [2] Bper) (fun q σ hP hq q0 ql => by
        obtain ⟨x, rfl⟩ := hP
        refine ⟨[some (TS l), some (.int (l.length : Int)), some (.int (q : Int))], ⟨_, rfl⟩, ?_⟩
        rw [turn_eq (tgt2 _ _ _ none _), step_per h4 q0 ql])
    ((List.range (l.length - 1)).map fun i => 1 + i) [some (TS l), some (.int (l.length : Int)), none] ⟨_, rfl⟩ (fun q hq => by
      obtain ⟨i, hi, rfl⟩ := List.mem_map.mp hq
      have := List.mem_range.mp hi
      omega)
  have hI : F3.body = [(.asg 1 (.bcall .len [(.var 0)])), (.loop false [2] .rng2 [(.con (.int ((1 : Nat) : Int))), (.var 1)] Bper), (.ret (.var 1))] := rfl
  have hn : F3.ns = 3 := rfl
  rw [hI, hn, s1]
  have set1 : ([some (TS l), none, none] : Sig).set 1 (some (.int (l.length : Int))) = [some (TS l), some (.int (l.length : Int)), none] := rfl
  have lp := st_loop (T := TC) (C := C) (tup := false) (tgt := [2]) (body := Bper) es (rng2 (by omega) (by omega))
  rw [e] at lp
  rw [xs_cons, st_asg, ev_bcall1, v0, rk, b1, len_TS, lk, rk, rk]
  dsimp only
  rw [set1, xs_cons, lp]
  subst hx
  unfold per
  cases firstGood l ((List.range (l.length - 1)).map fun i => 1 + i) with
  | some q => simp only [rk, fin, Option.getD_some]
  | none =>
    rw [Option.getD_none]
    dsimp only
    rw [rk]
    dsimp only
    rw [xs_cons, st_ret, v1, rk, rk]
    rfl
end Law

set_option linter.all false
set_option maxRecDepth 100000
set_option maxHeartbeats 4000000
set_option autoImplicit false
/-! R7: k21: rotations, forms. -/
namespace Law
open PySem (Str PyData)
open RA Rot
variable {W : Nat}
/-- a turn of a comprehension -/
def cstep (C : Ora) (own : List Nat) (tup : Bool) (tgt : List Nat) (ifs elt : E) (τ : Sig) (d : D) (S : Store) : Res (Option D) := match target (RA.wipe τ own) tup tgt d with
  | none => .bad
  | some σ2 => ((RA.evalE C ifs σ2 S).noexc).bind fun b S => (RA.lift S (truth S b)).bind fun k S => if k then ((RA.evalE C elt σ2 S).noexc).bind fun y S => .ok (some y) S else .ok none S
theorem cstep_eq {C : Ora} {own : List Nat} {tup : Bool} {tgt : List Nat} {ifs elt : E} {τ σ2 : Sig} {d y : D} {S : Store} (h : target (RA.wipe τ own) tup tgt d = some σ2) (h1 : RA.evalE C ifs σ2 S = .ok (.bl true) S) (h2 : RA.evalE C elt σ2 S = .ok y S) :
    cstep C own tup tgt ifs elt τ d S = .ok (some y) S := by
  unfold cstep
  rw [h]
  dsimp only
  rw [h1]
  show ((RA.lift S (some true)).bind fun k S => if k then ((RA.evalE C elt σ2 S).noexc).bind fun y S => Res.ok (some y) S else .ok none S) = _
  rw [lk, rk, if_pos rfl, h2]
  rfl
theorem ev_comp {C : Ora} {own : List Nat} {tup : Bool} {tgt : List Nat} {sk : SK} {es : List E} {ifs elt : E} {τ : Sig} {S : Store} {ds it : List D} {o : Option Nat} (f : D → D) (h : RA.evalEs C es τ S = .ok ds S) (hi : srcOf S sk ds = some (it, o)) (hg : still S (it, o) = true)
    (hs : ∀ a ∈ it, ∃ σ2, target (RA.wipe τ own) tup tgt a = some σ2 ∧ RA.evalE C ifs σ2 S = .ok (.bl true) S ∧ RA.evalE C elt σ2 S = .ok (f a) S) (hl : it.length ≤ LINE) :
    RA.evalE C (.comp own tup tgt sk es ifs elt) τ S = .ok (.vl (it.map f)) S := by
  have e : RA.evalE C (.comp own tup tgt sk es ifs elt) τ S = (RA.evalEs C es τ S).bind fun ds S => match srcOf S sk ds with
    | none => Res.bad
    | some it => (compL (cstep C own tup tgt ifs elt τ) (fun S => still S it) it.1 S []).bind fun l S => .ok (.vl l) S := rfl
  rw [e, h, rk, hi]
  dsimp only
  rw [compL_map (f := f) (g := fun S => still S (it, o)) hg it [] (fun a ha => by
    obtain ⟨σ2, h1, h2, h3⟩ := hs a ha
    exact cstep_eq h1 h2 h3) (by rw [List.length_nil, Nat.zero_add]; exact hl), rk, List.nil_append]
theorem es_one {C : Ora} {a : E} {τ : Sig} {S : Store} {x : D} (h : RA.evalE C a τ S = .ok x S) : RA.evalEs C [a] τ S = .ok [x] S := by
  rw [es_cons, h, rk, es_nil, rk]
theorem per_le {l : List Str} (d : Days l) : per l ≤ l.length := (per_least d.lo).le d.lo
theorem rotations_in {l : List Str} (d : Days l) (k : Nat) (S : Store) : callF TC GA W (k + 2) 4 [TS l] S = .ok (.vl ((turns l (per l)).map TS)) S := by
  have h4 := d.hi
  rw [callF_eq (fn := F4) rfl rfl]
  have s1 : RA.start 2 [TS l] = [some (TS l), none] := rfl
  have hI : F4.body = [(.ret (.comp [1] false [1] .rng1 [(.call 3 [(.var 0)])] (.con (.bl true)) (.bin .add (.slice (.var 0) (.ofInt (.var 1)) (.con .non)) (.slice (.var 0) (.con .non) (.ofInt (.var 1))))))] := rfl
  have hn : F4.ns = 2 := rfl
  have fe : ∀ ds S, (ora1 TC GA (callF TC GA W (k + 1)) W).fn 3 ds S = callF TC GA W (k + 1) 3 ds S := fun _ _ => rfl
  rw [hI, hn, s1]
  generalize ora1 TC GA (callF TC GA W (k + 1)) W = C at fe
  have v0 : ∀ b, RA.evalE C (.var 0) [some (TS l), b] S = .ok (TS l) S := fun _ => rfl
  have v1 : ∀ a x, RA.evalE C (.var 1) [a, some x] S = .ok x S := fun _ _ => rfl
  have hp : RA.evalE C (.call 3 [(.var 0)]) [some (TS l), none] S = .ok (.int (per l : Int)) S := by
    rw [ev_call1, v0, rk, fe, period_in d]
  have e := ev_comp (C := C) (own := [1]) (tup := false) (tgt := [1]) (sk := .rng1) (ifs := .con (.bl true)) (elt := .bin .add (.slice (.var 0) (.ofInt (.var 1)) (.con .non)) (.slice (.var 0) (.con .non) (.ofInt (.var 1)))) (τ := [some (TS l), none]) (S := S)
    (f := fun a => match a with | .int i => TS (rot i.toNat l) | _ => .non) (es_one hp) (rng1 (Nat.le_trans (per_le d) (by omega))) rfl (fun a ha => by
      obtain ⟨q, hq, rfl⟩ := List.mem_map.mp ha
      have hq' : q ≤ l.length := Nat.le_trans (Nat.le_of_lt (List.mem_range.mp hq)) (per_le d)
      refine ⟨[some (TS l), some (.int (q : Int))], rfl, ev_con _, ?_⟩
      have o1 : RA.evalE C (.ofInt (.var 1)) [some (TS l), some (.int (q : Int))] S = .ok (.int (q : Int)) S := by rw [ev_ofInt, v1, rk]
      have sl1 : RA.evalE C (.slice (.var 0) (.ofInt (.var 1)) (.con .non)) [some (TS l), some (.int (q : Int))] S = .ok (TS (l.drop q)) S := by
        rw [ev_slice, v0, rk, o1, rk, ev_con, rk, slice_hi S l hq', lk]
      have sl2 : RA.evalE C (.slice (.var 0) (.con .non) (.ofInt (.var 1))) [some (TS l), some (.int (q : Int))] S = .ok (TS (l.take q)) S := by
        rw [ev_slice, v0, rk, ev_con, rk, o1, rk, slice_lo S l hq', lk]
      rw [ev_bin, sl1, rk, sl2, rk, add_TS S (by rw [List.length_drop, List.length_take]; omega), lk]
      dsimp only
      rw [Int.toNat_natCast]
      rfl) (by
      rw [List.length_map, List.length_range]
      have := per_le d
      exact Nat.le_trans (Nat.le_trans this h4) (by decide))
  rw [xs_cons, st_ret, e, rk, rk]
  dsimp only [fin]
  rw [List.map_map]
  unfold turns
  rw [List.map_map]
  rfl
end Law

set_option linter.all false
set_option maxRecDepth 100000
set_option maxHeartbeats 4000000
set_option autoImplicit false
/-! R8: k21: forms, what the calls tell. -/
namespace Law
open PySem (Str PyData)
open RA Rot
variable {W : Nat}
theorem per_pos {l : List Str} (d : Days l) : 0 < per l := (per_least d.lo).1.1
theorem turns_cons {l : List Str} (d : Days l) : turns l (per l) = rot 0 l :: (turns l (per l)).tail := by
  unfold turns
  cases h : per l with
  | zero => have := per_pos d; omega
  | succ p => rw [List.range_succ_eq_map]; rfl
/-- the form -/
def formL (l : List Str) : List Str := least (rot 0 l) (turns l (per l)).tail
theorem formL_mem {l : List Str} (d : Days l) : formL l ∈ turns l (per l) := by
  rw [turns_cons d]
  exact least_mem _ _
theorem best_turns {l : List Str} (d : Days l) (S : Store) : best S false ((turns l (per l)).map TS) = some (TS (formL l)) := by
  rw [turns_cons d]
  exact best_TS S _ _
theorem form_in {l : List Str} (d : Days l) (k : Nat) (S : Store) : callF TC GA W (k + 3) 5 [TS l] S = .ok (TS (formL l)) S := by
  rw [callF_eq (fn := F5) rfl rfl]
  have s1 : RA.start 1 [TS l] = [some (TS l)] := rfl
  have hI : F5.body = [(.ret (.bcall .min [(.call 4 [(.var 0)])]))] := rfl
  have hn : F5.ns = 1 := rfl
  have fe : ∀ ds S, (ora1 TC GA (callF TC GA W (k + 2)) W).fn 4 ds S = callF TC GA W (k + 2) 4 ds S := fun _ _ => rfl
  rw [hI, hn, s1]
  generalize ora1 TC GA (callF TC GA W (k + 2)) W = C at fe
  have v0 : RA.evalE C (.var 0) [some (TS l)] S = .ok (TS l) S := rfl
  have b1 : ∀ ds, bcall S .min [.vl ds] = best S false ds := fun _ => rfl
  rw [xs_cons, st_ret, ev_bcall1, ev_call1, v0, rk, fe, rotations_in d, rk, b1, best_turns d, lk, rk, rk]
  rfl
theorem form {l : List Str} (d : Days l) (k : Nat) (S : Store) : callF TC GA W (k + 4) 6 [TS l] S = .ok (TS (formL l)) S := by
  rw [callF_eq (fn := F6) rfl rfl]
  have s1 : RA.start 1 [TS l] = [some (TS l)] := rfl
  have hI : F6.body = [(.exp (.call 2 [(.var 0)])), (.ret (.call 5 [(.var 0)]))] := rfl
  have hn : F6.ns = 1 := rfl
  have fe : ∀ i ds S, (ora1 TC GA (callF TC GA W (k + 3)) W).fn i ds S = callF TC GA W (k + 3) i ds S := fun _ _ _ => rfl
  rw [hI, hn, s1]
  generalize ora1 TC GA (callF TC GA W (k + 3)) W = C at fe
  have v0 : RA.evalE C (.var 0) [some (TS l)] S = .ok (TS l) S := rfl
  rw [xs_cons, st_exp, ev_call1, v0, rk, fe, require_days d, rk, rk]
  dsimp only
  rw [xs_cons, st_ret, ev_call1, v0, rk, fe, form_in d, rk, rk]
  rfl
theorem are_one_round {x y : List Str} (dx : Days x) (dy : Days y) (k : Nat) (S : Store) : callF TC GA W (k + 4) 7 [TS x, TS y] S = .ok (.bl (decide (formL x = formL y))) S := by
  rw [callF_eq (fn := F7) rfl rfl]
  have s1 : RA.start 2 [TS x, TS y] = [some (TS x), some (TS y)] := rfl
  have hI : F7.body = [(.exp (.call 2 [(.var 0)])), (.exp (.call 2 [(.var 1)])), (.ret (.cmp .eq (.call 5 [(.var 0)]) (.call 5 [(.var 1)])))] := rfl
  have hn : F7.ns = 2 := rfl
  have fe : ∀ i ds S, (ora1 TC GA (callF TC GA W (k + 3)) W).fn i ds S = callF TC GA W (k + 3) i ds S := fun _ _ _ => rfl
  rw [hI, hn, s1]
  generalize ora1 TC GA (callF TC GA W (k + 3)) W = C at fe
  have v0 : RA.evalE C (.var 0) [some (TS x), some (TS y)] S = .ok (TS x) S := rfl
  have v1 : RA.evalE C (.var 1) [some (TS x), some (TS y)] S = .ok (TS y) S := rfl
  have c : cmpop S .eq (TS (formL x)) (TS (formL y)) = some (.bl (decide (formL x = formL y))) := by
    show (eqd S (TS (formL x)) (TS (formL y))).map D.bl = _
    rw [eqd_TS]; rfl
  rw [xs_cons, st_exp, ev_call1, v0, rk, fe, require_days dx, rk, rk]
  dsimp only
  rw [xs_cons, st_exp, ev_call1, v1, rk, fe, require_days dy, rk, rk]
  dsimp only
  rw [xs_cons, st_ret, ev_cmp, ev_call1, v0, rk, fe, form_in dx, rk, ev_call1, v1, rk, fe, form_in dy, rk, c, lk, rk, rk]
  rfl
/-- one round exactly if the one is a rotation of the other -/
theorem form_iff {x y : List Str} (dx : Days x) (dy : Days y) : formL x = formL y ↔ y ∈ turns x (per x) := by
  have mx := fun z => mem_turns (y := z) (per_least dx.lo) dx.lo
  have my := fun z => mem_turns (y := z) (per_least dy.lo) dy.lo
  constructor
  · intro h
    obtain ⟨i, hi, e1⟩ := (mx _).mp (formL_mem dx)
    obtain ⟨j, hj, e2⟩ := (my _).mp (formL_mem dy)
    -- y is a rotation of its form, which is one of x
    have r1 : ∃ i, i ≤ x.length ∧ formL y = rot i x := ⟨i, hi, by rw [← h]; exact e1⟩
    have r2 : ∃ k, k ≤ (formL y).length ∧ y = rot k (formL y) := by
      rw [e2]
      exact ⟨y.length - j, by rw [rot_length hj]; omega, (rot_back hj).symm⟩
    exact (mx y).mpr ((mem_rots r1 y).mp r2)
  · intro h
    have r1 := (mx y).mp h
    have same : ∀ z, z ∈ turns x (per x) ↔ z ∈ turns y (per y) := fun z => by
      rw [mx z, my z]
      exact (mem_rots r1 z).symm
    unfold formL
    refine least_eq fun z => ?_
    rw [← turns_cons dx, ← turns_cons dy]
    exact same z
theorem root {l : List Str} (d : Days l) (k : Nat) (S : Store) : callF TC GA W (k + 4) 8 [TS l] S = .ok (.tup [TS (l.take (per l)), .int ((l.length / per l : Nat) : Int)]) S := by
  have h4 := d.hi
  have pp := per_pos d
  have pl := per_le d
  rw [callF_eq (fn := F8) rfl rfl]
  have s1 : RA.start 2 [TS l] = [some (TS l), none] := rfl
  have hI : F8.body = [(.exp (.call 2 [(.var 0)])), (.asg 1 (.call 3 [(.var 0)])), (.ret (.tup [(.slice (.var 0) (.con .non) (.ofInt (.var 1))), (.bin .fdiv (.bcall .len [(.var 0)]) (.var 1))]))] := rfl
  have hn : F8.ns = 2 := rfl
  have fe : ∀ i ds S, (ora1 TC GA (callF TC GA W (k + 3)) W).fn i ds S = callF TC GA W (k + 3) i ds S := fun _ _ _ => rfl
  rw [hI, hn, s1]
  generalize ora1 TC GA (callF TC GA W (k + 3)) W = C at fe
  have v0 : ∀ b, RA.evalE C (.var 0) [some (TS l), b] S = .ok (TS l) S := fun _ => rfl
  have v1 : ∀ a x, RA.evalE C (.var 1) [a, some x] S = .ok x S := fun _ _ => rfl
  have b1 : ∀ x, bcall S .len [x] = lenD S x := fun _ => rfl
  have set1 : ([some (TS l), none] : Sig).set 1 (some (.int (per l : Int))) = [some (TS l), some (.int (per l : Int))] := rfl
  have q2 : (per l : Int) ≠ 0 ∧ (per l : Int).natAbs.log2 < 9000 := ⟨by omega, log_small (by omega)⟩
  have m2 : binop S .fdiv (.int (l.length : Int)) (.int (per l : Int)) = some (.int ((l.length / per l : Nat) : Int)) := by
    show (if (per l : Int) ≠ 0 ∧ (per l : Int).natAbs.log2 < 9000 then some (D.int ((l.length : Int).fdiv (per l : Int))) else none) = _
    rw [if_pos q2, fdiv_nat]
  rw [xs_cons, st_exp, ev_call1, v0, rk, fe, require_days d, rk, rk]
  dsimp only
  rw [xs_cons, st_asg, ev_call1, v0, rk, fe, period_in d, rk, rk]
  dsimp only
  rw [set1, xs_cons, st_ret, ev_tup, es_cons, ev_slice, v0, rk, ev_con, rk, ev_ofInt, v1, rk]
  dsimp only
  rw [rk, slice_lo S l pl, lk, rk, es_cons, ev_bin, ev_bcall1, v0, rk, b1, len_TS, lk, rk, v1, rk, m2, lk, rk, es_nil, rk, rk, rk, rk, rk]
  rfl
theorem turned_days {l : List Str} (d : Days l) (k : Nat) (S : Store) : callF TC GA W (k + 4) 9 [TS l] S = .ok (TS l.reverse) S := by
  rw [callF_eq (fn := F9) rfl rfl]
  have s1 : RA.start 1 [TS l] = [some (TS l)] := rfl
  have hI : F9.body = [(.exp (.call 2 [(.var 0)])), (.ret (.rev (.var 0)))] := rfl
  have hn : F9.ns = 1 := rfl
  have fe : ∀ i ds S, (ora1 TC GA (callF TC GA W (k + 3)) W).fn i ds S = callF TC GA W (k + 3) i ds S := fun _ _ _ => rfl
  rw [hI, hn, s1]
  generalize ora1 TC GA (callF TC GA W (k + 3)) W = C at fe
  have v0 : RA.evalE C (.var 0) [some (TS l)] S = .ok (TS l) S := rfl
  have r : rev S (TS l) = some (TS l.reverse) := by
    show some (D.tup (l.map D.str).reverse) = some (D.tup (l.reverse.map D.str))
    rw [List.map_reverse]
  rw [xs_cons, st_exp, ev_call1, v0, rk, fe, require_days d, rk, rk]
  dsimp only
  rw [xs_cons, st_ret, ev_rev, v0, rk, r, lk, rk, rk]
  rfl
theorem rotations {l : List Str} (d : Days l) (k : Nat) (S : Store) : callF TC GA W (k + 4) 10 [TS l] S = .ok (.tup ((turns l (per l)).map TS)) S := by
  rw [callF_eq (fn := F10) rfl rfl]
  have s1 : RA.start 1 [TS l] = [some (TS l)] := rfl
  have hI : F10.body = [(.exp (.call 2 [(.var 0)])), (.ret (.bcall .tuple [(.call 4 [(.var 0)])]))] := rfl
  have hn : F10.ns = 1 := rfl
  have fe : ∀ i ds S, (ora1 TC GA (callF TC GA W (k + 3)) W).fn i ds S = callF TC GA W (k + 3) i ds S := fun _ _ _ => rfl
  rw [hI, hn, s1]
  generalize ora1 TC GA (callF TC GA W (k + 3)) W = C at fe
  have v0 : RA.evalE C (.var 0) [some (TS l)] S = .ok (TS l) S := rfl
  have b1 : ∀ ds, bcall S .tuple [.vl ds] = some (.tup ds) := fun _ => rfl
  rw [xs_cons, st_exp, ev_call1, v0, rk, fe, require_days d, rk, rk]
  dsimp only
  rw [xs_cons, st_ret, ev_bcall1, ev_call1, v0, rk, fe, rotations_in d, rk, b1, lk, rk, rk]
  rfl
end Law

set_option linter.all false
set_option maxRecDepth 100000
set_option maxHeartbeats 4000000
set_option autoImplicit false
/-! R9: k21: the law's own turns. -/
namespace Law
open PySem (Str PyData)
open RA Rot
variable {W : Nat}
/-- a for that goes through, by a word of the turn -/
theorem forL_inv {step : D → Sig → Store → Res Out} {g : Store → Bool} (P : Nat → Sig → Store → Prop) : ∀ (it : List D) (a : Nat) (σ : Sig) (S : Store), P a σ S → (∀ i d σ S, it[i]? = some d → P (a + i) σ S → g S = true ∧ ∃ σ' S', step d σ S = .ok (.nx σ') S' ∧ P (a + i + 1) σ' S') →
    (∀ σ S, P (a + it.length) σ S → g S = true) → ∃ σ' S', forL step g it σ S = .ok (.nx σ') S' ∧ P (a + it.length) σ' S'
  | [], a, σ, S, h, _, hg => ⟨σ, S, (by
      show (if g S then Res.ok (Out.nx σ) S else .bad) = _
      rw [if_pos (hg σ S h)]), h⟩
  | d :: r, a, σ, S, h, hs, hg => by
    obtain ⟨g0, σ1, S1, e1, h1⟩ := hs 0 d σ S rfl h
    obtain ⟨σ2, S2, e2, h2⟩ := forL_inv P r (a + 1) σ1 S1 h1 (fun i d' σ S hi hp => by
      have := hs (i + 1) d' σ S (by simpa using hi) (by rw [show a + (i + 1) = a + 1 + i from by omega]; exact hp)
      rw [show a + (i + 1) + 1 = a + 1 + i + 1 from by omega] at this
      exact this) (fun σ S hp => hg σ S (by rw [List.length_cons, show a + (r.length + 1) = a + 1 + r.length from by omega]; exact hp))
    refine ⟨σ2, S2, ?_, by rw [List.length_cons, show a + (r.length + 1) = a + 1 + r.length from by omega]; exact h2⟩
    show (if g S then (step d σ S).bind fun o S => match o with
      | .nx σ => forL step g r σ S
      | .ret x => .ok (.ret x) S
    else .bad) = _
    rw [if_pos g0, e1, rk]
    exact e2
theorem any_PS (r : List Str) : ∀ ls : List (List Str), ((ls.map PS).any fun q => q.eqv (PS r)) = decide (r ∈ ls)
  | [] => by simp
  | x :: ls => by
    rw [List.map_cons, List.any_cons, any_PS r ls, eqv_PS]
    by_cases h : x = r
    · subst h; simp
    · have : ¬ r = x := fun z => h z.symm
      simp [h, this]
theorem isIn_TS {S : Store} {y : D} {r : List Str} {ls : List (List Str)} (h : asQ S y = some (ls.map TS)) : isIn S (TS r) y = some (decide (r ∈ ls)) := by
  show (asQ S y).bind (fun ds => (pd S (TS r)).bind fun p => (pds S ds).bind fun qs => if p.depth ≤ 60 then some (qs.any fun q => q.eqv p) else none) = _
  rw [h, Option.bind_some, pd_TS, Option.bind_some, pds_TS, Option.bind_some, depth_PS, if_pos (by decide), any_PS]
/-- the first m turns, each once -/
def found (l : List Str) (m : Nat) : List (List Str) := turns l (min m (per l))
theorem found_succ {l : List Str} (d : Days l) {m : Nat} (hm : m < l.length) : found l (m + 1) = if rot m l ∈ found l m then found l m else found l m ++ [rot m l] := by
  have L := per_least d.lo
  have pl := per_le d
  unfold found
  by_cases h : m < per l
  · rw [Nat.min_eq_left (by omega), Nat.min_eq_left (by omega), if_neg]
    · unfold turns
      rw [List.range_succ, List.map_append]; rfl
    · intro z
      unfold turns at z
      obtain ⟨i, hi, e⟩ := List.mem_map.mp z
      exact L.inj d.lo h (List.mem_range.mp hi) e
  · rw [Nat.min_eq_right (by omega), Nat.min_eq_right (by omega), if_pos]
    exact (mem_turns L d.lo).mpr ⟨m, by omega, rfl⟩
theorem found_all {l : List Str} (d : Days l) : found l l.length = turns l (per l) := by
  unfold found
  rw [Nat.min_eq_right (per_le d)]
def Brot : E := .bin .add (.slice (.var 0) (.ofInt (.var 2)) (.con .non)) (.slice (.var 0) (.con .non) (.ofInt (.var 2)))
def Bturn : List RA.St := [(.ite (.cmp .nin Brot (.var 1)) [(.exp (.append (.var 1) Brot))] [])]
theorem at_end {S : Store} {o : SO} : (S ++ [o])[S.length]? = some o := by
  rw [List.getElem?_append_right (Nat.le_refl _), Nat.sub_self]; rfl
theorem set_end {S : Store} {o o' : SO} : (S ++ [o]).set S.length o' = S ++ [o'] := by
  rw [List.set_append_right _ _ (Nat.le_refl _), Nat.sub_self]; rfl
theorem ev_append {C : Ora} {o e : E} {τ : Sig} {S S1 S2 : Store} {n : Nat} {y : D} {ds : List D} (h1 : RA.evalE C o τ S = .ok (.ref n) S1) (h2 : RA.evalE C e τ S1 = .ok y S2) (h3 : S2[n]? = some (.lst ds)) (hl : ds.length < LINE) :
    RA.evalE C (.append o e) τ S = .ok .non (S2.set n (.lst (ds ++ [y]))) := by
  have q : RA.evalE C (.append o e) τ S = (RA.evalE C o τ S).bind fun x S => match x with
    | .ref n => (RA.evalE C e τ S).bind fun y S => match S[n]? with
      | some (.lst ds) => if ds.length < LINE then .ok .non (S.set n (.lst (ds ++ [y]))) else .bad
      | none => .bad
    | _ => .bad := rfl
  rw [q, h1, rk]
  dsimp only
  rw [h2, rk, h3]
  dsimp only
  rw [if_pos hl]
theorem step_turn {C : Ora} {l : List Str} {S : Store} {m : Nat} (d : Days l) (hm : m < l.length) :
    RA.execs TC C Bturn [some (TS l), some (.ref S.length), some (.int (m : Int))] (S ++ [.lst ((found l m).map TS)]) = .ok (.nx [some (TS l), some (.ref S.length), some (.int (m : Int))]) (S ++ [.lst ((found l (m + 1)).map TS)]) := by
  have h4 := d.hi
  generalize hS : S ++ [SO.lst ((found l m).map TS)] = S1
  have at1 : S1[S.length]? = some (.lst ((found l m).map TS)) := by rw [← hS]; exact at_end
  have v0 : RA.evalE C (.var 0) [some (TS l), some (.ref S.length), some (.int (m : Int))] S1 = .ok (TS l) S1 := rfl
  have v1 : RA.evalE C (.var 1) [some (TS l), some (.ref S.length), some (.int (m : Int))] S1 = .ok (.ref S.length) S1 := rfl
  have v2 : RA.evalE C (.var 2) [some (TS l), some (.ref S.length), some (.int (m : Int))] S1 = .ok (.int (m : Int)) S1 := rfl
  have rt : RA.evalE C Brot [some (TS l), some (.ref S.length), some (.int (m : Int))] S1 = .ok (TS (rot m l)) S1 := by
    unfold Brot
    rw [ev_bin, ev_slice, v0, rk, ev_ofInt, v2, rk]
    dsimp only
    rw [rk, ev_con, rk, slice_hi S1 l (Nat.le_of_lt hm), lk, rk, ev_slice, v0, rk, ev_con, rk, ev_ofInt, v2, rk]
    dsimp only
    rw [rk, slice_lo S1 l (Nat.le_of_lt hm), lk, rk, add_TS S1 (by rw [List.length_drop, List.length_take]; omega), lk]
    rfl
  have q : asQ S1 (.ref S.length) = some ((found l m).map TS) := by
    show (match S1[S.length]? with | some (.lst ds) => some ds | none => none) = _
    rw [at1]
  have c : cmpop S1 .nin (TS (rot m l)) (.ref S.length) = some (.bl (!decide (rot m l ∈ found l m))) := by
    show (isIn S1 (TS (rot m l)) (.ref S.length)).map (fun b => D.bl (!b)) = _
    rw [isIn_TS q]; rfl
  have fl : ((found l m).map TS).length < LINE := by
    rw [List.length_map]
    unfold found turns
    rw [List.length_map, List.length_range]
    have : min m (per l) ≤ 400 := by omega
    exact Nat.lt_of_le_of_lt this (by decide)
  have ap := ev_append (C := C) v1 rt at1 fl
  unfold Bturn
  rw [xs_cons, st_ite, ev_cmp, rt, rk, v1, rk, c, lk, rk]
  have t : ∀ b S, truth S (.bl b) = some b := fun _ _ => rfl
  rw [t, lk, rk, found_succ d hm]
  by_cases h : rot m l ∈ found l m
  · rw [decide_eq_true h, if_pos h, hS]
    rfl
  · rw [decide_eq_false h, if_neg h]
    rw [if_pos (show (!false) = true from rfl), xs_cons, st_exp, ap, rk, rk]
    dsimp only
    rw [xs_nil, rk]
    dsimp only
    rw [xs_nil, ← hS, set_end, List.map_append]
    rfl
end Law

set_option linter.all false
set_option maxRecDepth 100000
set_option maxHeartbeats 4000000
set_option autoImplicit false
/-! R10: k21: the law's own turns, the loop. -/
namespace Law
open PySem (Str PyData)
open RA Rot
variable {W : Nat}
theorem law_turns {l : List Str} (d : Days l) (k : Nat) (S : Store) : callF TC GA W (k + 1) 15 [TS l] S = .ok (.ref S.length) (S ++ [.lst ((turns l (per l)).map TS)]) := by
  have h4 := d.hi
  rw [callF_eq (fn := F15) rfl rfl]
  have s1 : RA.start 3 [TS l] = [some (TS l), none, none] := rfl
  have hI : F15.body = [(.asg 1 (.new (.lst []))), (.loop false [2] .rng1 [(.bcall .len [(.var 0)])] Bturn), (.ret (.var 1))] := rfl
  have hn : F15.ns = 3 := rfl
  rw [hI, hn, s1]
  generalize ora1 TC GA (callF TC GA W k) W = C
  have new0 : RA.evalE C (.new (.lst [])) [some (TS l), none, none] S = .ok (.ref S.length) (S ++ [.lst []]) := rfl
  have set1 : ([some (TS l), none, none] : Sig).set 1 (some (.ref S.length)) = [some (TS l), some (.ref S.length), none] := rfl
  have v0 : ∀ b c S, RA.evalE C (.var 0) [some (TS l), b, c] S = .ok (TS l) S := fun _ _ _ => rfl
  have v1 : ∀ a c x S, RA.evalE C (.var 1) [a, some x, c] S = .ok x S := fun _ _ _ _ => rfl
  have b1 : ∀ S x, bcall S .len [x] = lenD S x := fun _ _ => rfl
  have es : RA.evalEs C [(.bcall .len [(.var 0)])] [some (TS l), some (.ref S.length), none] (S ++ [.lst []]) = .ok [.int (l.length : Int)] (S ++ [.lst []]) := by
    refine es_one ?_
    rw [ev_bcall1, v0, rk, b1, len_TS, lk]
  have f0 : (found l 0).map TS = [] := by
    unfold found turns
    rw [Nat.zero_min]; rfl
  obtain ⟨σ', S', e, ⟨x, hx⟩, hS⟩ := forL_inv (step := turn TC C false [2] Bturn) (g := fun S => still S ((List.range l.length).map fun q : Nat => D.int (q : Int), none))
    (fun m σ S' => (∃ x, σ = [some (TS l), some (.ref S.length), x]) ∧ S' = S ++ [.lst ((found l m).map TS)]) ((List.range l.length).map fun q : Nat => D.int (q : Int)) 0 [some (TS l), some (.ref S.length), none] (S ++ [.lst []]) ⟨⟨none, rfl⟩, by rw [f0]⟩
    (fun i dd σ S1 hi ⟨⟨x, hx⟩, hS1⟩ => ⟨rfl, by
      rw [List.getElem?_map] at hi
      have hil : i < l.length := by
        cases z : (List.range l.length)[i]? with
        | none => rw [z] at hi; cases hi
        | some q =>
          have := (List.getElem?_eq_some_iff.mp z).1
          rwa [List.length_range] at this
      rw [List.getElem?_range hil] at hi
      have hdd : dd = .int (i : Int) := (Option.some.inj hi).symm
      subst hdd hx hS1
      rw [Nat.zero_add]
      exact ⟨_, _, (turn_eq (tgt2 _ _ x none _)).trans (step_turn d hil), ⟨_, rfl⟩, rfl⟩⟩)
    (fun _ _ _ => rfl)
  rw [List.length_map, List.length_range, Nat.zero_add, found_all d] at hS
  subst hx hS
  have lp := st_loop (T := TC) (C := C) (tup := false) (tgt := [2]) (body := Bturn) es (rng1 (by omega))
  rw [e] at lp
  rw [xs_cons, st_asg, new0, rk, rk]
  dsimp only
  rw [set1, xs_cons, lp, rk]
  dsimp only
  rw [xs_cons, st_ret, v1, rk, rk]
  rfl
end Law

set_option linter.all false
set_option maxRecDepth 100000
set_option maxHeartbeats 4000000
set_option autoImplicit false
/-! R11: k21: the law's own root. -/
namespace Law
open PySem (Str PyData)
open RA Rot
variable {W : Nat}
theorem firstGood_per {l : List Str} (h0 : 0 < l.length) : firstGood l ((List.range l.length).map fun i => 1 + i) = some (per l) := by
  have := firstGood_least h0 l.length 1 (by decide) fun q q0 hq => by omega
  cases e : firstGood l ((List.range l.length).map fun i => 1 + i) with
  | some q =>
    rw [e] at this
    exact congrArg some (Least.uniq this (per_least h0))
  | none =>
    rw [e] at this
    exact absurd ⟨h0, Nat.dvd_refl _, Sh.len l⟩ (this l.length h0 (by omega))
def Broot : List RA.St := [(.ite (.and (.cmp .eq (.bin .mod (.bcall .len [(.var 0)]) (.var 1)) (.con (.int 0))) (.cmp .eq (.bin .mul (.slice (.var 0) (.con .non) (.ofInt (.var 1))) (.bin .fdiv (.bcall .len [(.var 0)]) (.var 1))) (.var 0))) [(.ret (.tup [(.slice (.var 0) (.con .non) (.ofInt (.var 1))), (.bin .fdiv (.bcall .len [(.var 0)]) (.var 1))]))] [])]
theorem step_root {C : Ora} {l : List Str} {S : Store} {q : Nat} (h4 : l.length ≤ 400) (q0 : 0 < q) (ql : q ≤ l.length) : RA.execs TC C Broot [some (TS l), some (.int (q : Int))] S =
    if good l q then .ok (.ret (.tup [TS (l.take q), .int ((l.length / q : Nat) : Int)])) S else .ok (.nx [some (TS l), some (.int (q : Int))]) S := by
  have q1 : (q : Int) ≠ 0 := by omega
  have q2 : (q : Int) ≠ 0 ∧ (q : Int).natAbs.log2 < 9000 := ⟨q1, log_small (by omega)⟩
  have v0 : RA.evalE C (.var 0) [some (TS l), some (.int (q : Int))] S = .ok (TS l) S := rfl
  have v1 : RA.evalE C (.var 1) [some (TS l), some (.int (q : Int))] S = .ok (.int (q : Int)) S := rfl
  have b1 : ∀ x, bcall S .len [x] = lenD S x := fun _ => rfl
  have vl : RA.evalE C (.bcall .len [(.var 0)]) [some (TS l), some (.int (q : Int))] S = .ok (.int (l.length : Int)) S := by
    rw [ev_bcall1, v0, rk, b1, len_TS, lk]
  have m1 : binop S .mod (.int (l.length : Int)) (.int (q : Int)) = some (.int ((l.length % q : Nat) : Int)) := by
    show (if (q : Int) ≠ 0 then some (D.int ((l.length : Int).fmod (q : Int))) else none) = _
    rw [if_pos q1, fmod_nat]
  have m2 : binop S .fdiv (.int (l.length : Int)) (.int (q : Int)) = some (.int ((l.length / q : Nat) : Int)) := by
    show (if (q : Int) ≠ 0 ∧ (q : Int).natAbs.log2 < 9000 then some (D.int ((l.length : Int).fdiv (q : Int))) else none) = _
    rw [if_pos q2, fdiv_nat]
  have m3 : binop S .mul (TS (l.take q)) (.int ((l.length / q : Nat) : Int)) = some (TS (reps (l.length / q) (l.take q))) := mul_TS S (Nat.le_trans (Nat.div_le_self _ _) (by omega)) (by rw [List.length_take]; omega)
  have c1 : cmpop S .eq (.int ((l.length % q : Nat) : Int)) (.int 0) = some (.bl (decide (l.length % q = 0))) := by
    show (eqd S (.int ((l.length % q : Nat) : Int)) (.int 0)).map D.bl = _
    rw [eqd_int]
    have : decide (((l.length % q : Nat) : Int) = 0) = decide (l.length % q = 0) := by
      by_cases z : l.length % q = 0
      · rw [decide_eq_true z, decide_eq_true (by omega)]
      · rw [decide_eq_false z, decide_eq_false (by omega)]
    rw [this]; rfl
  have c2 : cmpop S .eq (TS (reps (l.length / q) (l.take q))) (TS l) = some (.bl (decide (reps (l.length / q) (l.take q) = l))) := by
    show (eqd S (TS (reps (l.length / q) (l.take q))) (TS l)).map D.bl = _
    rw [eqd_TS]; rfl
  have sl : RA.evalE C (.slice (.var 0) (.con .non) (.ofInt (.var 1))) [some (TS l), some (.int (q : Int))] S = .ok (TS (l.take q)) S := by
    rw [ev_slice, v0, rk, ev_con, rk, ev_ofInt, v1, rk]
    dsimp only
    rw [rk, slice_lo S l ql, lk]
  have fd : RA.evalE C (.bin .fdiv (.bcall .len [(.var 0)]) (.var 1)) [some (TS l), some (.int (q : Int))] S = .ok (.int ((l.length / q : Nat) : Int)) S := by
    rw [ev_bin, vl, rk, v1, rk, m2, lk]
  have rt : RA.evalE C (.tup [(.slice (.var 0) (.con .non) (.ofInt (.var 1))), (.bin .fdiv (.bcall .len [(.var 0)]) (.var 1))]) [some (TS l), some (.int (q : Int))] S = .ok (.tup [TS (l.take q), .int ((l.length / q : Nat) : Int)]) S := by
    rw [ev_tup, es_cons, sl, rk, es_cons, fd, rk, es_nil, rk, rk, rk]
  unfold Broot
  simp only [xs_cons, st_ite, ev_and, ev_cmp, ev_bin .mod, ev_bin .mul, ev_con, v0, v1, vl, sl, fd, rt, rk, lk, m1, m3, c1, c2, truth, st_ret, xs_nil]
  unfold good
  generalize decide (l.length % q = 0) = b1
  generalize decide (reps (l.length / q) (l.take q) = l) = b2
  cases b1 <;> cases b2 <;> first | rfl | simp only [ite_true, rk, lk, rt, Bool.and_self]
theorem tgt1 (a b : Option D) (x : D) : target [a, b] false [1] x = some [a, some x] := rfl
theorem law_root {l : List Str} (d : Days l) (k : Nat) (S : Store) : callF TC GA W (k + 1) 16 [TS l] S = .ok (.tup [TS (l.take (per l)), .int ((l.length / per l : Nat) : Int)]) S := by
  have h0 : 0 < l.length := d.lo
  have h4 := d.hi
  rw [callF_eq (fn := F16) rfl rfl]
  have s1 : RA.start 2 [TS l] = [some (TS l), none] := rfl
  have hI : F16.body = [(.loop false [1] .rng2 [(.con (.int ((1 : Nat) : Int))), (.bin .add (.bcall .len [(.var 0)]) (.con (.int ((1 : Nat) : Int))))] Broot), (.ret (.tup [(.var 0), (.con (.int 1))]))] := rfl
  have hn : F16.ns = 2 := rfl
  rw [hI, hn, s1]
  generalize ora1 TC GA (callF TC GA W k) W = C
  have v0 : ∀ b, RA.evalE C (.var 0) [some (TS l), b] S = .ok (TS l) S := fun _ => rfl
  have b1 : ∀ x, bcall S .len [x] = lenD S x := fun _ => rfl
  have ad : binop S .add (.int (l.length : Int)) (.int ((1 : Nat) : Int)) = some (.int ((l.length + 1 : Nat) : Int)) := rfl
  have es : RA.evalEs C [(.con (.int ((1 : Nat) : Int))), (.bin .add (.bcall .len [(.var 0)]) (.con (.int ((1 : Nat) : Int))))] [some (TS l), none] S = .ok [.int ((1 : Nat) : Int), .int ((l.length + 1 : Nat) : Int)] S := by
    rw [es_cons, ev_con, rk, es_cons, ev_bin, ev_bcall1, v0, rk, b1, len_TS, lk, rk, ev_con, rk, ad, lk, rk, es_nil, rk, rk]
  obtain ⟨σ', ⟨x, hx⟩, e⟩ := for_good (l := l) (S := S) (g := fun S => still S (((List.range (l.length + 1 - 1)).map fun i => 1 + i).map fun q : Nat => D.int (q : Int), none)) rfl (P := fun σ => ∃ x, σ = [some (TS l), x]) (ret := fun q => .tup [TS (l.take q), .int ((l.length / q : Nat) : Int)])
    (step := turn TC C false [1] Broot) (fun q σ hP hq q0 ql => by
        obtain ⟨x, rfl⟩ := hP
        refine ⟨[some (TS l), some (.int (q : Int))], ⟨_, rfl⟩, ?_⟩
        rw [turn_eq (tgt1 _ _ _), step_root h4 q0 ql])
    ((List.range (l.length + 1 - 1)).map fun i => 1 + i) [some (TS l), none] ⟨_, rfl⟩ (fun q hq => by
      obtain ⟨i, hi, rfl⟩ := List.mem_map.mp hq
      have := List.mem_range.mp hi
      omega)
  rw [Nat.add_sub_cancel, firstGood_per h0] at e
  have lp := st_loop (T := TC) (C := C) (tup := false) (tgt := [1]) (body := Broot) es (rng2 (by omega) (by omega))
  rw [Nat.add_sub_cancel, e] at lp
  rw [xs_cons, lp]
  rfl
end Law

set_option linter.all false
set_option maxRecDepth 100000
set_option maxHeartbeats 4000000
set_option autoImplicit false
/-! R12: k21: shuffled. -/
namespace Law
open PySem (Str PyData)
open RA Rot
variable {W : Nat}
theorem whileL_inv {step : Sig → Store → Res (Option Out)} (P : Nat → Sig → Store → Prop) (hs : ∀ m σ S, P (m + 1) σ S → ∃ σ' S', step σ S = .ok (some (.nx σ')) S' ∧ P m σ' S') (h0 : ∀ σ S, P 0 σ S → step σ S = .ok none S) :
    ∀ (m k : Nat) (σ : Sig) (S : Store), m < k → P m σ S → ∃ σ' S', whileL step k σ S = .ok (.nx σ') S' ∧ P 0 σ' S'
  | m, 0, σ, S, h, _ => by omega
  | 0, k + 1, σ, S, _, p => by
    refine ⟨σ, S, ?_, p⟩
    unfold whileL
    rw [h0 σ S p, rk]
  | m + 1, k + 1, σ, S, h, p => by
    obtain ⟨σ1, S1, e1, p1⟩ := hs m σ S p
    obtain ⟨σ2, S2, e2, p2⟩ := whileL_inv P hs h0 m k σ1 S1 (by omega) p1
    refine ⟨σ2, S2, ?_, p2⟩
    unfold whileL
    rw [e1, rk]
    exact e2
/-- a turn of a while -/
def wturn (T : Cls) (C : Ora) (c : E) (body : List RA.St) (σ : Sig) (S : Store) : Res (Option Out) := (RA.evalE C c σ S).bind fun x S => (RA.lift S (truth S x)).bind fun k S =>
  if k then (RA.execs T C body σ S).bind fun o S => .ok (some o) S else .ok none S
theorem st_while {C : Ora} {T : Cls} {τ : Sig} {S : Store} {c : E} {body : List RA.St} : RA.execS T C (.while c body) τ S = whileL (wturn T C c body) C.turns τ S := rfl
theorem ev_pop {C : Ora} {o i : E} {τ : Sig} {S S1 S2 : Store} {n j : Nat} {v : Int} {ds : List D} {y : D} (h1 : RA.evalE C o τ S = .ok (.ref n) S1) (h2 : RA.evalE C i τ S1 = .ok (.int v) S2) (hv : -(2 ^ 62) ≤ v ∧ v < 2 ^ 62) (h3 : S2[n]? = some (.lst ds)) (hj : natIx ds.length v = some j) (hy : ds[j]? = some y) :
    RA.evalE C (.pop o i) τ S = .ok y (S2.set n (.lst (ds.eraseIdx j))) := by
  have q : RA.evalE C (.pop o i) τ S = (RA.evalE C o τ S).bind fun x S => match x with
    | .ref n => (RA.evalE C i τ S).bind fun y S => match y with
      | .int k => if -(2 ^ 62) ≤ k ∧ k < 2 ^ 62 then (match S[n]? with
        | some (.lst ds) => match natIx ds.length k with
          | some j => match ds[j]? with
            | some d => .ok d (S.set n (.lst (ds.eraseIdx j)))
            | none => .bad
          | none => .bad
        | none => .bad) else .bad
      | _ => .bad
    | _ => .bad := rfl
  rw [q, h1, rk]
  dsimp only
  rw [h2, rk]
  dsimp only
  rw [if_pos hv, h3]
  dsimp only
  rw [hj]
  dsimp only
  rw [hy]
end Law

set_option linter.all false
set_option maxRecDepth 100000
set_option maxHeartbeats 4000000
set_option autoImplicit false
/-! R13: k21: shuffled, the turns. -/
namespace Law
open PySem (Str PyData)
open RA Rot
variable {W : Nat}
theorem erase_map (f : Str → D) : ∀ (l : List Str) (i : Nat), (l.map f).eraseIdx i = (l.eraseIdx i).map f
  | [], _ => rfl
  | _ :: _, 0 => rfl
  | x :: l, i + 1 => congrArg (f x :: ·) (erase_map f l i)
theorem pd_lst {S : Store} {b : Nat} {zs : List Str} (h : S[b]? = some (.lst (zs.map D.str))) : pd S (.ref b) = some (.list (zs.map PyData.str)) := by
  show (match S[b]? with
    | some (.lst ds) => (toPs (deep 7 S) ds).map PyData.list
    | none => none) = _
  rw [h]
  dsimp only
  rw [toPs_strs]; rfl
theorem ne_nil {S : Store} {b : Nat} {zs : List Str} (h : S[b]? = some (.lst (zs.map D.str))) : cmpop S .ne (.ref b) (.vl []) = some (.bl (!decide (zs = []))) := by
  show ((pd S (.ref b)).bind fun p => (pd S (.vl [])).bind fun q => if min p.depth q.depth ≤ 60 then some (p.eqv q) else none).map (fun b => D.bl (!b)) = _
  rw [pd_lst h]
  have e : pd S (.vl []) = some (.list (([] : List Str).map PyData.str)) := rfl
  rw [e, Option.bind_some, Option.bind_some, if_pos]
  · have q : (PyData.list (zs.map PyData.str)).eqv (.list (([] : List Str).map PyData.str)) = decide (zs = []) := by
      simp only [PyData.eqv]
      exact eqv_strs zs []
    rw [q]; rfl
  · have : (PyData.list (([] : List Str).map PyData.str)).depth ≤ 1 := by
      simp only [List.map_nil, PyData.depth, PyData.depthAll]; exact Nat.le_refl _
    omega
def Bshuf : List RA.St := [(.exp (.append (.var 2) (.pop (.var 3) (.call 12 [(.var 0), (.bcall .len [(.var 3)])]))))]
/-- the state of the shuffling: m are left -/
structure Shuf (n : Nat) (B : Nat) (xs : List Str) (S0 : Store) (m : Nat) (σ : Sig) (S : Store) : Prop where
  ex : ∃ ys zs : List Str, zs.length = m ∧ ys.length + m = xs.length ∧ (∀ y ∈ ys, y ∈ xs) ∧ (∀ z ∈ zs, z ∈ xs) ∧ S[S0.length]? = some (.lst (ys.map D.str)) ∧ S[S0.length + 1]? = some (.lst (zs.map D.str)) ∧ Dice S n (B + ys.length)
  len : S.length = S0.length + 2
  old : ∀ i, i < S0.length → i ≠ n → S[i]? = S0[i]?
  sig : σ = [some (.ref n), some (.vl (xs.map D.str)), some (.ref S0.length), some (.ref (S0.length + 1))]
theorem shuf_step {k n B m : Nat} {xs : List Str} {S0 S : Store} {σ : Sig} {C : Ora} (fe : ∀ ds S, C.fn 12 ds S = callF TC GA W (k + 1) 12 ds S) (hn : n < S0.length) (hx : xs.length ≤ 100) (hB : B ≤ 900000) (h : Shuf n B xs S0 (m + 1) σ S) :
    ∃ σ' S', wturn TC C (.cmp .ne (.var 3) (.lst [])) Bshuf σ S = .ok (some (.nx σ')) S' ∧ Shuf n B xs S0 m σ' S' := by
  obtain ⟨⟨ys, zs, hz, hy, iy, iz, a1, a2, dc⟩, hl, ho, rfl⟩ := h
  have v0 : ∀ S, RA.evalE C (.var 0) [some (.ref n), some (.vl (xs.map D.str)), some (.ref S0.length), some (.ref (S0.length + 1))] S = .ok (.ref n) S := fun _ => rfl
  have v2 : ∀ S, RA.evalE C (.var 2) [some (.ref n), some (.vl (xs.map D.str)), some (.ref S0.length), some (.ref (S0.length + 1))] S = .ok (.ref S0.length) S := fun _ => rfl
  have v3 : ∀ S, RA.evalE C (.var 3) [some (.ref n), some (.vl (xs.map D.str)), some (.ref S0.length), some (.ref (S0.length + 1))] S = .ok (.ref (S0.length + 1)) S := fun _ => rfl
  have t : ∀ b S, truth S (.bl b) = some b := fun _ _ => rfl
  have b1 : ∀ S x, bcall S .len [x] = lenD S x := fun _ _ => rfl
  have l3 : lenD S (.ref (S0.length + 1)) = some (.int ((m + 1 : Nat) : Int)) := by
    show (match S[S0.length + 1]? with | some (.lst ds) => some ds | none => none).map (fun ds : List D => D.int (ds.length : Int)) = _
    rw [a2]
    show some (D.int ((zs.map D.str).length : Int)) = _
    rw [List.length_map, hz]
  obtain ⟨r, S1, e1, r0, r1, d1, s1⟩ := roll (T := TC) (Γ := GA) (W := W) (k := k) (i := 12) (t := ((m + 1 : Nat) : Int)) rfl dc (by omega) (by omega) (log_small (by omega))
  have hr : r = ((r.toNat : Nat) : Int) := (Int.toNat_of_nonneg r0).symm
  have hrl : r.toNat < zs.length := by omega
  have a1' : S1[S0.length]? = some (.lst (ys.map D.str)) := by rw [s1.2 _ (by omega)]; exact a1
  have a2' : S1[S0.length + 1]? = some (.lst (zs.map D.str)) := by rw [s1.2 _ (by omega)]; exact a2
  have ix : natIx (zs.map D.str).length r = some r.toNat := by
    have q := natIx_in (n := (zs.map D.str).length) (by rw [List.length_map]; exact hrl)
    rwa [← hr] at q
  have hyv : (zs.map D.str)[r.toNat]? = some (.str zs[r.toNat]) := by
    rw [List.getElem?_map, List.getElem?_eq_getElem hrl]; rfl
  have cl : RA.evalE C (.call 12 [(.var 0), (.bcall .len [(.var 3)])]) [some (.ref n), some (.vl (xs.map D.str)), some (.ref S0.length), some (.ref (S0.length + 1))] S = .ok (.int r) S1 := by
    rw [ev_call, es_cons, v0, rk, es_cons, ev_bcall1, v3, rk, b1, l3, lk, rk, es_nil, rk, rk, rk, fe, e1]
  have sm : -(2 ^ 62) ≤ r ∧ r < 2 ^ 62 := by
    rw [hr]; exact small62 (by omega)
  have pp := ev_pop (v3 S) cl sm a2' ix hyv
  have a1'' : (S1.set (S0.length + 1) (.lst ((zs.map D.str).eraseIdx r.toNat)))[S0.length]? = some (.lst (ys.map D.str)) := by
    rw [List.getElem?_set_ne (by omega)]; exact a1'
  have ap := ev_append (v2 S) pp a1'' (by
    rw [List.length_map]
    exact Nat.lt_of_le_of_lt (show ys.length ≤ 100 by omega) (by decide))
  have c := ne_nil a2
  have hzn : ¬ zs = [] := fun z => by rw [z] at hz; cases hz
  have ln : S1.length = S.length := s1.1
  refine ⟨[some (.ref n), some (.vl (xs.map D.str)), some (.ref S0.length), some (.ref (S0.length + 1))], (S1.set (S0.length + 1) (.lst ((zs.map D.str).eraseIdx r.toNat))).set S0.length (.lst (ys.map D.str ++ [.str zs[r.toNat]])), ?_, ⟨ys ++ [zs[r.toNat]], zs.eraseIdx r.toNat, ?_, ?_, ?_, ?_, ?_, ?_, ?_⟩, ?_, ?_, rfl⟩
  · unfold wturn Bshuf
    rw [ev_cmp, v3, rk, ev_lst, es_nil, rk, rk, c, lk, rk, t, lk, rk, decide_eq_false hzn, if_pos (show (!false) = true from rfl), xs_cons, st_exp, ap, rk, rk]
    dsimp only
    rw [xs_nil, rk]
  · rw [List.length_eraseIdx_of_lt hrl]; omega
  · rw [List.length_append, List.length_singleton]; omega
  · intro y hy'
    rcases List.mem_append.mp hy' with z | z
    · exact iy y z
    · rw [List.mem_singleton.mp z]; exact iz _ (List.getElem_mem _)
  · exact fun z hz' => iz z (List.mem_of_mem_eraseIdx hz')
  · rw [List.getElem?_set_self (by rw [List.length_set]; omega), List.map_append]; rfl
  · rw [List.getElem?_set_ne (by omega), List.getElem?_set_self (by omega), erase_map]
  · obtain ⟨a, b, cc, h1, h2⟩ := d1
    refine ⟨a, b, cc, ?_, ?_⟩
    · rw [List.getElem?_set_ne (by omega), List.getElem?_set_ne (by omega)]; exact h1
    · rw [List.length_append, List.length_singleton, ← Nat.add_assoc]; exact h2
  · rw [List.length_set, List.length_set]; omega
  · intro i hi hin
    rw [List.getElem?_set_ne (by omega), List.getElem?_set_ne (by omega), s1.2 i hin]
    exact ho i hi hin
end Law

set_option linter.all false
set_option maxRecDepth 100000
set_option maxHeartbeats 4000000
set_option autoImplicit false
/-! R14: k21: shuffled. -/
namespace Law
open PySem (Str PyData)
open RA Rot
variable {W : Nat}
theorem law_shuffled {k n B : Nat} {xs : List Str} {S0 : Store} (hW : 200 ≤ W) (hn : n < S0.length) (hx : xs.length ≤ 100) (hB : B ≤ 900000) (dc : Dice S0 n B) :
    ∃ (ys : List Str) (S : Store), callF TC GA W (k + 2) 14 [.ref n, .vl (xs.map D.str)] S0 = .ok (.ref S0.length) S ∧ ys.length = xs.length ∧ (∀ y ∈ ys, y ∈ xs) ∧ S[S0.length]? = some (.lst (ys.map D.str)) ∧ Dice S n (B + xs.length) ∧ S.length = S0.length + 2 ∧ ∀ i, i < S0.length → i ≠ n → S[i]? = S0[i]? := by
  rw [callF_eq (fn := F14) rfl rfl]
  have s1 : RA.start 4 [.ref n, .vl (xs.map D.str)] = [some (.ref n), some (.vl (xs.map D.str)), none, none] := rfl
  have hI : F14.body = [(.par [2, 3] [(.new (.lst [])), (.new (.bcall .list [(.var 1)]))]), (.while (.cmp .ne (.var 3) (.lst [])) Bshuf), (.ret (.var 2))] := rfl
  have hns : F14.ns = 4 := rfl
  have fe : ∀ ds S, (ora1 TC GA (callF TC GA W (k + 1)) W).fn 12 ds S = callF TC GA W (k + 1) 12 ds S := fun _ _ => rfl
  have ft : (ora1 TC GA (callF TC GA W (k + 1)) W).turns = W := rfl
  rw [hI, hns, s1]
  generalize ora1 TC GA (callF TC GA W (k + 1)) W = C at fe ft
  have new1 : RA.evalE C (.new (.lst [])) [some (.ref n), some (.vl (xs.map D.str)), none, none] S0 = .ok (.ref S0.length) (S0 ++ [.lst []]) := rfl
  have new2 : ∀ S, RA.evalE C (.new (.bcall .list [(.var 1)])) [some (.ref n), some (.vl (xs.map D.str)), none, none] S = .ok (.ref S.length) (S ++ [.lst (xs.map D.str)]) := fun _ => rfl
  have par : RA.execS TC C (.par [2, 3] [(.new (.lst [])), (.new (.bcall .list [(.var 1)]))]) [some (.ref n), some (.vl (xs.map D.str)), none, none] S0 =
      .ok (.nx [some (.ref n), some (.vl (xs.map D.str)), some (.ref S0.length), some (.ref (S0.length + 1))]) (S0 ++ [.lst []] ++ [.lst (xs.map D.str)]) := by
    have e : RA.execS TC C (.par [2, 3] [(.new (.lst [])), (.new (.bcall .list [(.var 1)]))]) [some (.ref n), some (.vl (xs.map D.str)), none, none] S0 =
        (RA.evalEs C [(.new (.lst [])), (.new (.bcall .list [(.var 1)]))] [some (.ref n), some (.vl (xs.map D.str)), none, none] S0).bind fun ds S => (RA.lift S (setAll [some (.ref n), some (.vl (xs.map D.str)), none, none] [2, 3] ds)).bind fun σ S => .ok (.nx σ) S := rfl
    rw [e, es_cons, new1, rk, es_cons, new2, rk, es_nil, rk, rk, rk, List.length_append, List.length_singleton]
    rfl
  have c0 : Shuf n B xs S0 xs.length [some (.ref n), some (.vl (xs.map D.str)), some (.ref S0.length), some (.ref (S0.length + 1))] (S0 ++ [.lst []] ++ [.lst (xs.map D.str)]) := by
    refine ⟨⟨[], xs, rfl, by simp, (fun y h => nomatch h), (fun z h => h), ?_, ?_, ?_⟩, by simp, fun i hi _ => ?_, rfl⟩
    · rw [List.getElem?_append_left (by rw [List.length_append, List.length_singleton]; omega)]
      exact at_end
    · have : S0.length + 1 = (S0 ++ [SO.lst []]).length := by rw [List.length_append, List.length_singleton]
      rw [this]
      exact at_end
    · obtain ⟨a, b, cc, h1, h2⟩ := dc
      refine ⟨a, b, cc, ?_, h2⟩
      rw [List.getElem?_append_left (by rw [List.length_append, List.length_singleton]; omega), List.getElem?_append_left hn]
      exact h1
    · rw [List.getElem?_append_left (by rw [List.length_append, List.length_singleton]; omega), List.getElem?_append_left hi]
  obtain ⟨σ', S', e, p⟩ := whileL_inv (step := wturn TC C (.cmp .ne (.var 3) (.lst [])) Bshuf) (Shuf n B xs S0) (fun m σ S h => shuf_step fe hn hx hB h) (fun σ S h => by
    obtain ⟨⟨ys, zs, hz, hy, iy, iz, a1, a2, dc⟩, hl, ho, rfl⟩ := h
    have z0 : zs = [] := List.length_eq_zero_iff.mp hz
    have v3 : RA.evalE C (.var 3) [some (.ref n), some (.vl (xs.map D.str)), some (.ref S0.length), some (.ref (S0.length + 1))] S = .ok (.ref (S0.length + 1)) S := rfl
    have t : ∀ b S, truth S (.bl b) = some b := fun _ _ => rfl
    unfold wturn
    rw [ev_cmp, v3, rk, ev_lst, es_nil, rk, rk, ne_nil a2, lk, rk, t, lk, rk, decide_eq_true z0, if_neg (by decide)]) xs.length W _ _ (by omega) c0
  obtain ⟨⟨ys, zs, hz, hy, iy, iz, a1, a2, dc'⟩, hl, ho, rfl⟩ := p
  have v2 : ∀ S, RA.evalE C (.var 2) [some (.ref n), some (.vl (xs.map D.str)), some (.ref S0.length), some (.ref (S0.length + 1))] S = .ok (.ref S0.length) S := fun _ => rfl
  refine ⟨ys, S', ?_, by omega, iy, a1, by rw [show xs.length = ys.length from by omega]; exact dc', hl, ho⟩
  rw [xs_cons, par, rk]
  dsimp only
  rw [xs_cons, st_while, ft, e, rk]
  dsimp only
  rw [xs_cons, st_ret, v2, rk, rk]
  rfl
end Law

set_option linter.all false
set_option maxRecDepth 100000
set_option maxHeartbeats 4000000
set_option autoImplicit false
/-! R15: k21: drawn days. -/
namespace Law
open PySem (Str PyData)
open RA Rot
variable {W : Nat}
/-- a comprehension that changes the store, by a word of the turn and of what came out -/
theorem compL_inv {α : Type} {step : α → Store → Res (Option D)} {g : Store → Bool} (P : Nat → Store → List D → Prop) : ∀ (it : List α) (a : Nat) (S : Store) (acc : List D), P a S acc → (∀ i d S acc, it[i]? = some d → P (a + i) S acc → acc.length < LINE ∧ g S = true ∧ ∃ y S', step d S = .ok (some y) S' ∧ P (a + i + 1) S' (acc ++ [y])) →
    (∀ S acc, P (a + it.length) S acc → g S = true) → ∃ l S', compL step g it S acc = .ok l S' ∧ P (a + it.length) S' l
  | [], a, S, acc, h, _, hg => ⟨acc, S, (by
      show (if g S then Res.ok acc S else .bad) = _
      rw [if_pos (hg S acc h)]), h⟩
  | d :: r, a, S, acc, h, hs, hg => by
    obtain ⟨hl, g0, y, S1, e1, h1⟩ := hs 0 d S acc rfl h
    obtain ⟨l, S2, e2, h2⟩ := compL_inv P r (a + 1) S1 (acc ++ [y]) h1 (fun i d' S acc hi hp => by
      have := hs (i + 1) d' S acc (by simpa using hi) (by rw [show a + (i + 1) = a + 1 + i from by omega]; exact hp)
      rw [show a + (i + 1) + 1 = a + 1 + i + 1 from by omega] at this
      exact this) (fun S acc hp => hg S acc (by rw [List.length_cons, show a + (r.length + 1) = a + 1 + r.length from by omega]; exact hp))
    refine ⟨l, S2, ?_, by rw [List.length_cons, show a + (r.length + 1) = a + 1 + r.length from by omega]; exact h2⟩
    show (if g S then (step d S).bind fun o S1 => match o with
      | some y => if acc.length < LINE then compL step g r S1 (acc ++ [y]) else .bad
      | none => compL step g r S1 acc
    else .bad) = _
    rw [if_pos g0, e1, rk]
    dsimp only
    rw [if_pos hl]
    exact e2
/-- a list of the store, cut -/
theorem slice_ref {S : Store} {b q : Nat} {ys : List Str} (h : S[b]? = some (.lst (ys.map D.str))) (hq : q ≤ ys.length) : slice S (.ref b) .non (.int (q : Int)) = some (.vl ((ys.take q).map D.str)) := by
  show (match S[b]? with | some (.lst ds) => some ds | none => none).map (fun ds : List D => D.vl (cut ds none (some (q : Int)))) = _
  rw [h]
  show some (D.vl (cut (ys.map D.str) none (some (q : Int)))) = _
  unfold cut
  have e : six (ys.map D.str).length (ys.map D.str).length (some (q : Int)) = q := by
    show (if (q : Int) < 0 then ((q : Int) + ((ys.map D.str).length : Int)).toNat else min (q : Int).toNat (ys.map D.str).length) = q
    rw [if_neg (by omega)]
    simp only [List.length_map, Int.toNat_natCast]
    omega
  rw [e]
  show some (D.vl (((ys.map D.str).drop 0).take (q - 0))) = _
  rw [List.drop_zero, Nat.sub_zero, ← List.map_take]
end Law

set_option linter.all false
set_option maxRecDepth 100000
set_option maxHeartbeats 4000000
set_option autoImplicit false
/-! R16: k21: drawn days, the comprehension. -/
namespace Law
open PySem (Str PyData)
open RA Rot
variable {W : Nat}
theorem Dice.more {S : Store} {n B B' : Nat} (d : Dice S n B) (h : B ≤ B') : Dice S n B' := by
  obtain ⟨a, b, c, h1, h2, h3, h4, h5, h6⟩ := d
  exact ⟨a, b, c, h1, h2, h3, h4, h5, by omega⟩
/-- the old part of the store stays, but for the dice -/
def Old (n : Nat) (S S' : Store) : Prop := S.length ≤ S'.length ∧ ∀ i, i < S.length → i ≠ n → S'[i]? = S[i]?
theorem Old.refl {n : Nat} {S : Store} : Old n S S := ⟨Nat.le_refl _, fun _ _ _ => rfl⟩
theorem Old.trans {n : Nat} {S S1 S2 : Store} (a : Old n S S1) (b : Old n S1 S2) : Old n S S2 := ⟨Nat.le_trans a.1 b.1, fun i h hn => (b.2 i (Nat.lt_of_lt_of_le h a.1) hn).trans (a.2 i h hn)⟩
theorem Old.of {n : Nat} {S S' : Store} (s : SameBut n S S') : Old n S S' := ⟨Nat.le_of_eq s.1.symm, fun i _ hn => s.2 i hn⟩
theorem strs_of {ds : List D} {l : List Str} (h : ∀ y ∈ ds, ∃ x ∈ l, y = .str x) : ∃ ws : List Str, ds = ws.map D.str ∧ ∀ w ∈ ws, w ∈ l := by
  induction ds with
  | nil => exact ⟨[], rfl, fun w hw => nomatch hw⟩
  | cons d r ih =>
    obtain ⟨ws, e, hw⟩ := ih fun y hy => h y (List.mem_cons_of_mem _ hy)
    obtain ⟨x, hx, e2⟩ := h d List.mem_cons_self
    refine ⟨x :: ws, by rw [e2, e]; rfl, fun w hw' => ?_⟩
    rcases List.mem_cons.mp hw' with z | z
    · rw [z]; exact hx
    · exact hw w z
/-- many picks -/
theorem picks {C : Ora} {k n B m : Nat} {zs : List Str} {S0 : Store} {τ : Sig} (fe : ∀ ds S, C.fn 13 ds S = callF TC GA W (k + 2) 13 ds S) (hz : zs ≠ []) (hzl : zs.length ≤ 100) (hB : B + m ≤ 900000) (dc : Dice S0 n B)
    (hτ : ∃ a b, RA.wipe τ [3] = [some (.ref n), some (.vl (zs.map D.str)), a, b]) :
    ∃ (ws : List Str) (S : Store), compL (cstep C [3] false [3] (.con (.bl true)) (.call 13 [(.var 0), (.var 1)]) τ) (fun S => still S ((List.range m).map fun q : Nat => D.int (q : Int), none)) ((List.range m).map fun q : Nat => D.int (q : Int)) S0 [] = .ok (ws.map D.str) S ∧
      ws.length = m ∧ (∀ w ∈ ws, w ∈ zs) ∧ Dice S n (B + m) ∧ SameBut n S0 S := by
  obtain ⟨a, b, hτ⟩ := hτ
  obtain ⟨l, S, e, dS, sS, lS, iS⟩ := compL_inv (step := cstep C [3] false [3] (.con (.bl true)) (.call 13 [(.var 0), (.var 1)]) τ) (g := fun S => still S ((List.range m).map fun q : Nat => D.int (q : Int), none))
    (fun i S acc => Dice S n (B + i) ∧ SameBut n S0 S ∧ acc.length = i ∧ ∀ y ∈ acc, ∃ x ∈ zs, y = .str x) ((List.range m).map fun q : Nat => D.int (q : Int)) 0 S0 [] ⟨dc, SameBut.refl, rfl, fun y hy => nomatch hy⟩
    (fun i d S acc hi ⟨h1, h2, h3, h4⟩ => by
      have him : i < m := by
        have := (List.getElem?_eq_some_iff.mp hi).1
        rwa [List.length_map, List.length_range] at this
      obtain ⟨y, S', e1, hy, d1, s1⟩ := pick (T := TC) (Γ := GA) (W := W) (k := k) (i := 13) (r := 12) (x := .vl (zs.map D.str)) (ds := zs.map D.str) rfl rfl h1 (by omega) rfl (fun z => nomatch z) (fun s z => nomatch z) (by simpa using hz) (by rw [List.length_map]; omega)
      refine ⟨?_, rfl, y, S', ?_, ?_, h2.trans s1, ?_, ?_⟩
      · rw [h3]
        exact Nat.lt_of_le_of_lt (show 0 + i ≤ 900000 by omega) (by decide)
      · have tg : target (RA.wipe τ [3]) false [3] d = some [some (.ref n), some (.vl (zs.map D.str)), a, some d] := by
          rw [hτ]; rfl
        have ev : RA.evalE C (.call 13 [(.var 0), (.var 1)]) [some (.ref n), some (.vl (zs.map D.str)), a, some d] S = .ok y S' := by
          have v0 : RA.evalE C (.var 0) [some (.ref n), some (.vl (zs.map D.str)), a, some d] S = .ok (.ref n) S := rfl
          have v1 : RA.evalE C (.var 1) [some (.ref n), some (.vl (zs.map D.str)), a, some d] S = .ok (.vl (zs.map D.str)) S := rfl
          rw [ev_call, es_cons, v0, rk, es_cons, v1, rk, es_nil, rk, rk, rk, fe, e1]
        unfold cstep
        rw [tg]
        dsimp only
        rw [ev_con]
        show ((RA.lift S (some true)).bind fun k S => if k then ((RA.evalE C (.call 13 [(.var 0), (.var 1)]) [some (.ref n), some (.vl (zs.map D.str)), a, some d] S).noexc).bind fun y S => Res.ok (some y) S else .ok none S) = _
        rw [lk, rk, if_pos rfl, ev]
        rfl
      · exact d1
      · rw [List.length_append, List.length_singleton, h3]
      · intro z hz'
        rcases List.mem_append.mp hz' with q | q
        · exact h4 z q
        · rw [List.mem_singleton.mp q]
          obtain ⟨x, hx, e⟩ := List.mem_map.mp hy
          exact ⟨x, hx, e.symm⟩)
    (fun S acc _ => rfl)
  rw [List.length_map, List.length_range, Nat.zero_add] at dS lS
  obtain ⟨ws, e2, hw⟩ := strs_of iS
  refine ⟨ws, S, by rw [e, e2], ?_, hw, dS, sS⟩
  rw [e2, List.length_map] at lS
  exact lS
end Law

set_option linter.all false
set_option maxRecDepth 100000
set_option maxHeartbeats 4000000
set_option autoImplicit false
/-! R17: k21: drawn days. -/
namespace Law
open PySem (Str PyData)
open RA Rot
variable {W : Nat}
def SIX : List Str := ["a", "b", "a.", "ab", "day", "z9"]
theorem law_drawn {k n B : Nat} {S0 : Store} (hW : 200 ≤ W) (hn : n < S0.length) (hB : B ≤ 800000) (dc : Dice S0 n B) :
    ∃ (l : List Str) (S : Store), callF TC GA W (k + 3) 17 [.ref n] S0 = .ok (TS l) S ∧ (∀ x ∈ l, x ∈ OKN) ∧ 1 ≤ l.length ∧ l.length ≤ 14 ∧ Dice S n (B + 40) ∧ Old n S0 S := by
  rw [callF_eq (fn := F17) rfl rfl]
  have s1 : RA.start 4 [.ref n] = [some (.ref n), none, none, none] := rfl
  have hI : F17.body = [(.asg 1 (.slice (.call 14 [(.var 0), (.lst [(.con (.str "a")), (.con (.str "b")), (.con (.str "a.")), (.con (.str "ab")), (.con (.str "day")), (.con (.str "z9"))])]) (.con .non) (.ofInt (.bin .add (.con (.int 1)) (.call 12 [(.var 0), (.con (.int 3))]))))),
    (.asg 2 (.bcall .tuple [(.comp [3] false [3] .rng1 [(.bin .add (.con (.int 1)) (.call 12 [(.var 0), (.con (.int 7))]))] (.con (.bl true)) (.call 13 [(.var 0), (.var 1)]))])),
    (.ret (.ife (.cmp .eq (.call 12 [(.var 0), (.con (.int 2))]) (.con (.int 0))) (.bin .mul (.var 2) (.bin .add (.con (.int 1)) (.call 12 [(.var 0), (.con (.int 2))]))) (.var 2)))] := rfl
  have hns : F17.ns = 4 := rfl
  have fe : ∀ i ds S, (ora1 TC GA (callF TC GA W (k + 2)) W).fn i ds S = callF TC GA W (k + 2) i ds S := fun _ _ _ => rfl
  rw [hI, hns, s1]
  generalize ora1 TC GA (callF TC GA W (k + 2)) W = C at fe
  have v0 : ∀ b c d S, RA.evalE C (.var 0) [some (.ref n), b, c, d] S = .ok (.ref n) S := fun _ _ _ _ => rfl
  have v2 : ∀ b x d S, RA.evalE C (.var 2) [some (.ref n), b, some x, d] S = .ok x S := fun _ _ _ _ => rfl
  have six_ : ∀ τ S, RA.evalE C (.lst [(.con (.str "a")), (.con (.str "b")), (.con (.str "a.")), (.con (.str "ab")), (.con (.str "day")), (.con (.str "z9"))]) τ S = .ok (.vl (SIX.map D.str)) S := fun _ _ => rfl
  have lg : ∀ t : Nat, t ≤ 1000 → ((t : Nat) : Int).natAbs.log2 < 9000 := fun t h => log_small h
  -- a throw
  have throw : ∀ (t B' : Nat) (b c d : Option D) (S : Store), 0 < t → t ≤ 1000 → B' ≤ 900000 → Dice S n B' → ∃ (v : Nat) (S' : Store), RA.evalE C (.call 12 [(.var 0), (.con (.int (t : Int)))]) [some (.ref n), b, c, d] S = .ok (.int (v : Int)) S' ∧ v < t ∧ Dice S' n (B' + 1) ∧ SameBut n S S' := fun t B' b c d S h0 h1 h2 h3 => by
    obtain ⟨r, S', e, r0, r1, d', s'⟩ := roll (T := TC) (Γ := GA) (W := W) (k := k + 1) (i := 12) (t := (t : Int)) rfl h3 (by omega) (by omega) (lg t h1)
    have hr : r = ((r.toNat : Nat) : Int) := (Int.toNat_of_nonneg r0).symm
    refine ⟨r.toNat, S', ?_, by omega, d', s'⟩
    rw [ev_call, es_cons, v0, rk, es_cons, ev_con, rk, es_nil, rk, rk, rk, fe, e, ← hr]
  have add1 : ∀ (v : Nat) S, binop S .add (.int ((1 : Nat) : Int)) (.int (v : Int)) = some (.int ((1 + v : Nat) : Int)) := fun _ _ => rfl
  -- names
  obtain ⟨ys, S1, e1, ly, iy, a1, d1, len1, o1⟩ := law_shuffled (W := W) (k := k) (xs := SIX) hW hn (by decide) (by omega) dc
  have O1 : Old n S0 S1 := ⟨by omega, o1⟩
  obtain ⟨v, S2, e2, hv, d2, s2⟩ := throw 3 (B + 6) none none none S1 (by decide) (by decide) (by omega) d1
  have hys : ys.length = 6 := ly
  have a2 : S2[S0.length]? = some (.lst (ys.map D.str)) := by rw [s2.2 _ (by omega)]; exact a1
  have sl := slice_ref (q := 1 + v) a2 (by omega)
  generalize hzs : ys.take (1 + v) = zs at sl
  have lz : zs.length = 1 + v := by rw [← hzs, List.length_take]; omega
  have iz : ∀ z ∈ zs, z ∈ SIX := fun z hz => iy z (List.mem_of_mem_take (by rw [hzs]; exact hz))
  have E1 : RA.evalE C (.slice (.call 14 [(.var 0), (.lst [(.con (.str "a")), (.con (.str "b")), (.con (.str "a.")), (.con (.str "ab")), (.con (.str "day")), (.con (.str "z9"))])]) (.con .non) (.ofInt (.bin .add (.con (.int 1)) (.call 12 [(.var 0), (.con (.int 3))])))) [some (.ref n), none, none, none] S0 = .ok (.vl (zs.map D.str)) S2 := by
    rw [ev_slice, ev_call, es_cons, v0, rk, es_cons, six_, rk, es_nil, rk, rk, rk, fe, e1, rk, ev_con, rk, ev_ofInt, ev_bin, ev_con, rk]
    rw [show (D.int 3 : D) = .int ((3 : Nat) : Int) from rfl, e2, rk, show (D.int 1 : D) = .int ((1 : Nat) : Int) from rfl, add1, lk, rk]
    dsimp only
    rw [rk, sl, lk]
  -- days
  obtain ⟨u, S3, e3, hu, d3, s3⟩ := throw 7 (B + 7) (some (.vl (zs.map D.str))) none none S2 (by decide) (by decide) (by omega) d2
  obtain ⟨ws, S4, e4, lw, iw, d4, s4⟩ := picks (C := C) (W := W) (k := k) (n := n) (B := B + 8) (m := 1 + u) (zs := zs) (S0 := S3) (τ := [some (.ref n), some (.vl (zs.map D.str)), none, none]) (fe 13) (by intro z; rw [z] at lz; simp at lz; omega) (by omega) (by omega) d3 ⟨none, none, rfl⟩
  have okw : ∀ x ∈ ws, x ∈ OKN := fun x hx => by
    have := iz x (iw x hx)
    simp only [SIX, OKN, List.mem_cons, List.not_mem_nil, or_false] at this ⊢
    rcases this with h | h | h | h | h | h <;> simp [h]
  have E2 : RA.evalE C (.bcall .tuple [(.comp [3] false [3] .rng1 [(.bin .add (.con (.int 1)) (.call 12 [(.var 0), (.con (.int 7))]))] (.con (.bl true)) (.call 13 [(.var 0), (.var 1)]))]) [some (.ref n), some (.vl (zs.map D.str)), none, none] S2 = .ok (TS ws) S4 := by
    have es : RA.evalEs C [(.bin .add (.con (.int 1)) (.call 12 [(.var 0), (.con (.int 7))]))] [some (.ref n), some (.vl (zs.map D.str)), none, none] S2 = .ok [.int ((1 + u : Nat) : Int)] S3 := by
      rw [es_cons, ev_bin, ev_con, rk, show (D.int 7 : D) = .int ((7 : Nat) : Int) from rfl, e3, rk, show (D.int 1 : D) = .int ((1 : Nat) : Int) from rfl, add1, lk, rk, es_nil, rk]
    have q : RA.evalE C (.comp [3] false [3] .rng1 [(.bin .add (.con (.int 1)) (.call 12 [(.var 0), (.con (.int 7))]))] (.con (.bl true)) (.call 13 [(.var 0), (.var 1)])) [some (.ref n), some (.vl (zs.map D.str)), none, none] S2 =
        (RA.evalEs C [(.bin .add (.con (.int 1)) (.call 12 [(.var 0), (.con (.int 7))]))] [some (.ref n), some (.vl (zs.map D.str)), none, none] S2).bind fun ds S => match srcOf S .rng1 ds with
        | none => Res.bad
        | some it => (compL (cstep C [3] false [3] (.con (.bl true)) (.call 13 [(.var 0), (.var 1)]) [some (.ref n), some (.vl (zs.map D.str)), none, none]) (fun S => still S it) it.1 S []).bind fun l S => .ok (.vl l) S := rfl
    have b1 : ∀ S ds, bcall S .tuple [.vl ds] = some (.tup ds) := fun _ _ => rfl
    rw [ev_bcall1, q, es, rk, rng1 (by omega)]
    dsimp only
    rw [e4, rk, rk, b1, lk]
    rfl
  have O4 : Old n S0 S4 := O1.trans ((Old.of s2).trans ((Old.of s3).trans (Old.of s4)))
  obtain ⟨t1, S5, e5, ht1, d5, s5⟩ := throw 2 (B + 8 + (1 + u)) (some (.vl (zs.map D.str))) (some (TS ws)) none S4 (by decide) (by decide) (by omega) d4
  have set1 : ∀ x, ([some (.ref n), none, none, none] : Sig).set 1 (some x) = [some (.ref n), some x, none, none] := fun _ => rfl
  have set2 : ∀ y x, ([some (.ref n), some y, none, none] : Sig).set 2 (some x) = [some (.ref n), some y, some x, none] := fun _ _ => rfl
  have c : cmpop S5 .eq (.int (t1 : Int)) (.int 0) = some (.bl (decide (t1 = 0))) := by
    show (eqd S5 (.int (t1 : Int)) (.int 0)).map D.bl = _
    rw [eqd_int]
    have : decide (((t1 : Nat) : Int) = 0) = decide (t1 = 0) := by
      by_cases z : t1 = 0
      · rw [decide_eq_true z, decide_eq_true (by omega)]
      · rw [decide_eq_false z, decide_eq_false (by omega)]
    rw [this]; rfl
  have tr : ∀ b S, truth S (.bl b) = some b := fun _ _ => rfl
  have C0 : RA.evalE C (.cmp .eq (.call 12 [(.var 0), (.con (.int 2))]) (.con (.int 0))) [some (.ref n), some (.vl (zs.map D.str)), some (TS ws), none] S4 = .ok (.bl (decide (t1 = 0))) S5 := by
    rw [ev_cmp, show (D.int 2 : D) = .int ((2 : Nat) : Int) from rfl, e5, rk, ev_con, rk, c, lk]
  by_cases h0 : t1 = 0
  · obtain ⟨t2, S6, e6, ht2, d6, s6⟩ := throw 2 (B + 8 + (1 + u) + 1) (some (.vl (zs.map D.str))) (some (TS ws)) none S5 (by decide) (by decide) (by omega) d5
    have ml : (reps (1 + t2) ws).length = (1 + t2) * ws.length := reps_length _ _
    have mu := mul_TS S6 (l := ws) (k := 1 + t2) (by omega) (by omega)
    refine ⟨reps (1 + t2) ws, S6, ?_, fun x hx => ?_, ?_, ?_, Dice.more d6 (by omega), O4.trans ((Old.of s5).trans (Old.of s6))⟩
    · rw [xs_cons, st_asg, E1, rk, rk]
      dsimp only
      rw [set1, xs_cons, st_asg, E2, rk, rk]
      dsimp only
      rw [set2, xs_cons, st_ret, ev_ife, C0, rk, tr, lk, rk, decide_eq_true h0, if_pos rfl, ev_bin, v2, rk, ev_bin, ev_con, rk, show (D.int 2 : D) = .int ((2 : Nat) : Int) from rfl, e6, rk, show (D.int 1 : D) = .int ((1 : Nat) : Int) from rfl, add1, lk, rk, mu, lk, rk, rk]
      rfl
    · unfold reps at hx
      obtain ⟨r, hr, hx'⟩ := List.mem_flatten.mp hx
      rw [List.eq_of_mem_replicate hr] at hx'
      exact okw x hx'
    · rw [ml, lw]
      exact Nat.mul_pos (by omega) (by omega)
    · rw [ml, lw]
      exact Nat.mul_le_mul (show 1 + t2 ≤ 2 by omega) (show 1 + u ≤ 7 by omega)
  · refine ⟨ws, S5, ?_, okw, by omega, by omega, Dice.more d5 (by omega), O4.trans (Old.of s5)⟩
    rw [xs_cons, st_asg, E1, rk, rk]
    dsimp only
    rw [set1, xs_cons, st_asg, E2, rk, rk]
    dsimp only
    rw [set2, xs_cons, st_ret, ev_ife, C0, rk, tr, lk, rk, decide_eq_false h0, if_neg (by decide), v2, rk, rk]
    rfl
end Law

set_option linter.all false
set_option maxRecDepth 100000
set_option maxHeartbeats 4000000
set_option autoImplicit false
/-! R18: k21: what is shown. -/
namespace Law
open PySem (Str PyData)
open RA Rot
variable {W : Nat}
/-- data whose repr is at hand -/
structure Nice (p : PyData) (d w : Nat) : Prop where
  sh : p.showable = true
  lv : p.leavesShort 13 = true
  dp : p.depth ≤ d
  wt : p.weight ≤ w
theorem repr_nice {S : Store} {x : D} {p : PyData} {d w : Nat} (h : pd S x = some p) (n : Nice p d w) (hd : d ≤ 60) (hw : w ≤ 100000) : reprD S x = some (.str p.shown) := by
  have := PyData.shown_le 13 (by decide) p n.lv
  have w1 := n.wt
  show (pd S x).bind (fun p => if p.showable = true ∧ p.depth ≤ 60 ∧ p.shown.length + 64 ≤ LINE then some (D.str p.shown) else none) = _
  have len : p.shown.length + 64 ≤ LINE := by
    have q : (13 + 2) * p.weight ≤ 15 * 100000 := Nat.mul_le_mul_left 15 (Nat.le_trans w1 hw)
    exact Nat.le_trans (show p.shown.length + 64 ≤ 1600000 by omega) (by decide)
  rw [h, Option.bind_some, if_pos ⟨n.sh, Nat.le_trans n.dp hd, len⟩]
theorem name_nice {x : Str} (h : x ∈ OKN) : (PyData.str x).leavesShort 13 = true ∧ x.cps.size ≤ 4 := by
  simp only [OKN, List.mem_cons, List.not_mem_nil, or_false] at h
  rcases h with rfl | rfl | rfl | rfl | rfl | rfl | rfl <;> exact ⟨by decide +kernel, by decide +kernel⟩
theorem strs_nice : ∀ l : List Str, (∀ x ∈ l, x ∈ OKN) → PyData.showableAll (l.map PyData.str) = true ∧ PyData.leavesShortAll 13 (l.map PyData.str) = true ∧ PyData.weightAll (l.map PyData.str) ≤ 5 * l.length
  | [], _ => by simp [PyData.showableAll, PyData.leavesShortAll, PyData.weightAll]
  | x :: l, h => by
    obtain ⟨a, b, c⟩ := strs_nice l fun y hy => h y (List.mem_cons_of_mem _ hy)
    obtain ⟨d, e⟩ := name_nice (h x List.mem_cons_self)
    simp only [List.map_cons, PyData.showableAll, PyData.leavesShortAll, PyData.weightAll, PyData.showable, PyData.weight, a, b, d, Bool.and_self, List.length_cons, true_and]
    omega
theorem PS_nice {l : List Str} {k : Nat} (h : ∀ x ∈ l, x ∈ OKN) (hk : l.length ≤ k) : Nice (PS l) 1 (5 * k) := by
  obtain ⟨a, b, c⟩ := strs_nice l h
  refine ⟨?_, ?_, Nat.le_of_eq (depth_PS l), ?_⟩
  · unfold PS; simp only [PyData.showable]; exact a
  · unfold PS; simp only [PyData.leavesShort]; exact b
  · unfold PS; simp only [PyData.weight]; omega
theorem rows_nice {k : Nat} : ∀ ls : List (List Str), (∀ l ∈ ls, (∀ x ∈ l, x ∈ OKN) ∧ l.length ≤ k) → PyData.showableAll (ls.map PS) = true ∧ PyData.leavesShortAll 13 (ls.map PS) = true ∧ PyData.weightAll (ls.map PS) ≤ (5 * k + 1) * ls.length ∧ PyData.depthAll (ls.map PS) ≤ 1
  | [], _ => by simp [PyData.showableAll, PyData.leavesShortAll, PyData.weightAll, PyData.depthAll]
  | l :: ls, h => by
    obtain ⟨a, b, c, d⟩ := rows_nice ls fun y hy => h y (List.mem_cons_of_mem _ hy)
    have n := PS_nice (h l List.mem_cons_self).1 (h l List.mem_cons_self).2
    have w := n.wt
    refine ⟨?_, ?_, ?_, ?_⟩
    · simp only [List.map_cons, PyData.showableAll, n.sh, a, Bool.and_self]
    · simp only [List.map_cons, PyData.leavesShortAll, n.lv, b, Bool.and_self]
    · simp only [List.map_cons, PyData.weightAll, List.length_cons, Nat.mul_succ]
      omega
    · simp only [List.map_cons, PyData.depthAll, depth_PS]
      omega
end Law

set_option linter.all false
set_option maxRecDepth 100000
set_option maxHeartbeats 4000000
set_option autoImplicit false
/-! R19: k21: days made of days. -/
namespace Law
open PySem (Str PyData)
open RA Rot
variable {W : Nat}
theorem days_rot {l : List Str} {i : Nat} (d : Days l) (hi : i ≤ l.length) : Days (rot i l) := ⟨fun x hx => by
  unfold rot at hx
  rcases List.mem_append.mp hx with h | h
  · exact d.nm x (List.mem_of_mem_drop h)
  · exact d.nm x (List.mem_of_mem_take h), by rw [rot_length hi]; exact d.lo, by rw [rot_length hi]; exact d.hi⟩
theorem days_turn {l y : List Str} (d : Days l) (h : y ∈ turns l (per l)) : Days y := by
  obtain ⟨i, hi, e⟩ := (mem_turns (per_least d.lo) d.lo).mp h
  rw [e]; exact days_rot d hi
theorem form_turn {l y : List Str} (d : Days l) (h : y ∈ turns l (per l)) : formL y = formL l := ((form_iff d (days_turn d h)).mpr h).symm
/-- one round, both ways -/
theorem turn_comm {x y : List Str} (dx : Days x) (dy : Days y) : x ∈ turns y (per y) ↔ y ∈ turns x (per x) := by
  rw [← form_iff dx dy, ← form_iff dy dx]
  exact ⟨Eq.symm, Eq.symm⟩
theorem turns_length (l : List Str) : (turns l (per l)).length = per l := by
  unfold turns
  rw [List.length_map, List.length_range]
theorem per_mul {l : List Str} (d : Days l) : per l * (l.length / per l) = l.length := Nat.mul_div_cancel' (per_least d.lo).1.2.1
end Law

set_option linter.all false
set_option maxRecDepth 100000
set_option maxHeartbeats 4000000
set_option autoImplicit false
/-! R20: k21: what is told and what is due. -/
namespace Law
open PySem (Str PyData)
open RA Rot
variable {W : Nat}
/-- what both lists come to -/
def toldD (l : List Str) : D := .vl [TS (formL l), .tup [TS (l.take (per l)), .int ((l.length / per l : Nat) : Int)], .tup ((turns l (per l)).map TS), TS l.reverse, TS (formL l), .bl true]
def toldP (l : List Str) : PyData := .list [PS (formL l), .tuple [PS (l.take (per l)), .int ((l.length / per l : Nat) : Int)], .tuple ((turns l (per l)).map PS), PS l.reverse, PS (formL l), .bool true]
theorem toldD_pd (l : List Str) (S : Store) : pd S (toldD l) = some (toldP l) := by
  have e : ∀ r, toPs r ((turns l (per l)).map TS) = some ((turns l (per l)).map PS) := fun r => by
    induction turns l (per l) with
    | nil => rfl
    | cons x t ih =>
      show (toP r (TS x)).bind (fun a => (toPs r (t.map TS)).map fun xs => a :: xs) = _
      rw [toP_TS, ih]; rfl
  unfold toldD toldP pd
  simp only [toP, toPs, toP_TS, e, Option.map_some, Option.bind_some]
theorem toldP_nice {l : List Str} (d : Days l) (h : l.length ≤ 20) : Nice (toldP l) 60 100000 := by
  have f := PS_nice (k := 20) (days_turn d (formL_mem d)).nm (by
    obtain ⟨i, hi, e⟩ := (mem_turns (per_least d.lo) d.lo).mp (formL_mem d)
    rw [e, rot_length hi]; exact h)
  have t := PS_nice (l := l.take (per l)) (k := 20) (fun x hx => d.nm x (List.mem_of_mem_take hx)) (by rw [List.length_take]; omega)
  have r := PS_nice (l := l.reverse) (k := 20) (fun x hx => d.nm x (List.mem_reverse.mp hx)) (by rw [List.length_reverse]; exact h)
  obtain ⟨a, b, c, e⟩ := rows_nice (k := 20) (turns l (per l)) fun y hy => ⟨(days_turn d hy).nm, by
    obtain ⟨i, hi, e⟩ := (mem_turns (per_least d.lo) d.lo).mp hy
    rw [e, rot_length hi]; exact h⟩
  have tl := turns_length l
  have pl := per_le d
  have q : l.length / per l ≤ 20 := Nat.le_trans (Nat.div_le_self _ _) h
  have q1 : ((l.length / per l : Nat) : Int).natAbs < 10 ^ 12 := by
    rw [Int.natAbs_natCast]
    exact Nat.lt_of_le_of_lt q (by decide)
  have q2 : ((l.length / per l : Nat) : Int).natAbs.log2 ≤ 200 := log_lt (Int.natCast_nonneg _) (Int.lt_of_le_of_lt (Int.ofNat_le.mpr q) (by decide))
  have ti := PyData.shown_int_le q1
  obtain ⟨f1, f2, f3, f4⟩ := f
  obtain ⟨t1, t2, t3, t4⟩ := t
  obtain ⟨r1, r2, r3, r4⟩ := r
  have w5 : (5 * 20 + 1) * (turns l (per l)).length ≤ 101 * 20 := by rw [tl]; exact Nat.mul_le_mul_left _ (Nat.le_trans pl h)
  refine ⟨?_, ?_, ?_, ?_⟩
  · simp only [toldP, PyData.showable, PyData.showableAll, f1, t1, r1, a, Bool.and_true, Bool.true_and, decide_eq_true_eq]; omega
  · simp only [toldP, PyData.leavesShort, PyData.leavesShortAll, f2, t2, r2, b, Bool.and_true, Bool.true_and, decide_eq_true_eq]; exact ti
  · simp only [toldP, PyData.depth, PyData.depthAll]; omega
  · have iw : PyData.weight (.int ((l.length / per l : Nat) : Int)) ≤ 201 := by
      simp only [PyData.weight]; split <;> omega
    simp only [PyData.weight] at iw
    simp only [toldP, PyData.weight, PyData.weightAll]; omega
end Law

set_option linter.all false
set_option maxRecDepth 100000
set_option maxHeartbeats 4000000
set_option autoImplicit false
/-! R21: k21: the round of the days, three times. -/
namespace Law
open PySem (Str PyData)
open RA Rot
open PySem.W (listLt)
theorem rot_reps {l : List Str} (h0 : 0 < l.length) {k i : Nat} (hk : 0 < k) (hi : i ≤ k * l.length) : rot i (reps k l) = reps k (rot (i % l.length) l) := by
  have jl : i % l.length ≤ l.length := Nat.le_of_lt (Nat.mod_lt _ h0)
  have hl : (reps k l).length = k * l.length := reps_length k l
  have hr : (rot (i % l.length) l).length = l.length := rot_length jl
  refine List.ext_getElem? fun t => ?_
  by_cases ht : t < k * l.length
  · rw [rot_get (by rw [hl]; exact hi) (by rw [hl]; exact ht), reps_get (by rw [hr]; exact h0) k t (by rw [hr]; exact ht), hr, rot_get jl (Nat.mod_lt _ h0)]
    unfold F
    rw [hl, reps_get h0 k _ (Nat.mod_lt _ (Nat.mul_pos hk h0)), Nat.mod_mod_of_dvd _ (Nat.dvd_mul_left _ _), Nat.add_mod]
  · rw [List.getElem?_eq_none (by rw [rot_length (by rw [hl]; exact hi), hl]; omega), List.getElem?_eq_none (by rw [reps_length, hr]; omega)]
theorem lt_more : ∀ {a b : List Str} (u v : List Str), a.length = b.length → listLt a b = true → listLt (a ++ u) (b ++ v) = true
  | [], [], _, _, _, h => by cases h
  | x :: a, y :: b, u, v, hl, h => by
    have ih := lt_more (a := a) (b := b) u v (by simpa using hl)
    unfold listLt at h
    show listLt (x :: (a ++ u)) (y :: (b ++ v)) = true
    unfold listLt
    by_cases e : x = y
    · rw [if_pos e] at h ⊢
      exact ih h
    · rw [if_neg e] at h ⊢
      exact h
theorem formL_le {l y : List Str} (d : Days l) (h : y ∈ turns l (per l)) : listLt y (formL l) = false := by
  rw [turns_cons d] at h
  exact least_le h
theorem days_reps {l : List Str} {k : Nat} (d : Days l) (hk : 0 < k) (h : k * l.length ≤ 400) : Days (reps k l) := ⟨fun x hx => by
  unfold reps at hx
  obtain ⟨r, hr, hx'⟩ := List.mem_flatten.mp hx
  rw [List.eq_of_mem_replicate hr] at hx'
  exact d.nm x hx', by rw [reps_length]; exact Nat.mul_pos hk d.lo, by rw [reps_length]; exact h⟩
theorem turn_length {l y : List Str} (d : Days l) (h : y ∈ turns l (per l)) : y.length = l.length := by
  obtain ⟨i, hi, e⟩ := (mem_turns (per_least d.lo) d.lo).mp h
  rw [e, rot_length hi]
theorem reps_succ {k : Nat} (l : List Str) : reps (k + 1) l = l ++ reps k l := by
  unfold reps
  rw [List.replicate_succ, List.flatten_cons]
theorem form_reps {l : List Str} {k : Nat} (d : Days l) (hk : 0 < k) (h : k * l.length ≤ 400) : formL (reps k l) = reps k (formL l) := by
  have dr := days_reps d hk h
  have fm := formL_mem d
  have all : ∀ y, y ∈ turns (reps k l) (per (reps k l)) → ∃ z, z ∈ turns l (per l) ∧ y = reps k z := fun y hy => by
    obtain ⟨i, hi, e⟩ := (mem_turns (per_least dr.lo) dr.lo).mp hy
    rw [reps_length] at hi
    refine ⟨rot (i % l.length) l, (mem_turns (per_least d.lo) d.lo).mpr ⟨_, Nat.le_of_lt (Nat.mod_lt _ d.lo), rfl⟩, ?_⟩
    rw [e, rot_reps d.lo hk hi]
  have is_ : reps k (formL l) ∈ turns (reps k l) (per (reps k l)) := by
    obtain ⟨i, hi, e⟩ := (mem_turns (per_least d.lo) d.lo).mp fm
    refine (mem_turns (per_least dr.lo) dr.lo).mpr ⟨i % l.length, ?_, ?_⟩
    · rw [reps_length]
      have := Nat.mod_lt i d.lo
      have := Nat.le_mul_of_pos_left l.length hk
      omega
    · rw [rot_reps d.lo hk (by
        have := Nat.mod_lt i d.lo
        have := Nat.le_mul_of_pos_left l.length hk
        omega), Nat.mod_mod, e]
      have q : rot i l = rot (i % l.length) l := by
        rw [rot_ext hi (Nat.le_of_lt (Nat.mod_lt _ d.lo))]
        intro t
        unfold F
        rw [Nat.mod_add_mod]
      rw [q]
  have le1 := formL_le dr is_
  obtain ⟨z, hz, e⟩ := all _ (formL_mem dr)
  have le2 := formL_le d hz
  have le3 : listLt (formL (reps k l)) (reps k (formL l)) = false := by
    rw [e]
    obtain ⟨k', rfl⟩ : ∃ k', k = k' + 1 := ⟨k - 1, by omega⟩
    by_cases hzf : z = formL l
    · rw [hzf]; exact lt_self _
    · have lt : listLt (formL l) z = true := by
        cases q : listLt (formL l) z with
        | true => rfl
        | false => exact absurd (lt_total le2 q) hzf
      have m := lt_more (reps k' (formL l)) (reps k' z) (by rw [turn_length d fm, turn_length d hz]) lt
      rw [← reps_succ, ← reps_succ] at m
      cases q : listLt (reps (k' + 1) z) (reps (k' + 1) (formL l)) with
      | false => rfl
      | true =>
        have := lt_trans' m q
        rw [lt_self] at this
        exact absurd this (by decide)
  exact lt_total le3 le1
end Law

set_option linter.all false
set_option maxRecDepth 100000
set_option maxHeartbeats 4000000
set_option autoImplicit false
/-! R22: k21: one drawing, what is told and due. -/
namespace Law
open PySem (Str PyData)
open RA Rot
variable {W : Nat}
theorem eqd_str (S : Store) (a b : Str) : eqd S (.str a) (.str b) = some (decide (a = b)) := by
  show (if min (PyData.str a).depth (PyData.str b).depth ≤ 60 then some ((PyData.str a).eqv (PyData.str b)) else none) = _
  rw [if_pos (by simp only [PyData.depth]; decide)]
  simp only [PyData.eqv]
  by_cases h : a = b <;> simp [h]
theorem rev_TS (S : Store) (l : List Str) : rev S (TS l) = some (TS l.reverse) := by
  show some (D.tup (l.map D.str).reverse) = some (D.tup (l.reverse.map D.str))
  rw [List.map_reverse]
theorem asQ_ref {S : Store} {b : Nat} {ds : List D} (h : S[b]? = some (.lst ds)) : asQ S (.ref b) = some ds := by
  show (match S[b]? with | some (.lst ds) => some ds | none => none) = _
  rw [h]
theorem len_ref {S : Store} {b : Nat} {ds : List D} (h : S[b]? = some (.lst ds)) : lenD S (.ref b) = some (.int (ds.length : Int)) := by
  show (asQ S (.ref b)).map (fun ds : List D => D.int (ds.length : Int)) = _
  rw [asQ_ref h]; rfl
theorem bmin_ref {S : Store} {b : Nat} {ds : List D} (h : S[b]? = some (.lst ds)) : bcall S .min [.ref b] = best S false ds := by
  show (asQ S (.ref b)).bind (best S false) = _
  rw [asQ_ref h]; rfl
theorem drawn_ev {C : Ora} {τ : Sig} {S : Store} {n k : Nat} (fe : ∀ i ds S, C.fn i ds S = callF TC GA W k i ds S) : RA.evalE C (.call 17 [(.var 0)]) (some (.ref n) :: τ) S = callF TC GA W k 17 [.ref n] S := by
  rw [ev_call1]
  show C.fn 17 [.ref n] S = _
  rw [fe]
theorem mul_2 {S : Store} (b : Bool) : binop S .mul (.vl [.bl b]) (.int 2) = some (.vl [.bl b, .bl b]) := rfl
theorem bools_repr {S : Store} (a b : Bool) : ∃ s, reprD S (.vl [.bl a, .bl b]) = some (.str s) := by
  refine ⟨_, repr_nice (S := S) (x := .vl [.bl a, .bl b]) (p := .list [.bool a, .bool b]) (d := 60) (w := 100000) rfl ⟨?_, ?_, ?_, ?_⟩ (by decide) (by decide)⟩
  · simp only [PyData.showable, PyData.showableAll, Bool.and_self]
  · cases a <;> cases b <;> decide +kernel
  · cases a <;> cases b <;> decide +kernel
  · cases a <;> cases b <;> decide +kernel
end Law

set_option linter.all false
set_option maxRecDepth 100000
set_option maxHeartbeats 4000000
set_option autoImplicit false
/-! R23: k21: one drawing. -/
namespace Law
open PySem (Str PyData)
open RA Rot
variable {W : Nat}
/-- the days that are asked -/
theorem law_some {l : List Str} {q : Nat} (d : Days l) (h14 : l.length ≤ 14) (hq : q < l.length) : Days (l ++ l.take 1) ∧ Days l.reverse ∧ Days (l.take q ++ [("q" : Str)] ++ l.drop (q + 1)) ∧ Days (reps 2 l) := by
  have d1 := d.lo
  have qn : ("q" : Str) ∈ OKN := by simp [OKN]
  refine ⟨⟨fun x hx => ?_, ?_, ?_⟩, ⟨fun x hx => d.nm x (List.mem_reverse.mp hx), by rw [List.length_reverse]; exact d1, by rw [List.length_reverse]; omega⟩, ⟨fun x hx => ?_, ?_, ?_⟩, days_reps d (by decide) (by omega)⟩
  · rcases List.mem_append.mp hx with h | h
    · exact d.nm x h
    · exact d.nm x (List.mem_of_mem_take h)
  · rw [List.length_append]; omega
  · rw [List.length_append, List.length_take]; omega
  · rcases List.mem_append.mp hx with h | h
    · rcases List.mem_append.mp h with h | h
      · exact d.nm x (List.mem_of_mem_take h)
      · rw [List.mem_singleton.mp h]; exact qn
    · exact d.nm x (List.mem_of_mem_drop h)
  · simp only [List.length_append, List.length_take, List.length_drop, List.length_singleton]; omega
  · simp only [List.length_append, List.length_take, List.length_drop, List.length_singleton]; omega
/-- one of some days: the loop's turn -/
def Bone : List RA.St := [(.ite (.cmp .ne (.bcall .repr [(.lst [(.call 7 [(.var 1), (.var 8)]), (.call 7 [(.var 8), (.var 1)])])]) (.bcall .repr [(.bin .mul (.lst [(.cmp .isin (.var 8) (.var 3))]) (.con (.int 2)))])) [(.ret (.con (.bl false)))] [])]
theorem step_one {C : Ora} {k p : Nat} {l x : List Str} {S : Store} {a b c e f g : Option D} (fe : ∀ i ds S, C.fn i ds S = callF TC GA W (k + 4) i ds S) (d : Days l) (dx : Days x) (hp : S[p]? = some (.lst ((turns l (per l)).map TS))) :
    RA.execs TC C Bone [a, some (TS l), b, some (.ref p), c, e, f, g, some (TS x)] S = .ok (.nx [a, some (TS l), b, some (.ref p), c, e, f, g, some (TS x)]) S := by
  have e1 : decide (formL l = formL x) = decide (x ∈ turns l (per l)) := by rw [decide_eq_decide]; exact form_iff d dx
  have e2 : decide (formL x = formL l) = decide (x ∈ turns l (per l)) := by
    rw [decide_eq_decide]; exact ⟨fun h => (form_iff d dx).mp h.symm, fun h => ((form_iff d dx).mpr h).symm⟩
  obtain ⟨s, hs⟩ := bools_repr (S := S) (decide (x ∈ turns l (per l))) (decide (x ∈ turns l (per l)))
  have i1 := isIn_TS (r := x) (asQ_ref hp)
  simp only [↓ev_con, ↓ev_var, ↓ev_and, ↓ev_or, ↓ev_not, ↓ev_neg, ↓ev_bin, ↓ev_cmp, ↓ev_chain, ↓ev_ife, ↓ev_sub, ↓ev_slice, ↓ev_rev, ↓ev_ofInt, ↓ev_tup, ↓ev_lst, ↓ev_new, ↓ev_call, ↓ev_callv, ↓ev_bcall, ↓es_nil, ↓es_cons, ↓xs_nil, ↓xs_cons, ↓st_ret, ↓st_asg, ↓sx_asgT, ↓sx_par, ↓st_exp, ↓st_ite, ↓sx_seti, ↓sx_pass, rk, lk, fin_nx, fin_ret, fin_exc, List.getElem?_cons_zero, List.getElem?_cons_succ, List.set_cons_zero, List.set_cons_succ, truth_bl, cm_eq, cm_ne, cm_lt, cm_le, cm_gt, cm_ge, cm_is, cm_isn, cm_in, cm_nin, bc_len, bc_tuple, bc_list, bc_int, bc_repr, bc_isinst, Option.map_some, Option.bind_some, ↓reduceIte, Bool.false_eq_true, Bool.not_true, Bool.not_false, Bool.true_eq_false, Bone, fe, are_one_round d dx, are_one_round dx d, e1, e2, hs, i1, mul_2, eqd_str, decide_true]
end Law

set_option linter.all false
set_option maxRecDepth 100000
set_option maxHeartbeats 4000000
set_option autoImplicit false
/-! R24: k21: one drawing, all of it. -/
namespace Law
open PySem (Str PyData)
open RA Rot
variable {W : Nat}
theorem sub_0 (S : Store) (a b : D) : RA.sub S (.tup [a, b]) (.int 0) = some a := rfl
theorem sub_1 (S : Store) (a b : D) : RA.sub S (.tup [a, b]) (.int 1) = some b := rfl
theorem tupq : D.tup [.str "q"] = TS [("q" : Str)] := rfl
theorem add_1 (S : Store) (q : Nat) : binop S .add (.int (q : Int)) (.int 1) = some (.int ((q + 1 : Nat) : Int)) := rfl
theorem asQ_end {S : Store} {b : Nat} {ds : List D} (h : S[b]? = some (.lst ds)) : (asQ S (.ref b)).map D.tup = some (.tup ds) := by rw [asQ_ref h]; rfl
theorem old_app {n : Nat} {S : Store} {o : SO} : Old n S (S ++ [o]) := ⟨by rw [List.length_append]; omega, fun i h _ => List.getElem?_append_left h⟩
theorem dice_app {n B : Nat} {S : Store} {o : SO} (hn : n < S.length) (d : Dice S n B) : Dice (S ++ [o]) n B := by
  obtain ⟨a, b, c, h1, h2⟩ := d
  exact ⟨a, b, c, by rw [List.getElem?_append_left hn]; exact h1, h2⟩
theorem is_TS {y : D} {ls : List (List Str)} (h : y ∈ ls.map TS) : ∃ x ∈ ls, y = TS x := by
  obtain ⟨x, hx, e⟩ := List.mem_map.mp h
  exact ⟨x, hx, e.symm⟩
theorem law_right {k n B : Nat} {S0 : Store} (hW : 200 ≤ W) (hn : n < S0.length) (hB : B ≤ 700000) (dc : Dice S0 n B) :
    ∃ S, callF TC GA W (k + 7) 18 [.ref n] S0 = .ok (.bl true) S ∧ Dice S n (B + 100) ∧ Old n S0 S := by
  rw [callF_eq (fn := F18) rfl rfl]
  have s1 : RA.start 9 [.ref n] = [some (.ref n), none, none, none, none, none, none, none, none] := rfl
  have hI : F18.body = [(.par [1, 2] [(.call 17 [(.var 0)]), (.call 17 [(.var 0)])]), (.asg 3 (.call 15 [(.var 1)])),
    (.asg 4 (.lst [(.call 6 [(.var 1)]), (.call 8 [(.var 1)]), (.call 10 [(.var 1)]), (.call 9 [(.var 1)]), (.call 6 [(.call 13 [(.var 0), (.var 3)])]), (.call 1 [(.var 1)])])),
    (.asg 5 (.lst [(.bcall .min [(.var 3)]), (.call 16 [(.var 1)]), (.bcall .tuple [(.var 3)]), (.rev (.var 1)), (.bcall .min [(.var 3)]), (.con (.bl true))])),
    (.ite (.or (.cmp .ne (.bcall .repr [(.var 4)]) (.bcall .repr [(.var 5)])) (.or (.cmp .ne (.bcall .len [(.var 3)]) (.bcall .len [(.sub (.call 16 [(.var 1)]) (.con (.int 0)))])) (.cmp .ne (.bin .mul (.bcall .len [(.var 3)]) (.sub (.call 16 [(.var 1)]) (.con (.int 1)))) (.bcall .len [(.var 1)])))) [(.ret (.con (.bl false)))] []),
    (.asg 6 (.call 12 [(.var 0), (.bcall .len [(.var 1)])])),
    (.asg 7 (.lst [(.var 2), (.bin .add (.var 1) (.slice (.var 1) (.con .non) (.ofInt (.con (.int 1))))), (.rev (.var 1)), (.bin .add (.bin .add (.slice (.var 1) (.con .non) (.ofInt (.var 6))) (.tup [(.con (.str "q"))])) (.slice (.var 1) (.ofInt (.bin .add (.var 6) (.con (.int 1)))) (.con .non))), (.call 13 [(.var 0), (.var 3)]), (.bin .mul (.var 1) (.con (.int 2)))])),
    (.loop false [8] .val [(.var 7)] Bone),
    (.ret (.cmp .eq (.bcall .repr [(.call 6 [(.bin .mul (.var 1) (.con (.int 3)))])]) (.bcall .repr [(.bin .mul (.bcall .min [(.var 3)]) (.con (.int 3)))])))] := rfl
  have hns : F18.ns = 9 := rfl
  have fe : ∀ i ds S, (ora1 TC GA (callF TC GA W (k + 6)) W).fn i ds S = callF TC GA W (k + 6) i ds S := fun _ _ _ => rfl
  rw [hI, hns, s1]
  generalize ora1 TC GA (callF TC GA W (k + 6)) W = C at fe
  -- the days
  obtain ⟨l, S1, e1, okl, lo1, hi1, d1, o1⟩ := law_drawn (k := k + 3) hW hn (by omega) dc
  obtain ⟨o, S2, e2, oko, lo2, hi2, d2, o2⟩ := law_drawn (k := k + 3) hW (Nat.lt_of_lt_of_le hn o1.1) (by omega) d1
  have Dl : Days l := ⟨okl, lo1, by omega⟩
  have Do : Days o := ⟨oko, lo2, by omega⟩
  have n2 : n < S2.length := Nat.lt_of_lt_of_le hn (o1.trans o2).1
  have st1 : RA.execS TC C (.par [1, 2] [(.call 17 [(.var 0)]), (.call 17 [(.var 0)])]) [some (.ref n), none, none, none, none, none, none, none, none] S0 = .ok (.nx [some (.ref n), some (TS l), some (TS o), none, none, none, none, none, none]) S2 := by
    simp only [↓ev_con, ↓ev_var, ↓ev_and, ↓ev_or, ↓ev_not, ↓ev_neg, ↓ev_bin, ↓ev_cmp, ↓ev_chain, ↓ev_ife, ↓ev_sub, ↓ev_slice, ↓ev_rev, ↓ev_ofInt, ↓ev_tup, ↓ev_lst, ↓ev_new, ↓ev_call, ↓ev_callv, ↓ev_bcall, ↓es_nil, ↓es_cons, ↓xs_nil, ↓xs_cons, ↓st_ret, ↓st_asg, ↓sx_asgT, ↓sx_par, ↓st_exp, ↓st_ite, ↓sx_seti, ↓sx_pass, rk, lk, fin_nx, fin_ret, fin_exc, List.getElem?_cons_zero, List.getElem?_cons_succ, List.set_cons_zero, List.set_cons_succ, truth_bl, cm_eq, cm_ne, cm_lt, cm_le, cm_gt, cm_ge, cm_is, cm_isn, cm_in, cm_nin, bc_len, bc_tuple, bc_list, bc_int, bc_repr, bc_isinst, Option.map_some, Option.bind_some, ↓reduceIte, Bool.false_eq_true, Bool.not_true, Bool.not_false, Bool.true_eq_false, fe, e1, e2, setAll]
  -- its turns
  have e3 := law_turns Dl (W := W) (k + 5) S2
  generalize hS3 : S2 ++ [SO.lst ((turns l (per l)).map TS)] = S3 at e3
  have hp3 : S3[S2.length]? = some (.lst ((turns l (per l)).map TS)) := by rw [← hS3]; exact at_end
  have d3 : Dice S3 n (B + 80) := by rw [← hS3]; exact dice_app n2 (Dice.more d2 (by omega))
  have o3 : Old n S2 S3 := by rw [← hS3]; exact old_app
  generalize hp : S2.length = p at e3 hp3
  have pn : p ≠ n := by omega
  -- a pick of them
  have tn : (turns l (per l)).map TS ≠ [] := by
    rw [turns_cons Dl]; exact fun z => nomatch z
  have tl : ((turns l (per l)).map TS).length ≤ 16777216 := by
    rw [List.length_map, turns_length]
    have := per_le Dl
    omega
  obtain ⟨y', S4, e4, hy, d4, s4⟩ := pick (T := TC) (Γ := GA) (W := W) (k := k + 4) (i := 13) (r := 12) (x := .ref p) rfl rfl d3 (by omega) (asQ_ref hp3) (fun z => pn (by cases z; rfl)) (fun s z => nomatch z) tn tl
  obtain ⟨y, hyt, rfl⟩ := is_TS hy
  have Dy := days_turn Dl hyt
  have fy := form_turn Dl hyt
  have hp4 : S4[p]? = some (.lst ((turns l (per l)).map TS)) := by rw [s4.2 p pn]; exact hp3
  have st2 : RA.execS TC C (.asg 3 (.call 15 [(.var 1)])) [some (.ref n), some (TS l), some (TS o), none, none, none, none, none, none] S2 = .ok (.nx [some (.ref n), some (TS l), some (TS o), some (.ref p), none, none, none, none, none]) S3 := by
    simp only [↓ev_con, ↓ev_var, ↓ev_and, ↓ev_or, ↓ev_not, ↓ev_neg, ↓ev_bin, ↓ev_cmp, ↓ev_chain, ↓ev_ife, ↓ev_sub, ↓ev_slice, ↓ev_rev, ↓ev_ofInt, ↓ev_tup, ↓ev_lst, ↓ev_new, ↓ev_call, ↓ev_callv, ↓ev_bcall, ↓es_nil, ↓es_cons, ↓xs_nil, ↓xs_cons, ↓st_ret, ↓st_asg, ↓sx_asgT, ↓sx_par, ↓st_exp, ↓st_ite, ↓sx_seti, ↓sx_pass, rk, lk, fin_nx, fin_ret, fin_exc, List.getElem?_cons_zero, List.getElem?_cons_succ, List.set_cons_zero, List.set_cons_succ, truth_bl, cm_eq, cm_ne, cm_lt, cm_le, cm_gt, cm_ge, cm_is, cm_isn, cm_in, cm_nin, bc_len, bc_tuple, bc_list, bc_int, bc_repr, bc_isinst, Option.map_some, Option.bind_some, ↓reduceIte, Bool.false_eq_true, Bool.not_true, Bool.not_false, Bool.true_eq_false, fe, e3]
  have st3 : RA.execS TC C (.asg 4 (.lst [(.call 6 [(.var 1)]), (.call 8 [(.var 1)]), (.call 10 [(.var 1)]), (.call 9 [(.var 1)]), (.call 6 [(.call 13 [(.var 0), (.var 3)])]), (.call 1 [(.var 1)])])) [some (.ref n), some (TS l), some (TS o), some (.ref p), none, none, none, none, none] S3 = .ok (.nx [some (.ref n), some (TS l), some (TS o), some (.ref p), some (toldD l), none, none, none, none]) S4 := by
    simp only [↓ev_con, ↓ev_var, ↓ev_and, ↓ev_or, ↓ev_not, ↓ev_neg, ↓ev_bin, ↓ev_cmp, ↓ev_chain, ↓ev_ife, ↓ev_sub, ↓ev_slice, ↓ev_rev, ↓ev_ofInt, ↓ev_tup, ↓ev_lst, ↓ev_new, ↓ev_call, ↓ev_callv, ↓ev_bcall, ↓es_nil, ↓es_cons, ↓xs_nil, ↓xs_cons, ↓st_ret, ↓st_asg, ↓sx_asgT, ↓sx_par, ↓st_exp, ↓st_ite, ↓sx_seti, ↓sx_pass, rk, lk, fin_nx, fin_ret, fin_exc, List.getElem?_cons_zero, List.getElem?_cons_succ, List.set_cons_zero, List.set_cons_succ, truth_bl, cm_eq, cm_ne, cm_lt, cm_le, cm_gt, cm_ge, cm_is, cm_isn, cm_in, cm_nin, bc_len, bc_tuple, bc_list, bc_int, bc_repr, bc_isinst, Option.map_some, Option.bind_some, ↓reduceIte, Bool.false_eq_true, Bool.not_true, Bool.not_false, Bool.true_eq_false, fe, form Dl, root Dl, rotations Dl, turned_days Dl, e4, form Dy, fy, is_days Dl, toldD]
  have st4 : RA.execS TC C (.asg 5 (.lst [(.bcall .min [(.var 3)]), (.call 16 [(.var 1)]), (.bcall .tuple [(.var 3)]), (.rev (.var 1)), (.bcall .min [(.var 3)]), (.con (.bl true))])) [some (.ref n), some (TS l), some (TS o), some (.ref p), some (toldD l), none, none, none, none] S4 = .ok (.nx [some (.ref n), some (TS l), some (TS o), some (.ref p), some (toldD l), some (toldD l), none, none, none]) S4 := by
    simp only [↓ev_con, ↓ev_var, ↓ev_and, ↓ev_or, ↓ev_not, ↓ev_neg, ↓ev_bin, ↓ev_cmp, ↓ev_chain, ↓ev_ife, ↓ev_sub, ↓ev_slice, ↓ev_rev, ↓ev_ofInt, ↓ev_tup, ↓ev_lst, ↓ev_new, ↓ev_call, ↓ev_callv, ↓ev_bcall, ↓es_nil, ↓es_cons, ↓xs_nil, ↓xs_cons, ↓st_ret, ↓st_asg, ↓sx_asgT, ↓sx_par, ↓st_exp, ↓st_ite, ↓sx_seti, ↓sx_pass, rk, lk, fin_nx, fin_ret, fin_exc, List.getElem?_cons_zero, List.getElem?_cons_succ, List.set_cons_zero, List.set_cons_succ, truth_bl, cm_eq, cm_ne, cm_lt, cm_le, cm_gt, cm_ge, cm_is, cm_isn, cm_in, cm_nin, bc_len, bc_tuple, bc_list, bc_int, bc_repr, bc_isinst, Option.map_some, Option.bind_some, ↓reduceIte, Bool.false_eq_true, Bool.not_true, Bool.not_false, Bool.true_eq_false, fe, bmin_ref hp4, best_turns Dl, law_root Dl, asQ_end hp4, rev_TS, toldD]
  -- what is told and due
  have rp := repr_nice (toldD_pd l S4) (toldP_nice Dl (by omega)) (by decide) (by decide)
  have f1 : lenD S4 (.ref p) = some (.int (per l : Int)) := by rw [len_ref hp4, List.length_map, turns_length]
  have f2 : lenD S4 (TS (l.take (per l))) = some (.int (per l : Int)) := by
    rw [len_TS, List.length_take, Nat.min_eq_left (per_le Dl)]
  have pl := per_le Dl
  have f5 : binop S4 .mul (.int (per l : Int)) (.int ((l.length / per l : Nat) : Int)) = some (.int (l.length : Int)) := by
    have a1 := log_lt (x := ((per l : Nat) : Int)) (n := 30) (Int.natCast_nonneg _) (Int.lt_of_le_of_lt (Int.ofNat_le.mpr (show per l ≤ 1000 by omega)) (by decide))
    have a2 := log_lt (x := ((l.length / per l : Nat) : Int)) (n := 30) (Int.natCast_nonneg _) (Int.lt_of_le_of_lt (Int.ofNat_le.mpr (show l.length / per l ≤ 1000 from Nat.le_trans (Nat.div_le_self _ _) (by omega))) (by decide))
    show (if (per l : Int).natAbs.log2 + ((l.length / per l : Nat) : Int).natAbs.log2 < 1000000 then some (D.int ((per l : Int) * ((l.length / per l : Nat) : Int))) else none) = _
    rw [if_pos (by omega), ← Int.natCast_mul, per_mul Dl]
  have st5 : RA.execS TC C (.ite (.or (.cmp .ne (.bcall .repr [(.var 4)]) (.bcall .repr [(.var 5)])) (.or (.cmp .ne (.bcall .len [(.var 3)]) (.bcall .len [(.sub (.call 16 [(.var 1)]) (.con (.int 0)))])) (.cmp .ne (.bin .mul (.bcall .len [(.var 3)]) (.sub (.call 16 [(.var 1)]) (.con (.int 1)))) (.bcall .len [(.var 1)])))) [(.ret (.con (.bl false)))] []) [some (.ref n), some (TS l), some (TS o), some (.ref p), some (toldD l), some (toldD l), none, none, none] S4 = .ok (.nx [some (.ref n), some (TS l), some (TS o), some (.ref p), some (toldD l), some (toldD l), none, none, none]) S4 := by
    simp only [↓ev_con, ↓ev_var, ↓ev_and, ↓ev_or, ↓ev_not, ↓ev_neg, ↓ev_bin, ↓ev_cmp, ↓ev_chain, ↓ev_ife, ↓ev_sub, ↓ev_slice, ↓ev_rev, ↓ev_ofInt, ↓ev_tup, ↓ev_lst, ↓ev_new, ↓ev_call, ↓ev_callv, ↓ev_bcall, ↓es_nil, ↓es_cons, ↓xs_nil, ↓xs_cons, ↓st_ret, ↓st_asg, ↓sx_asgT, ↓sx_par, ↓st_exp, ↓st_ite, ↓sx_seti, ↓sx_pass, rk, lk, fin_nx, fin_ret, fin_exc, List.getElem?_cons_zero, List.getElem?_cons_succ, List.set_cons_zero, List.set_cons_succ, truth_bl, cm_eq, cm_ne, cm_lt, cm_le, cm_gt, cm_ge, cm_is, cm_isn, cm_in, cm_nin, bc_len, bc_tuple, bc_list, bc_int, bc_repr, bc_isinst, Option.map_some, Option.bind_some, ↓reduceIte, Bool.false_eq_true, Bool.not_true, Bool.not_false, Bool.true_eq_false, fe, rp, eqd_str, decide_true, f1, law_root Dl, sub_0, sub_1, f2, eqd_int, f5, len_TS S4 l]
  -- a place
  obtain ⟨q', S5, e5, q0, q1, d5, s5⟩ := roll (T := TC) (Γ := GA) (W := W) (k := k + 5) (i := 12) (t := (l.length : Int)) rfl d4 (by omega) (by omega) (log_small (by omega))
  obtain ⟨q, rfl⟩ : ∃ q : Nat, q' = (q : Int) := ⟨q'.toNat, (Int.toNat_of_nonneg q0).symm⟩
  have hq : q < l.length := by omega
  have hp5 : S5[p]? = some (.lst ((turns l (per l)).map TS)) := by rw [s5.2 p pn]; exact hp4
  have st6 : RA.execS TC C (.asg 6 (.call 12 [(.var 0), (.bcall .len [(.var 1)])])) [some (.ref n), some (TS l), some (TS o), some (.ref p), some (toldD l), some (toldD l), none, none, none] S4 = .ok (.nx [some (.ref n), some (TS l), some (TS o), some (.ref p), some (toldD l), some (toldD l), some (.int (q : Int)), none, none]) S5 := by
    simp only [↓ev_con, ↓ev_var, ↓ev_and, ↓ev_or, ↓ev_not, ↓ev_neg, ↓ev_bin, ↓ev_cmp, ↓ev_chain, ↓ev_ife, ↓ev_sub, ↓ev_slice, ↓ev_rev, ↓ev_ofInt, ↓ev_tup, ↓ev_lst, ↓ev_new, ↓ev_call, ↓ev_callv, ↓ev_bcall, ↓es_nil, ↓es_cons, ↓xs_nil, ↓xs_cons, ↓st_ret, ↓st_asg, ↓sx_asgT, ↓sx_par, ↓st_exp, ↓st_ite, ↓sx_seti, ↓sx_pass, rk, lk, fin_nx, fin_ret, fin_exc, List.getElem?_cons_zero, List.getElem?_cons_succ, List.set_cons_zero, List.set_cons_succ, truth_bl, cm_eq, cm_ne, cm_lt, cm_le, cm_gt, cm_ge, cm_is, cm_isn, cm_in, cm_nin, bc_len, bc_tuple, bc_list, bc_int, bc_repr, bc_isinst, Option.map_some, Option.bind_some, ↓reduceIte, Bool.false_eq_true, Bool.not_true, Bool.not_false, Bool.true_eq_false, fe, len_TS, e5]
  -- another pick
  obtain ⟨z', S6, e6, hz, d6, s6⟩ := pick (T := TC) (Γ := GA) (W := W) (k := k + 4) (i := 13) (r := 12) (x := .ref p) rfl rfl d5 (by omega) (asQ_ref hp5) (fun z => pn (by cases z; rfl)) (fun s z => nomatch z) tn tl
  obtain ⟨z, hzt, rfl⟩ := is_TS hz
  have Dz := days_turn Dl hzt
  have hp6 : S6[p]? = some (.lst ((turns l (per l)).map TS)) := by rw [s6.2 p pn]; exact hp5
  obtain ⟨w1, w2, w3, w4⟩ := law_some Dl hi1 hq
  have g1 : ∀ S, slice S (TS l) .non (.int 1) = some (TS (l.take 1)) := fun S => slice_lo S l lo1
  have g2 : ∀ S, binop S .add (TS l) (TS (l.take 1)) = some (TS (l ++ l.take 1)) := fun S => add_TS S (by rw [List.length_take]; omega)
  have g3 : ∀ S, binop S .add (TS (l.take q)) (TS [("q" : Str)]) = some (TS (l.take q ++ [("q" : Str)])) := fun S => add_TS S (by rw [List.length_take, List.length_singleton]; omega)
  have g4 : ∀ S, binop S .add (TS (l.take q ++ [("q" : Str)])) (TS (l.drop (q + 1))) = some (TS (l.take q ++ [("q" : Str)] ++ l.drop (q + 1))) := fun S => add_TS S (by rw [List.length_append, List.length_take, List.length_singleton, List.length_drop]; omega)
  have g5 : ∀ S, binop S .mul (TS l) (.int 2) = some (TS (reps 2 l)) := fun S => mul_TS S (k := 2) (by decide) (by omega)
  have g6 : ∀ S, slice S (TS l) .non (.int (q : Int)) = some (TS (l.take q)) := fun S => slice_lo S l (by omega)
  have g7 : ∀ S, slice S (TS l) (.int ((q + 1 : Nat) : Int)) .non = some (TS (l.drop (q + 1))) := fun S => slice_hi S l (by omega)
  have st7 : RA.execS TC C (.asg 7 (.lst [(.var 2), (.bin .add (.var 1) (.slice (.var 1) (.con .non) (.ofInt (.con (.int 1))))), (.rev (.var 1)), (.bin .add (.bin .add (.slice (.var 1) (.con .non) (.ofInt (.var 6))) (.tup [(.con (.str "q"))])) (.slice (.var 1) (.ofInt (.bin .add (.var 6) (.con (.int 1)))) (.con .non))), (.call 13 [(.var 0), (.var 3)]), (.bin .mul (.var 1) (.con (.int 2)))])) [some (.ref n), some (TS l), some (TS o), some (.ref p), some (toldD l), some (toldD l), some (.int (q : Int)), none, none] S5 =
      .ok (.nx [some (.ref n), some (TS l), some (TS o), some (.ref p), some (toldD l), some (toldD l), some (.int (q : Int)), some (.vl ([o, l ++ l.take 1, l.reverse, l.take q ++ [("q" : Str)] ++ l.drop (q + 1), z, reps 2 l].map TS)), none]) S6 := by
    simp only [↓ev_con, ↓ev_var, ↓ev_and, ↓ev_or, ↓ev_not, ↓ev_neg, ↓ev_bin, ↓ev_cmp, ↓ev_chain, ↓ev_ife, ↓ev_sub, ↓ev_slice, ↓ev_rev, ↓ev_ofInt, ↓ev_tup, ↓ev_lst, ↓ev_new, ↓ev_call, ↓ev_callv, ↓ev_bcall, ↓es_nil, ↓es_cons, ↓xs_nil, ↓xs_cons, ↓st_ret, ↓st_asg, ↓sx_asgT, ↓sx_par, ↓st_exp, ↓st_ite, ↓sx_seti, ↓sx_pass, rk, lk, fin_nx, fin_ret, fin_exc, List.getElem?_cons_zero, List.getElem?_cons_succ, List.set_cons_zero, List.set_cons_succ, truth_bl, cm_eq, cm_ne, cm_lt, cm_le, cm_gt, cm_ge, cm_is, cm_isn, cm_in, cm_nin, bc_len, bc_tuple, bc_list, bc_int, bc_repr, bc_isinst, Option.map_some, Option.bind_some, ↓reduceIte, Bool.false_eq_true, Bool.not_true, Bool.not_false, Bool.true_eq_false, fe, g1, g2, rev_TS, g6, tupq, g3, add_1, g7, g4, e6, g5, List.map_cons, List.map_nil]
  -- each of them
  have all : ∀ x ∈ [o, l ++ l.take 1, l.reverse, l.take q ++ [("q" : Str)] ++ l.drop (q + 1), z, reps 2 l], Days x := by
    intro x hx
    simp only [List.mem_cons, List.not_mem_nil, or_false] at hx
    rcases hx with rfl | rfl | rfl | rfl | rfl | rfl <;> assumption
  generalize [o, l ++ l.take 1, l.reverse, l.take q ++ [("q" : Str)] ++ l.drop (q + 1), z, reps 2 l] = xs at st7 all
  have st8 : ∃ v, RA.execS TC C (.loop false [8] .val [(.var 7)] Bone) [some (.ref n), some (TS l), some (TS o), some (.ref p), some (toldD l), some (toldD l), some (.int (q : Int)), some (.vl (xs.map TS)), none] S6 =
      .ok (.nx [some (.ref n), some (TS l), some (TS o), some (.ref p), some (toldD l), some (toldD l), some (.int (q : Int)), some (.vl (xs.map TS)), v]) S6 := by
    have es : RA.evalEs C [(.var 7)] [some (.ref n), some (TS l), some (TS o), some (.ref p), some (toldD l), some (toldD l), some (.int (q : Int)), some (.vl (xs.map TS)), none] S6 = .ok [.vl (xs.map TS)] S6 := rfl
    rw [st_loop es (it := xs.map TS) (o := none) rfl]
    obtain ⟨σ', S', e, ⟨v, hv⟩, hS⟩ := forL_inv (step := turn TC C false [8] Bone) (g := fun S => still S (xs.map TS, none)) (fun _ σ S => (∃ v, σ = [some (.ref n), some (TS l), some (TS o), some (.ref p), some (toldD l), some (toldD l), some (.int (q : Int)), some (.vl (xs.map TS)), v]) ∧ S = S6)
      (xs.map TS) 0 _ S6 ⟨⟨none, rfl⟩, rfl⟩ (fun i d σ S hi ⟨⟨v, hv⟩, hS⟩ => ⟨rfl, by
        subst hv hS
        rw [List.getElem?_map] at hi
        obtain ⟨x, hx, rfl⟩ := Option.map_eq_some_iff.mp hi
        exact ⟨_, _, (turn_eq rfl).trans (step_one (k := k + 2) fe Dl (all x (List.mem_of_getElem? hx)) hp6), ⟨_, rfl⟩, rfl⟩⟩) (fun _ _ _ => rfl)
    subst hv hS
    exact ⟨v, e⟩
  obtain ⟨v, st8⟩ := st8
  -- the end
  have D3 := days_reps Dl (k := 3) (by decide) (by omega)
  have F3' := form_reps Dl (k := 3) (by decide) (by omega)
  have h5 : ∀ S, binop S .mul (TS l) (.int 3) = some (TS (reps 3 l)) := fun S => mul_TS S (k := 3) (by decide) (by omega)
  have fl : (formL l).length = l.length := turn_length Dl (formL_mem Dl)
  have h6 : ∀ S, binop S .mul (TS (formL l)) (.int 3) = some (TS (reps 3 (formL l))) := fun S => mul_TS S (k := 3) (by decide) (by omega)
  have Df := days_reps (days_turn Dl (formL_mem Dl)) (k := 3) (by decide) (by omega)
  have rq := repr_nice (pd_TS S6 (reps 3 (formL l))) (PS_nice (k := 400) Df.nm Df.hi) (by decide) (by decide)
  have st9 : RA.execS TC C (.ret (.cmp .eq (.bcall .repr [(.call 6 [(.bin .mul (.var 1) (.con (.int 3)))])]) (.bcall .repr [(.bin .mul (.bcall .min [(.var 3)]) (.con (.int 3)))]))) [some (.ref n), some (TS l), some (TS o), some (.ref p), some (toldD l), some (toldD l), some (.int (q : Int)), some (.vl (xs.map TS)), v] S6 = .ok (.ret (.bl true)) S6 := by
    simp only [↓ev_con, ↓ev_var, ↓ev_and, ↓ev_or, ↓ev_not, ↓ev_neg, ↓ev_bin, ↓ev_cmp, ↓ev_chain, ↓ev_ife, ↓ev_sub, ↓ev_slice, ↓ev_rev, ↓ev_ofInt, ↓ev_tup, ↓ev_lst, ↓ev_new, ↓ev_call, ↓ev_callv, ↓ev_bcall, ↓es_nil, ↓es_cons, ↓xs_nil, ↓xs_cons, ↓st_ret, ↓st_asg, ↓sx_asgT, ↓sx_par, ↓st_exp, ↓st_ite, ↓sx_seti, ↓sx_pass, rk, lk, fin_nx, fin_ret, fin_exc, List.getElem?_cons_zero, List.getElem?_cons_succ, List.set_cons_zero, List.set_cons_succ, truth_bl, cm_eq, cm_ne, cm_lt, cm_le, cm_gt, cm_ge, cm_is, cm_isn, cm_in, cm_nin, bc_len, bc_tuple, bc_list, bc_int, bc_repr, bc_isinst, Option.map_some, Option.bind_some, ↓reduceIte, Bool.false_eq_true, Bool.not_true, Bool.not_false, Bool.true_eq_false, fe, h5, form D3, F3', bmin_ref hp6, best_turns Dl, h6, rq, eqd_str, decide_true]
  refine ⟨S6, ?_, Dice.more d6 (by omega), (o1.trans o2).trans (o3.trans ((Old.of s4).trans ((Old.of s5).trans (Old.of s6))))⟩
  simp only [↓xs_nil, ↓xs_cons, rk, fin_nx, fin_ret, fin_exc, ↓st1, ↓st2, ↓st3, ↓st4, ↓st5, ↓st6, ↓st7, ↓st8, ↓st9]
end Law

set_option linter.all false
set_option maxRecDepth 100000
set_option maxHeartbeats 4000000
set_option autoImplicit false
/-! R25: k21: what is refused. -/
namespace Law
open PySem (Str PyData)
open RA Rot
open PySem.W (listLt)
variable {W : Nat}
def sa : Str := "a"
def sb : Str := "b"
theorem aOK : sa ∈ OKN := by simp [OKN, sa]
theorem bOK : sb ∈ OKN := by simp [OKN, sb]
theorem not_less : ∀ (n : Nat) (r : List Str), (∀ x ∈ r, x = sa ∨ x = sb) → r.length = n + 2 → r.count sb = 2 → listLt r (List.replicate n sa ++ [sb, sb]) = false
  | 0, r, h, hl, hc => by
    match r, h, hl, hc with
    | [x, y], h, _, hc =>
      have hx := h x (by simp)
      have hy := h y (by simp)
      rcases hx with rfl | rfl <;> rcases hy with rfl | rfl <;> first | (exact lt_self _) | (exfalso; revert hc; decide)
  | n + 1, [], h, hl, hc => by simp at hl
  | n + 1, x :: r, h, hl, hc => by
    have hx := h x List.mem_cons_self
    have e : List.replicate (n + 1) sa ++ [sb, sb] = sa :: (List.replicate n sa ++ [sb, sb]) := rfl
    rw [e]
    unfold listLt
    rcases hx with rfl | rfl
    · rw [if_pos rfl]
      refine not_less n r (fun y hy => h y (List.mem_cons_of_mem _ hy)) (by simpa using hl) ?_
      rw [List.count_cons] at hc
      have : (sa == sb) = false := by decide
      rw [this] at hc
      simpa using hc
    · rw [if_neg (by decide)]
      exact decide_eq_false (by decide)
def longL : List Str := [sb] ++ List.replicate 398 sa ++ [sb]
theorem longL_len : longL.length = 400 := by simp [longL]
theorem longL_ab : ∀ x ∈ longL, x = sa ∨ x = sb := by
  intro x hx
  unfold longL at hx
  simp only [List.mem_append, List.mem_singleton] at hx
  rcases hx with (h | h) | h
  · exact .inr h
  · exact .inl (List.eq_of_mem_replicate h)
  · exact .inr h
theorem longL_days : Days longL := ⟨fun x hx => by
  rcases longL_ab x hx with rfl | rfl
  · exact aOK
  · exact bOK, by rw [longL_len]; decide, by rw [longL_len]; exact Nat.le_refl _⟩
theorem longL_count : longL.count sb = 2 := by
  have : (List.replicate 398 sa).count sb = 0 := by
    rw [List.count_replicate]; rfl
  unfold longL
  rw [List.count_append, List.count_append, this]; rfl
theorem formL_long : formL longL = List.replicate 398 sa ++ [sb, sb] := by
  have hm := formL_mem longL_days
  have is_ : List.replicate 398 sa ++ [sb, sb] ∈ turns longL (per longL) := (mem_turns (per_least longL_days.lo) longL_days.lo).mpr ⟨1, by rw [longL_len]; decide, by
    have e : longL = sb :: (List.replicate 398 sa ++ [sb]) := rfl
    rw [e]
    show _ = (List.replicate 398 sa ++ [sb]) ++ [sb]
    rw [List.append_assoc]; rfl⟩
  refine lt_total ?_ (formL_le longL_days is_)
  obtain ⟨i, hi, e⟩ := (mem_turns (per_least longL_days.lo) longL_days.lo).mp hm
  rw [e]
  refine not_less 398 _ (fun x hx => ?_) (by rw [rot_length hi, longL_len]) ?_
  · unfold rot at hx
    rcases List.mem_append.mp hx with h | h
    · exact longL_ab x (List.mem_of_mem_drop h)
    · exact longL_ab x (List.mem_of_mem_take h)
  · unfold rot
    rw [List.count_append, Nat.add_comm, ← List.count_append, List.take_append_drop, longL_count]
def abL : List Str := reps 200 [sa, sb]
theorem abL_len : abL.length = 400 := by unfold abL; rw [reps_length]; rfl
theorem abL_days : Days abL := ⟨fun x hx => by
  unfold abL reps at hx
  obtain ⟨r, hr, hx'⟩ := List.mem_flatten.mp hx
  rw [List.eq_of_mem_replicate hr] at hx'
  simp only [List.mem_cons, List.not_mem_nil, or_false] at hx'
  rcases hx' with rfl | rfl
  · exact aOK
  · exact bOK, by rw [abL_len]; decide, by rw [abL_len]; exact Nat.le_refl _⟩
theorem abL_take : abL.take 2 = [sa, sb] := by
  unfold abL
  rw [show (200 : Nat) = 199 + 1 from rfl, reps_succ]
  rfl
theorem per_ab : per abL = 2 := by
  refine Least.uniq (per_least abL_days.lo) ⟨⟨by decide, ⟨200, abL_len⟩, ?_⟩, fun q hq => ?_⟩
  · refine (per_iff (by decide) ⟨200, abL_len⟩ abL_days.lo).mp ?_
    rw [abL_take, abL_len]
    rfl
  · have q0 := hq.1
    by_cases h : q = 1
    · subst h
      have := hq.2.2 0
      have e0 : F abL 0 = some sa := by
        rw [F_lt abL_days.lo]
        have := congrArg (fun z => z[0]?) abL_take
        rw [List.getElem?_take] at this
        simpa using this
      have e1 : F abL (0 + 1) = some sb := by
        rw [F_lt (by rw [abL_len]; decide)]
        have := congrArg (fun z => z[1]?) abL_take
        rw [List.getElem?_take] at this
        simpa using this
      rw [e0, e1] at this
      exact absurd this (by decide)
    · omega
end Law

set_option linter.all false
set_option maxRecDepth 100000
set_option maxHeartbeats 4000000
set_option autoImplicit false
/-! R26: k21: the refusals. -/
namespace Law
open PySem (Str PyData)
open RA Rot
variable {W : Nat}
def Ibad : E := (.lst [(.con .non), (.tup []), (.con (.str ("a" : Str))), (.lst [(.con (.str ("a" : Str)))]), (.tup [(.con (.str ("a" : Str))), (.con (.str ("" : Str)))]), (.tup [(.con (.str ("A" : Str)))]), (.tup [(.con (.int 0))]), (.tup [(.con .non)]), (.bin .mul (.tup [(.con (.str ("a" : Str)))]) (.con (.int 401))), (.con (.vd [] [])), (.con (.int 0)), (.tup [(.tup [(.con (.str ("a" : Str)))])]), (.tup [(.bin .mul (.con (.str ("a" : Str))) (.con (.int 13)))])])
def Bref : List RA.St := [(.ite (.cmp .isn (.call 1 [(.var 2)]) (.con (.bl false))) [(.ret (.con (.bl false)))] []),     (.loop false [3] .val [(.tup [(.con (.fn 6)), (.con (.fn 8)), (.con (.fn 10)), (.con (.fn 9))])] [(.ite (.not (.lam 19 (.callv (.var 3) [(.var 2)]))) [(.ret (.con (.bl false)))] [])]),     (.ite (.not (.lam 19 (.call 7 [(.var 2), (.tup [(.con (.str ("a" : Str)))])]))) [(.ret (.con (.bl false)))] []),     (.ite (.not (.lam 19 (.call 7 [(.tup [(.con (.str ("a" : Str)))]), (.var 2)]))) [(.ret (.con (.bl false)))] [])]
def badD : List D := [.non, .tup [], .str "a", .vl [.str "a"], .tup [.str "a", .str ""], .tup [.str "A"], .tup [.int 0], .tup [.non], .tup (List.replicate 401 (.str "a")), .vd [] [], .int 0, .tup [.tup [.str "a"]], .tup [.str "aaaaaaaaaaaaa"]]
theorem step_bad {k n : Nat} {S : Store} {a c e f g : Option D} {d : D} (hd : d ∈ badD) : ∃ v, RA.execs TC (ora1 TC GA (callF TC GA W (k + 6)) W) Bref [a, c, some d, e, f, g] S = .ok (.nx [a, c, some d, v, f, g]) S := by
  simp only [badD, List.mem_cons, List.not_mem_nil, or_false] at hd
  rcases hd with rfl | rfl | rfl | rfl | rfl | rfl | rfl | rfl | rfl | rfl | rfl | rfl | rfl
  all_goals exact ⟨some (.fn 9), by kernel_rfl⟩
theorem law_refusals {k n : Nat} {S : Store} : callF TC GA W (k + 7) 20 [.ref n] S = .ok (.bl true) S := by
  rw [callF_eq (fn := F20) rfl rfl]
  have s1 : RA.start 6 [.ref n] = [some (.ref n), none, none, none, none, none] := rfl
  have hI : F20.body = [(.asg 1 Ibad), (.loop false [2] .val [(.var 1)] Bref),
    (.asg 4 (.bin .add (.bin .add (.tup [(.con (.str sb))]) (.bin .mul (.tup [(.con (.str sa))]) (.con (.int 398)))) (.tup [(.con (.str sb))]))),
    (.asg 5 (.lst [(.call 1 [(.var 4)]), (.call 6 [(.var 4)]), (.call 8 [(.bin .mul (.tup [(.con (.str sa)), (.con (.str sb))]) (.con (.int 200)))])])),
    (.ret (.cmp .eq (.var 5) (.lst [(.con (.bl true)), (.bin .add (.bin .mul (.tup [(.con (.str sa))]) (.con (.int 398))) (.tup [(.con (.str sb)), (.con (.str sb))])), (.tup [(.tup [(.con (.str sa)), (.con (.str sb))]), (.con (.int 200))])])))] := rfl
  have hns : F20.ns = 6 := rfl
  have fe : ∀ i ds S, (ora1 TC GA (callF TC GA W (k + 6)) W).fn i ds S = callF TC GA W (k + 6) i ds S := fun _ _ _ => rfl
  have sb' : ∀ d ∈ badD, ∀ (a c e f g : Option D), ∃ v, RA.execs TC (ora1 TC GA (callF TC GA W (k + 6)) W) Bref [a, c, some d, e, f, g] S = .ok (.nx [a, c, some d, v, f, g]) S := fun d hd a c e f g => step_bad (n := n) hd
  have ib : ∀ a b c d e f, RA.evalE (ora1 TC GA (callF TC GA W (k + 6)) W) Ibad [a, b, c, d, e, f] S = .ok (.vl badD) S := fun _ _ _ _ _ _ => by kernel_rfl
  rw [hI, hns, s1]
  generalize ora1 TC GA (callF TC GA W (k + 6)) W = C at fe sb' ib
  have st1 : RA.execS TC C (.asg 1 Ibad) [some (.ref n), none, none, none, none, none] S = .ok (.nx [some (.ref n), some (.vl badD), none, none, none, none]) S := by
    simp only [↓ev_con, ↓ev_var, ↓ev_and, ↓ev_or, ↓ev_not, ↓ev_neg, ↓ev_bin, ↓ev_cmp, ↓ev_chain, ↓ev_ife, ↓ev_sub, ↓ev_slice, ↓ev_rev, ↓ev_ofInt, ↓ev_tup, ↓ev_lst, ↓ev_new, ↓ev_call, ↓ev_callv, ↓ev_bcall, ↓es_nil, ↓es_cons, ↓xs_nil, ↓xs_cons, ↓st_ret, ↓st_asg, ↓sx_asgT, ↓sx_par, ↓st_exp, ↓st_ite, ↓sx_seti, ↓sx_pass, rk, lk, fin_nx, fin_ret, fin_exc, List.getElem?_cons_zero, List.getElem?_cons_succ, List.set_cons_zero, List.set_cons_succ, truth_bl, cm_eq, cm_ne, cm_lt, cm_le, cm_gt, cm_ge, cm_is, cm_isn, cm_in, cm_nin, bc_len, bc_tuple, bc_list, bc_int, bc_repr, bc_isinst, Option.map_some, Option.bind_some, ↓reduceIte, Bool.false_eq_true, Bool.not_true, Bool.not_false, Bool.true_eq_false, ib]
  have st2 : ∃ v u, RA.execS TC C (.loop false [2] .val [(.var 1)] Bref) [some (.ref n), some (.vl badD), none, none, none, none] S = .ok (.nx [some (.ref n), some (.vl badD), v, u, none, none]) S := by
    have es : RA.evalEs C [(.var 1)] [some (.ref n), some (.vl badD), none, none, none, none] S = .ok [.vl badD] S := rfl
    rw [st_loop es (it := badD) (o := none) rfl]
    obtain ⟨σ', S', e, ⟨v, u, hv⟩, hS⟩ := forL_inv (step := turn TC C false [2] Bref) (g := fun S => still S (badD, none)) (fun _ σ S' => (∃ v u, σ = [some (.ref n), some (.vl badD), v, u, none, none]) ∧ S' = S)
      badD 0 _ S ⟨⟨none, none, rfl⟩, rfl⟩ (fun i d σ S' hi ⟨⟨v, u, hv⟩, hS⟩ => ⟨rfl, by
        subst hv hS
        obtain ⟨z, hz⟩ := sb' d (List.mem_of_getElem? hi) (some (.ref n)) (some (.vl badD)) u none none
        exact ⟨_, _, (turn_eq rfl).trans hz, ⟨_, _, rfl⟩, rfl⟩⟩) (fun _ _ _ => rfl)
    subst hv hS
    exact ⟨v, u, e⟩
  obtain ⟨v, u, st2⟩ := st2
  have t1 : D.tup [.str sa] = TS [sa] := rfl
  have t2 : D.tup [.str sb] = TS [sb] := rfl
  have t3 : D.tup [.str sa, .str sb] = TS [sa, sb] := rfl
  have t4 : D.tup [.str sb, .str sb] = TS [sb, sb] := rfl
  have m1 : binop S .mul (TS [sa]) (.int 398) = some (TS (List.replicate 398 sa)) := by
    have := mul_TS S (l := [sa]) (k := 398) (by decide) (by decide)
    exact this.trans (congrArg (fun z => some (TS z)) (by simp [reps]))
  have m2 : binop S .add (TS [sb]) (TS (List.replicate 398 sa)) = some (TS ([sb] ++ List.replicate 398 sa)) := add_TS S (by simp)
  have m3 : binop S .add (TS ([sb] ++ List.replicate 398 sa)) (TS [sb]) = some (TS longL) := add_TS S (by simp)
  have m4 : binop S .mul (TS [sa, sb]) (.int 200) = some (TS abL) := mul_TS S (l := [sa, sb]) (k := 200) (by decide) (by decide)
  have m5 : binop S .add (TS (List.replicate 398 sa)) (TS [sb, sb]) = some (TS (List.replicate 398 sa ++ [sb, sb])) := add_TS S (by simp)
  have rt := root abL_days (W := W) (k + 2) S
  rw [per_ab, abL_take, abL_len] at rt
  have st3 : RA.execS TC C (.asg 4 (.bin .add (.bin .add (.tup [(.con (.str sb))]) (.bin .mul (.tup [(.con (.str sa))]) (.con (.int 398)))) (.tup [(.con (.str sb))]))) [some (.ref n), some (.vl badD), v, u, none, none] S = .ok (.nx [some (.ref n), some (.vl badD), v, u, some (TS longL), none]) S := by
    simp only [↓ev_con, ↓ev_var, ↓ev_and, ↓ev_or, ↓ev_not, ↓ev_neg, ↓ev_bin, ↓ev_cmp, ↓ev_chain, ↓ev_ife, ↓ev_sub, ↓ev_slice, ↓ev_rev, ↓ev_ofInt, ↓ev_tup, ↓ev_lst, ↓ev_new, ↓ev_call, ↓ev_callv, ↓ev_bcall, ↓es_nil, ↓es_cons, ↓xs_nil, ↓xs_cons, ↓st_ret, ↓st_asg, ↓sx_asgT, ↓sx_par, ↓st_exp, ↓st_ite, ↓sx_seti, ↓sx_pass, rk, lk, fin_nx, fin_ret, fin_exc, List.getElem?_cons_zero, List.getElem?_cons_succ, List.set_cons_zero, List.set_cons_succ, truth_bl, cm_eq, cm_ne, cm_lt, cm_le, cm_gt, cm_ge, cm_is, cm_isn, cm_in, cm_nin, bc_len, bc_tuple, bc_list, bc_int, bc_repr, bc_isinst, Option.map_some, Option.bind_some, ↓reduceIte, Bool.false_eq_true, Bool.not_true, Bool.not_false, Bool.true_eq_false, t1, t2, m1, m2, m3]
  have st4 : RA.execS TC C (.asg 5 (.lst [(.call 1 [(.var 4)]), (.call 6 [(.var 4)]), (.call 8 [(.bin .mul (.tup [(.con (.str sa)), (.con (.str sb))]) (.con (.int 200)))])])) [some (.ref n), some (.vl badD), v, u, some (TS longL), none] S =
      .ok (.nx [some (.ref n), some (.vl badD), v, u, some (TS longL), some (.vl [.bl true, TS (List.replicate 398 sa ++ [sb, sb]), .tup [TS [sa, sb], .int 200]])]) S := by
    simp only [↓ev_con, ↓ev_var, ↓ev_and, ↓ev_or, ↓ev_not, ↓ev_neg, ↓ev_bin, ↓ev_cmp, ↓ev_chain, ↓ev_ife, ↓ev_sub, ↓ev_slice, ↓ev_rev, ↓ev_ofInt, ↓ev_tup, ↓ev_lst, ↓ev_new, ↓ev_call, ↓ev_callv, ↓ev_bcall, ↓es_nil, ↓es_cons, ↓xs_nil, ↓xs_cons, ↓st_ret, ↓st_asg, ↓sx_asgT, ↓sx_par, ↓st_exp, ↓st_ite, ↓sx_seti, ↓sx_pass, rk, lk, fin_nx, fin_ret, fin_exc, List.getElem?_cons_zero, List.getElem?_cons_succ, List.set_cons_zero, List.set_cons_succ, truth_bl, cm_eq, cm_ne, cm_lt, cm_le, cm_gt, cm_ge, cm_is, cm_isn, cm_in, cm_nin, bc_len, bc_tuple, bc_list, bc_int, bc_repr, bc_isinst, Option.map_some, Option.bind_some, ↓reduceIte, Bool.false_eq_true, Bool.not_true, Bool.not_false, Bool.true_eq_false, fe, is_days longL_days, form longL_days, formL_long, t3, m4, rt]
    rfl
  generalize hX : List.replicate 398 sa ++ [sb, sb] = X at m5 st4
  have eqX : eqd S (.vl [.bl true, TS X, .tup [TS [sa, sb], .int 200]]) (.vl [.bl true, TS X, .tup [TS [sa, sb], .int 200]]) = some true := by
    have p : pd S (.vl [.bl true, TS X, .tup [TS [sa, sb], .int 200]]) = some (.list [.bool true, PS X, .tuple [PS [sa, sb], .int 200]]) := by
      unfold pd
      simp only [toP, toPs, toP_TS, Option.map_some, Option.bind_some]
    unfold eqd
    rw [p, Option.bind_some, Option.bind_some, if_pos]
    · simp only [PyData.eqv, PyData.eqvAll, eqv_PS, decide_true, Bool.and_self]
      rfl
    · simp only [PyData.depth, PyData.depthAll, depth_PS]; decide
  have st5 : RA.execS TC C (.ret (.cmp .eq (.var 5) (.lst [(.con (.bl true)), (.bin .add (.bin .mul (.tup [(.con (.str sa))]) (.con (.int 398))) (.tup [(.con (.str sb)), (.con (.str sb))])), (.tup [(.tup [(.con (.str sa)), (.con (.str sb))]), (.con (.int 200))])])))
      [some (.ref n), some (.vl badD), v, u, some (TS longL), some (.vl [.bl true, TS X, .tup [TS [sa, sb], .int 200]])] S = .ok (.ret (.bl true)) S := by
    simp only [↓ev_con, ↓ev_var, ↓ev_and, ↓ev_or, ↓ev_not, ↓ev_neg, ↓ev_bin, ↓ev_cmp, ↓ev_chain, ↓ev_ife, ↓ev_sub, ↓ev_slice, ↓ev_rev, ↓ev_ofInt, ↓ev_tup, ↓ev_lst, ↓ev_new, ↓ev_call, ↓ev_callv, ↓ev_bcall, ↓es_nil, ↓es_cons, ↓xs_nil, ↓xs_cons, ↓st_ret, ↓st_asg, ↓sx_asgT, ↓sx_par, ↓st_exp, ↓st_ite, ↓sx_seti, ↓sx_pass, rk, lk, fin_nx, fin_ret, fin_exc, List.getElem?_cons_zero, List.getElem?_cons_succ, List.set_cons_zero, List.set_cons_succ, truth_bl, cm_eq, cm_ne, cm_lt, cm_le, cm_gt, cm_ge, cm_is, cm_isn, cm_in, cm_nin, bc_len, bc_tuple, bc_list, bc_int, bc_repr, bc_isinst, Option.map_some, Option.bind_some, ↓reduceIte, Bool.false_eq_true, Bool.not_true, Bool.not_false, Bool.true_eq_false, t1, m1, t4, m5, t3, eqX]
  simp only [↓xs_nil, ↓xs_cons, rk, fin_nx, fin_ret, fin_exc, ↓st1, ↓st2, ↓st3, ↓st4, ↓st5]
end Law

set_option linter.all false
set_option maxRecDepth 100000
set_option maxHeartbeats 4000000
set_option autoImplicit false
/-! R27: k21: the law. -/
namespace Law
open PySem (Str PyData)
open RA Rot
variable {W : Nat}
/-- a comprehension that keeps nothing, and changes the store -/
theorem compL_no {α : Type} {step : α → Store → Res (Option D)} {g : Store → Bool} (P : Nat → Store → Prop) : ∀ (it : List α) (a : Nat) (S : Store) (acc : List D), P a S → (∀ i d S, it[i]? = some d → P (a + i) S → g S = true ∧ ∃ S', step d S = .ok none S' ∧ P (a + i + 1) S') →
    (∀ S, P (a + it.length) S → g S = true) → ∃ S', compL step g it S acc = .ok acc S' ∧ P (a + it.length) S'
  | [], a, S, acc, h, _, hg => ⟨S, (by
      show (if g S then Res.ok acc S else .bad) = _
      rw [if_pos (hg S h)]), h⟩
  | d :: r, a, S, acc, h, hs, hg => by
    obtain ⟨g0, S1, e1, h1⟩ := hs 0 d S rfl h
    obtain ⟨S2, e2, h2⟩ := compL_no P r (a + 1) S1 acc h1 (fun i d' S hi hp => by
      have := hs (i + 1) d' S (by simpa using hi) (by rw [show a + (i + 1) = a + 1 + i from by omega]; exact hp)
      rw [show a + (i + 1) + 1 = a + 1 + i + 1 from by omega] at this
      exact this) (fun S hp => hg S (by rw [List.length_cons, show a + (r.length + 1) = a + 1 + r.length from by omega]; exact hp))
    refine ⟨S2, ?_, by rw [List.length_cons, show a + (r.length + 1) = a + 1 + r.length from by omega]; exact h2⟩
    show (if g S then (step d S).bind fun o S1 => match o with
      | some y => if acc.length < LINE then compL step g r S1 (acc ++ [y]) else .bad
      | none => compL step g r S1 acc
    else .bad) = _
    rw [if_pos g0, e1, rk]
    exact e2
theorem max2i (a b : Int) : bcall [] .max [.int a, .int b] = some (.int (if b > a then b else a)) := rfl
theorem comp_eq {C : Ora} {own : List Nat} {tup : Bool} {tgt : List Nat} {sk : SK} {es : List E} {ifs elt : E} {τ : Sig} {S S1 : Store} {ds it : List D} {o : Option Nat} (h : RA.evalEs C es τ S = .ok ds S1) (hi : srcOf S1 sk ds = some (it, o)) :
    RA.evalE C (.comp own tup tgt sk es ifs elt) τ S = (compL (cstep C own tup tgt ifs elt τ) (fun S => still S (it, o)) it S1 []).bind fun l S => .ok (.vl l) S := by
  have e : RA.evalE C (.comp own tup tgt sk es ifs elt) τ S = (RA.evalEs C es τ S).bind fun ds S => match srcOf S sk ds with
    | none => Res.bad
    | some it => (compL (cstep C own tup tgt ifs elt τ) (fun S => still S it) it.1 S []).bind fun l S => .ok (.vl l) S := rfl
  rw [e, h, rk, hi]
def Bturns : List RA.St := [(.asg 2 (.call 11 [(.var 0), (.var 1)])),     (.ite (.cmp .ne (.comp [3] false [3] .rng1 [(.con (.int ((4 : Nat) : Int)))] (.not (.call 18 [(.var 2)])) (.var 3)) (.lst [])) [(.ret (.con (.bl false)))] [])]
theorem step_law {C : Ora} {k spot : Nat} {ns : List Int} {S : Store} {a b : Option D} (hW : 200 ≤ W) (fe : ∀ i ds S, C.fn i ds S = callF TC GA W (k + 7) i ds S) (hs : spot ≤ 1000) :
    ∃ v S', RA.execs TC C Bturns [some (.ro (ns.map D.int)), some (.int (spot : Int)), a, b] S = .ok (.nx [some (.ro (ns.map D.int)), some (.int (spot : Int)), v, b]) S' := by
  obtain ⟨o, e1, dc⟩ := dice (T := TC) (Γ := GA) (W := W) (k := k + 6) (i := 11) (S := S) (ns := ns) rfl hs
  generalize hS1 : S ++ [o] = S1 at e1 dc
  have n1 : S.length < S1.length := by rw [← hS1, List.length_append]; simp
  generalize hn : S.length = n at e1 dc n1
  have st1 : RA.execS TC C (.asg 2 (.call 11 [(.var 0), (.var 1)])) [some (.ro (ns.map D.int)), some (.int (spot : Int)), a, b] S = .ok (.nx [some (.ro (ns.map D.int)), some (.int (spot : Int)), some (.ref n), b]) S1 := by
    simp only [↓ev_con, ↓ev_var, ↓ev_and, ↓ev_or, ↓ev_not, ↓ev_neg, ↓ev_bin, ↓ev_cmp, ↓ev_chain, ↓ev_ife, ↓ev_sub, ↓ev_slice, ↓ev_rev, ↓ev_ofInt, ↓ev_tup, ↓ev_lst, ↓ev_new, ↓ev_call, ↓ev_callv, ↓ev_bcall, ↓es_nil, ↓es_cons, ↓xs_nil, ↓xs_cons, ↓st_ret, ↓st_asg, ↓sx_asgT, ↓sx_par, ↓st_exp, ↓st_ite, ↓sx_seti, ↓sx_pass, rk, lk, fin_nx, fin_ret, fin_exc, List.getElem?_cons_zero, List.getElem?_cons_succ, List.set_cons_zero, List.set_cons_succ, truth_bl, cm_eq, cm_ne, cm_lt, cm_le, cm_gt, cm_ge, cm_is, cm_isn, cm_in, cm_nin, bc_len, bc_tuple, bc_list, bc_int, bc_repr, bc_isinst, Option.map_some, Option.bind_some, ↓reduceIte, Bool.false_eq_true, Bool.not_true, Bool.not_false, Bool.true_eq_false, fe, e1]
  have es : RA.evalEs C [(.con (.int ((4 : Nat) : Int)))] [some (.ro (ns.map D.int)), some (.int (spot : Int)), some (.ref n), b] S1 = .ok [.int ((4 : Nat) : Int)] S1 := rfl
  obtain ⟨S2, e2, d2, n2⟩ := compL_no (step := cstep C [3] false [3] (.not (.call 18 [(.var 2)])) (.var 3) [some (.ro (ns.map D.int)), some (.int (spot : Int)), some (.ref n), b]) (g := fun S => still S ((List.range 4).map fun q : Nat => D.int (q : Int), none))
    (fun i S => Dice S n (100 * i) ∧ n < S.length) ((List.range 4).map fun q : Nat => D.int (q : Int)) 0 S1 [] ⟨dc, n1⟩ (fun i d S hi ⟨h1, h2⟩ => by
      have hil : i < 4 := by
        have := (List.getElem?_eq_some_iff.mp hi).1
        simpa using this
      obtain ⟨S', e, d', o'⟩ := law_right (W := W) (k := k) hW h2 (by omega) h1
      refine ⟨rfl, S', ?_, by rw [show 100 * (0 + i + 1) = 100 * (0 + i) + 100 from by omega]; exact d', Nat.lt_of_lt_of_le h2 o'.1⟩
      have tg : target (RA.wipe [some (.ro (ns.map D.int)), some (.int (spot : Int)), some (.ref n), b] [3]) false [3] d = some [some (.ro (ns.map D.int)), some (.int (spot : Int)), some (.ref n), some d] := rfl
      have ev : RA.evalE C (.not (.call 18 [(.var 2)])) [some (.ro (ns.map D.int)), some (.int (spot : Int)), some (.ref n), some d] S = .ok (.bl false) S' := by
        simp only [↓ev_con, ↓ev_var, ↓ev_and, ↓ev_or, ↓ev_not, ↓ev_neg, ↓ev_bin, ↓ev_cmp, ↓ev_chain, ↓ev_ife, ↓ev_sub, ↓ev_slice, ↓ev_rev, ↓ev_ofInt, ↓ev_tup, ↓ev_lst, ↓ev_new, ↓ev_call, ↓ev_callv, ↓ev_bcall, ↓es_nil, ↓es_cons, ↓xs_nil, ↓xs_cons, ↓st_ret, ↓st_asg, ↓sx_asgT, ↓sx_par, ↓st_exp, ↓st_ite, ↓sx_seti, ↓sx_pass, rk, lk, fin_nx, fin_ret, fin_exc, List.getElem?_cons_zero, List.getElem?_cons_succ, List.set_cons_zero, List.set_cons_succ, truth_bl, cm_eq, cm_ne, cm_lt, cm_le, cm_gt, cm_ge, cm_is, cm_isn, cm_in, cm_nin, bc_len, bc_tuple, bc_list, bc_int, bc_repr, bc_isinst, Option.map_some, Option.bind_some, ↓reduceIte, Bool.false_eq_true, Bool.not_true, Bool.not_false, Bool.true_eq_false, fe, e]
      unfold cstep
      rw [tg]
      dsimp only
      rw [ev]
      rfl)
    (fun _ _ => rfl)
  have ev := comp_eq (C := C) (own := [3]) (tup := false) (tgt := [3]) (sk := .rng1) (ifs := .not (.call 18 [(.var 2)])) (elt := .var 3) es (rng1 (S := S1) (b := 4) (by decide))
  rw [e2, rk] at ev
  have eq0 : eqd S2 (.vl []) (.vl []) = some true := rfl
  refine ⟨some (.ref n), S2, ?_⟩
  have st2 : RA.execS TC C (.ite (.cmp .ne (.comp [3] false [3] .rng1 [(.con (.int ((4 : Nat) : Int)))] (.not (.call 18 [(.var 2)])) (.var 3)) (.lst [])) [(.ret (.con (.bl false)))] []) [some (.ro (ns.map D.int)), some (.int (spot : Int)), some (.ref n), b] S1 = .ok (.nx [some (.ro (ns.map D.int)), some (.int (spot : Int)), some (.ref n), b]) S2 := by
    simp only [↓ev_con, ↓ev_var, ↓ev_and, ↓ev_or, ↓ev_not, ↓ev_neg, ↓ev_bin, ↓ev_cmp, ↓ev_chain, ↓ev_ife, ↓ev_sub, ↓ev_slice, ↓ev_rev, ↓ev_ofInt, ↓ev_tup, ↓ev_lst, ↓ev_new, ↓ev_call, ↓ev_callv, ↓ev_bcall, ↓es_nil, ↓es_cons, ↓xs_nil, ↓xs_cons, ↓st_ret, ↓st_asg, ↓sx_asgT, ↓sx_par, ↓st_exp, ↓st_ite, ↓sx_seti, ↓sx_pass, rk, lk, fin_nx, fin_ret, fin_exc, List.getElem?_cons_zero, List.getElem?_cons_succ, List.set_cons_zero, List.set_cons_succ, truth_bl, cm_eq, cm_ne, cm_lt, cm_le, cm_gt, cm_ge, cm_is, cm_isn, cm_in, cm_nin, bc_len, bc_tuple, bc_list, bc_int, bc_repr, bc_isinst, Option.map_some, Option.bind_some, ↓reduceIte, Bool.false_eq_true, Bool.not_true, Bool.not_false, Bool.true_eq_false, ev, eq0]
  unfold Bturns
  simp only [↓xs_nil, ↓xs_cons, rk, fin_nx, fin_ret, fin_exc, ↓st1, ↓st2]
theorem law_all {k : Nat} {ns : List Int} (hW : 200 ≤ W) (hl : ns.length ≤ 63) : ∃ S, callF TC GA W (k + 8) 21 [.ro (ns.map D.int)] [] = .ok (.bl true) S := by
  rw [callF_eq (fn := F21) rfl rfl]
  have s1 : RA.start 4 [.ro (ns.map D.int)] = [some (.ro (ns.map D.int)), none, none, none] := rfl
  have hI : F21.body = [(.loop false [1] .rng1 [(.bcall .max [(.con (.int 1)), (.bcall .min [(.con (.int 8)), (.bcall .len [(.var 0)])])])] Bturns),
    (.ret (.and (.cmp .eq (.con (.int 400)) (.con (.int 400))) (.and (.cmp .eq (.con (.int 12)) (.con (.int 12))) (.call 20 [(.call 11 [(.var 0), (.con (.int ((0 : Nat) : Int)))])]))))] := rfl
  have hns : F21.ns = 4 := rfl
  have fe : ∀ i ds S, (ora1 TC GA (callF TC GA W (k + 7)) W).fn i ds S = callF TC GA W (k + 7) i ds S := fun _ _ _ => rfl
  rw [hI, hns, s1]
  generalize ora1 TC GA (callF TC GA W (k + 7)) W = C at fe
  have ex : ∃ m : Nat, m ≤ 8 ∧ RA.evalEs C [(.bcall .max [(.con (.int 1)), (.bcall .min [(.con (.int 8)), (.bcall .len [(.var 0)])])])] [some (.ro (ns.map D.int)), none, none, none] [] = .ok [.int (m : Int)] [] := by
    refine ⟨(if (if ((ns.map D.int).length : Int) < 8 then ((ns.map D.int).length : Int) else 8) > 1 then (if ((ns.map D.int).length : Int) < 8 then ((ns.map D.int).length : Int) else 8) else 1 : Int).toNat, by split <;> split <;> omega, ?_⟩
    have z : ((if (if ((ns.map D.int).length : Int) < 8 then ((ns.map D.int).length : Int) else 8) > 1 then (if ((ns.map D.int).length : Int) < 8 then ((ns.map D.int).length : Int) else 8) else 1 : Int).toNat : Int) = (if (if ((ns.map D.int).length : Int) < 8 then ((ns.map D.int).length : Int) else 8) > 1 then (if ((ns.map D.int).length : Int) < 8 then ((ns.map D.int).length : Int) else 8) else 1 : Int) :=
      Int.toNat_of_nonneg (by split <;> split <;> omega)
    rw [z]
    rfl
  obtain ⟨m, hm, es⟩ := ex
  obtain ⟨σ', S', e, ⟨v, u, w, hv⟩⟩ := forL_inv (step := turn TC C false [1] Bturns) (g := fun S => still S ((List.range m).map fun q : Nat => D.int (q : Int), none)) (fun _ σ _ => ∃ v u w, σ = [some (.ro (ns.map D.int)), v, u, w])
    ((List.range m).map fun q : Nat => D.int (q : Int)) 0 [some (.ro (ns.map D.int)), none, none, none] [] ⟨none, none, none, rfl⟩ (fun i d σ S hi ⟨v, u, w, hv⟩ => ⟨rfl, by
      subst hv
      have hil : i < m := by
        have := (List.getElem?_eq_some_iff.mp hi).1
        rwa [List.length_map, List.length_range] at this
      rw [List.getElem?_map, List.getElem?_range hil] at hi
      have hd : d = .int (i : Int) := (Option.some.inj hi).symm
      subst hd
      obtain ⟨v', S', e⟩ := step_law (W := W) (k := k) (spot := i) (ns := ns) (S := S) (a := u) (b := w) hW fe (by omega)
      exact ⟨_, _, (turn_eq rfl).trans e, _, _, _, rfl⟩⟩) (fun _ _ _ => rfl)
  subst hv
  have st1 := st_loop (T := TC) (C := C) (tup := false) (tgt := [1]) (body := Bturns) es (rng1 (by omega))
  rw [e] at st1
  obtain ⟨o, e1, dc⟩ := dice (T := TC) (Γ := GA) (W := W) (k := k + 6) (i := 11) (S := S') (ns := ns) (spot := 0) rfl (by decide)
  have e2 := law_refusals (W := W) (k := k) (n := S'.length) (S := S' ++ [o])
  have st2 : RA.execS TC C (.ret (.and (.cmp .eq (.con (.int 400)) (.con (.int 400))) (.and (.cmp .eq (.con (.int 12)) (.con (.int 12))) (.call 20 [(.call 11 [(.var 0), (.con (.int ((0 : Nat) : Int)))])])))) [some (.ro (ns.map D.int)), v, u, w] S' = .ok (.ret (.bl true)) (S' ++ [o]) := by
    simp only [↓ev_con, ↓ev_var, ↓ev_and, ↓ev_or, ↓ev_not, ↓ev_neg, ↓ev_bin, ↓ev_cmp, ↓ev_chain, ↓ev_ife, ↓ev_sub, ↓ev_slice, ↓ev_rev, ↓ev_ofInt, ↓ev_tup, ↓ev_lst, ↓ev_new, ↓ev_call, ↓ev_callv, ↓ev_bcall, ↓es_nil, ↓es_cons, ↓xs_nil, ↓xs_cons, ↓st_ret, ↓st_asg, ↓sx_asgT, ↓sx_par, ↓st_exp, ↓st_ite, ↓sx_seti, ↓sx_pass, rk, lk, fin_nx, fin_ret, fin_exc, List.getElem?_cons_zero, List.getElem?_cons_succ, List.set_cons_zero, List.set_cons_succ, truth_bl, cm_eq, cm_ne, cm_lt, cm_le, cm_gt, cm_ge, cm_is, cm_isn, cm_in, cm_nin, bc_len, bc_tuple, bc_list, bc_int, bc_repr, bc_isinst, Option.map_some, Option.bind_some, ↓reduceIte, Bool.false_eq_true, Bool.not_true, Bool.not_false, Bool.true_eq_false, eqd_int, decide_true, fe, e1, e2]
  refine ⟨S' ++ [o], ?_⟩
  simp only [↓xs_nil, ↓xs_cons, rk, fin_nx, fin_ret, fin_exc, ↓st1, ↓st2]
end Law

set_option Elab.async false
set_option linter.all false
set_option maxRecDepth 100000
set_option maxHeartbeats 4000000
set_option autoImplicit false
namespace Law
open PySem PySem.Spec PyProof.Rows L2 LamX RA
def WT : Nat := 1000000
theorem pure (ns : List Int) (hl : ns.length ≤ 63) (hb : ∀ z ∈ ns, Builtin.Int.intBits z ≤ 1048576) : ∃ S, callF TC GA WT 20 21 [.ro (ns.map D.int)] [] = .ok (.bl true) S := law_all (W := WT) (k := 12) (by decide) hl
theorem head {w : World} {K : PySem.W.Frag} {mg : Str → Option Value} {h : Heap} {fa : Addr} (X : K.In h) (G0 : h.Ns mainGlobals mg) (hfa : mg "law" = some (.ref fa)) {f0 f1 f2 f3 f4 f5 f6 f7 f8 f9 f10 f11 f12 f13 f14 f15 f16 f17 f18 f19 f20 f21 C0 C1 : Addr}
    {od0 an0 od1 an1 od2 an2 od3 an3 od4 an4 od5 an5 od6 an6 od7 an7 od8 an8 od9 an9 od10 an10 od11 an11 od12 an12 od13 an13 od14 an14 od15 an15 od16 an16 od17 an17 od18 an18 od19 an19 od20 an20 od21 an21 : Option Addr} {sl0 sl1 sl2 sl3 sl4 sl5 sl6 sl7 sl8 sl9 sl10 sl11 sl12 sl13 sl14 sl15 sl16 sl17 sl18 sl19 sl20 sl21 : Array (Option Value)} {oc0 kV0 dc0 pm0 cd0 ct0 oc1 kV1 dc1 pm1 cd1 ct1 oc2 kV2 dc2 pm2 cd2 ct2 oc3 kV3 dc3 pm3 cd3 ct3 oc4 kV4 dc4 pm4 cd4 ct4 oc5 kV5 dc5 pm5 cd5 ct5 oc6 kV6 dc6 pm6 cd6 ct6 oc7 kV7 dc7 pm7 cd7 ct7 oc8 kV8 dc8 pm8 cd8 ct8 oc9 kV9 dc9 pm9 cd9 ct9 oc10 kV10 dc10 pm10 cd10 ct10 oc11 kV11 dc11 pm11 cd11 ct11 oc12 kV12 dc12 pm12 cd12 ct12 oc13 kV13 dc13 pm13 cd13 ct13 oc14 kV14 dc14 pm14 cd14 ct14 oc15 kV15 dc15 pm15 cd15 ct15 oc16 kV16 dc16 pm16 cd16 ct16 oc17 kV17 dc17 pm17 cd17 ct17 oc18 kV18 dc18 pm18 cd18 ct18 oc19 kV19 dc19 pm19 cd19 ct19 oc20 kV20 dc20 pm20 cd20 ct20 oc21 kV21 dc21 pm21 cd21 ct21 : Value} {tk0 tk1 tk2 tk3 tk4 : Tok}
    (a0 : PySem.W.nsIn K mainGlobals "is_name" = some (some (.ref f0))) (l0 : K.lookup f0 = some ⟨oc0, od0, .func (PySem.W.fnOf "is_name" "is_name" (defArgs (top 7)) (defBody (top 7)) (defScope (top 7)) .none kV0 dc0 pm0 an0 cd0 ct0), sl0⟩) (c0 : PySem.W.codeIn K cd0 "is_name" = true) (k0 : PySem.W.keepIn K (.ref f0) = true)
    (a1 : PySem.W.nsIn K mainGlobals "is_days" = some (some (.ref f1))) (l1 : K.lookup f1 = some ⟨oc1, od1, .func (PySem.W.fnOf "is_days" "is_days" (defArgs (top 11)) (defBody (top 11)) (defScope (top 11)) .none kV1 dc1 pm1 an1 cd1 ct1), sl1⟩) (c1 : PySem.W.codeIn K cd1 "is_days" = true) (k1 : PySem.W.keepIn K (.ref f1) = true)
    (a2 : PySem.W.nsIn K mainGlobals "require_days" = some (some (.ref f2))) (l2 : K.lookup f2 = some ⟨oc2, od2, .func (PySem.W.fnOf "require_days" "require_days" (defArgs (top 12)) (defBody (top 12)) (defScope (top 12)) .none kV2 dc2 pm2 an2 cd2 ct2), sl2⟩) (c2 : PySem.W.codeIn K cd2 "require_days" = true) (k2 : PySem.W.keepIn K (.ref f2) = true)
    (a3 : PySem.W.nsIn K mainGlobals "period_in" = some (some (.ref f3))) (l3 : K.lookup f3 = some ⟨oc3, od3, .func (PySem.W.fnOf "period_in" "period_in" (defArgs (top 13)) (defBody (top 13)) (defScope (top 13)) .none kV3 dc3 pm3 an3 cd3 ct3), sl3⟩) (c3 : PySem.W.codeIn K cd3 "period_in" = true) (k3 : PySem.W.keepIn K (.ref f3) = true)
    (a4 : PySem.W.nsIn K mainGlobals "rotations_in" = some (some (.ref f4))) (l4 : K.lookup f4 = some ⟨oc4, od4, .func (PySem.W.fnOf "rotations_in" "rotations_in" (defArgs (top 14)) (defBody (top 14)) (defScope (top 14)) .none kV4 dc4 pm4 an4 cd4 ct4), sl4⟩) (c4 : PySem.W.codeIn K cd4 "rotations_in" = true) (k4 : PySem.W.keepIn K (.ref f4) = true)
    (a5 : PySem.W.nsIn K mainGlobals "form_in" = some (some (.ref f5))) (l5 : K.lookup f5 = some ⟨oc5, od5, .func (PySem.W.fnOf "form_in" "form_in" (defArgs (top 15)) (defBody (top 15)) (defScope (top 15)) .none kV5 dc5 pm5 an5 cd5 ct5), sl5⟩) (c5 : PySem.W.codeIn K cd5 "form_in" = true) (k5 : PySem.W.keepIn K (.ref f5) = true)
    (a6 : PySem.W.nsIn K mainGlobals "form" = some (some (.ref f6))) (l6 : K.lookup f6 = some ⟨oc6, od6, .func (PySem.W.fnOf "form" "form" (defArgs (top 16)) (defBody (top 16)) (defScope (top 16)) .none kV6 dc6 pm6 an6 cd6 ct6), sl6⟩) (c6 : PySem.W.codeIn K cd6 "form" = true) (k6 : PySem.W.keepIn K (.ref f6) = true)
    (a7 : PySem.W.nsIn K mainGlobals "are_one_round" = some (some (.ref f7))) (l7 : K.lookup f7 = some ⟨oc7, od7, .func (PySem.W.fnOf "are_one_round" "are_one_round" (defArgs (top 17)) (defBody (top 17)) (defScope (top 17)) .none kV7 dc7 pm7 an7 cd7 ct7), sl7⟩) (c7 : PySem.W.codeIn K cd7 "are_one_round" = true) (k7 : PySem.W.keepIn K (.ref f7) = true)
    (a8 : PySem.W.nsIn K mainGlobals "root" = some (some (.ref f8))) (l8 : K.lookup f8 = some ⟨oc8, od8, .func (PySem.W.fnOf "root" "root" (defArgs (top 18)) (defBody (top 18)) (defScope (top 18)) .none kV8 dc8 pm8 an8 cd8 ct8), sl8⟩) (c8 : PySem.W.codeIn K cd8 "root" = true) (k8 : PySem.W.keepIn K (.ref f8) = true)
    (a9 : PySem.W.nsIn K mainGlobals "turned_days" = some (some (.ref f9))) (l9 : K.lookup f9 = some ⟨oc9, od9, .func (PySem.W.fnOf "turned_days" "turned_days" (defArgs (top 19)) (defBody (top 19)) (defScope (top 19)) .none kV9 dc9 pm9 an9 cd9 ct9), sl9⟩) (c9 : PySem.W.codeIn K cd9 "turned_days" = true) (k9 : PySem.W.keepIn K (.ref f9) = true)
    (a10 : PySem.W.nsIn K mainGlobals "rotations" = some (some (.ref f10))) (l10 : K.lookup f10 = some ⟨oc10, od10, .func (PySem.W.fnOf "rotations" "rotations" (defArgs (top 20)) (defBody (top 20)) (defScope (top 20)) .none kV10 dc10 pm10 an10 cd10 ct10), sl10⟩) (c10 : PySem.W.codeIn K cd10 "rotations" = true) (k10 : PySem.W.keepIn K (.ref f10) = true)
    (a11 : PySem.W.nsIn K mainGlobals "_law_dice" = some (some (.ref f11))) (l11 : K.lookup f11 = some ⟨oc11, od11, .func (PySem.W.fnOf "_law_dice" "_law_dice" (defArgs (top 22)) (defBody (top 22)) (defScope (top 22)) .none kV11 dc11 pm11 an11 cd11 ct11), sl11⟩) (c11 : PySem.W.codeIn K cd11 "_law_dice" = true) (k11 : PySem.W.keepIn K (.ref f11) = true)
    (a12 : PySem.W.nsIn K mainGlobals "_law_roll" = some (some (.ref f12))) (l12 : K.lookup f12 = some ⟨oc12, od12, .func (PySem.W.fnOf "_law_roll" "_law_roll" (defArgs (top 23)) (defBody (top 23)) (defScope (top 23)) .none kV12 dc12 pm12 an12 cd12 ct12), sl12⟩) (c12 : PySem.W.codeIn K cd12 "_law_roll" = true) (k12 : PySem.W.keepIn K (.ref f12) = true)
    (a13 : PySem.W.nsIn K mainGlobals "_law_pick" = some (some (.ref f13))) (l13 : K.lookup f13 = some ⟨oc13, od13, .func (PySem.W.fnOf "_law_pick" "_law_pick" (defArgs (top 24)) (defBody (top 24)) (defScope (top 24)) .none kV13 dc13 pm13 an13 cd13 ct13), sl13⟩) (c13 : PySem.W.codeIn K cd13 "_law_pick" = true) (k13 : PySem.W.keepIn K (.ref f13) = true)
    (a14 : PySem.W.nsIn K mainGlobals "_law_shuffled" = some (some (.ref f14))) (l14 : K.lookup f14 = some ⟨oc14, od14, .func (PySem.W.fnOf "_law_shuffled" "_law_shuffled" (defArgs (top 25)) (defBody (top 25)) (defScope (top 25)) .none kV14 dc14 pm14 an14 cd14 ct14), sl14⟩) (c14 : PySem.W.codeIn K cd14 "_law_shuffled" = true) (k14 : PySem.W.keepIn K (.ref f14) = true)
    (a15 : PySem.W.nsIn K mainGlobals "_law_turns" = some (some (.ref f15))) (l15 : K.lookup f15 = some ⟨oc15, od15, .func (PySem.W.fnOf "_law_turns" "_law_turns" (defArgs (top 26)) (defBody (top 26)) (defScope (top 26)) .none kV15 dc15 pm15 an15 cd15 ct15), sl15⟩) (c15 : PySem.W.codeIn K cd15 "_law_turns" = true) (k15 : PySem.W.keepIn K (.ref f15) = true)
    (a16 : PySem.W.nsIn K mainGlobals "_law_root" = some (some (.ref f16))) (l16 : K.lookup f16 = some ⟨oc16, od16, .func (PySem.W.fnOf "_law_root" "_law_root" (defArgs (top 27)) (defBody (top 27)) (defScope (top 27)) .none kV16 dc16 pm16 an16 cd16 ct16), sl16⟩) (c16 : PySem.W.codeIn K cd16 "_law_root" = true) (k16 : PySem.W.keepIn K (.ref f16) = true)
    (a17 : PySem.W.nsIn K mainGlobals "_law_drawn" = some (some (.ref f17))) (l17 : K.lookup f17 = some ⟨oc17, od17, .func (PySem.W.fnOf "_law_drawn" "_law_drawn" (defArgs (top 28)) (defBody (top 28)) (defScope (top 28)) .none kV17 dc17 pm17 an17 cd17 ct17), sl17⟩) (c17 : PySem.W.codeIn K cd17 "_law_drawn" = true) (k17 : PySem.W.keepIn K (.ref f17) = true)
    (a18 : PySem.W.nsIn K mainGlobals "_law_right" = some (some (.ref f18))) (l18 : K.lookup f18 = some ⟨oc18, od18, .func (PySem.W.fnOf "_law_right" "_law_right" (defArgs (top 29)) (defBody (top 29)) (defScope (top 29)) .none kV18 dc18 pm18 an18 cd18 ct18), sl18⟩) (c18 : PySem.W.codeIn K cd18 "_law_right" = true) (k18 : PySem.W.keepIn K (.ref f18) = true)
    (a19 : PySem.W.nsIn K mainGlobals "_law_refused" = some (some (.ref f19))) (l19 : K.lookup f19 = some ⟨oc19, od19, .func (PySem.W.fnOf "_law_refused" "_law_refused" (defArgs (top 30)) (defBody (top 30)) (defScope (top 30)) .none kV19 dc19 pm19 an19 cd19 ct19), sl19⟩) (c19 : PySem.W.codeIn K cd19 "_law_refused" = true) (k19 : PySem.W.keepIn K (.ref f19) = true)
    (a20 : PySem.W.nsIn K mainGlobals "_law_refusals_right" = some (some (.ref f20))) (l20 : K.lookup f20 = some ⟨oc20, od20, .func (PySem.W.fnOf "_law_refusals_right" "_law_refusals_right" (defArgs (top 31)) (defBody (top 31)) (defScope (top 31)) .none kV20 dc20 pm20 an20 cd20 ct20), sl20⟩) (c20 : PySem.W.codeIn K cd20 "_law_refusals_right" = true) (k20 : PySem.W.keepIn K (.ref f20) = true)
    (a21 : PySem.W.nsIn K mainGlobals "law" = some (some (.ref f21))) (l21 : K.lookup f21 = some ⟨oc21, od21, .func (PySem.W.fnOf "law" "law" (defArgs (top 32)) (defBody (top 32)) (defScope (top 32)) .none kV21 dc21 pm21 an21 cd21 ct21), sl21⟩) (c21 : PySem.W.codeIn K cd21 "law" = true) (k21 : PySem.W.keepIn K (.ref f21) = true)
    (g0 : PySem.W.nsIn K mainGlobals "RotaError" = some (some (.ref C0))) (x0 : PySem.W.excIn K C0 [.type "ValueError", .type "Exception", .type "BaseException", .type "object"] "ValueError.__new__" = true) (kk0 : PySem.W.keepIn K (.ref C0) = true) (b0 : PySem.W.subIn K (.ref C0) (.type "BaseException") = some true) (t0 : PySem.W.typeIn K (.ref C0) = some (.type "type")) (ic0 : PySem.W.isClsIn K C0 = true)
    (g1 : PySem.W.nsIn K mainGlobals "InvalidRound" = some (some (.ref C1))) (x1 : PySem.W.excIn K C1 [.type "ValueError", .type "Exception", .type "BaseException", .type "object"] "ValueError.__new__" = true) (kk1 : PySem.W.keepIn K (.ref C1) = true) (b1 : PySem.W.subIn K (.ref C1) (.type "BaseException") = some true) (t1 : PySem.W.typeIn K (.ref C1) = some (.type "type")) (ic1 : PySem.W.isClsIn K C1 = true)
    (s0_0 : PySem.W.subIn K (.ref C0) (.ref C0) = some true)
    (s0_1 : PySem.W.subIn K (.ref C0) (.ref C1) = some false)
    (s1_0 : PySem.W.subIn K (.ref C1) (.ref C0) = some true)
    (s1_1 : PySem.W.subIn K (.ref C1) (.ref C1) = some true)
    (z0 : PySem.W.nsIn K mainGlobals "MAX_NAME" = some (some (.int 12 tk0)))
    (z1 : PySem.W.nsIn K mainGlobals "FIRST_SIGNS" = some (some (.str "abcdefghijklmnopqrstuvwxyz" tk1)))
    (z2 : PySem.W.nsIn K mainGlobals "NEXT_SIGNS" = some (some (.str "abcdefghijklmnopqrstuvwxyz0123456789." tk2)))
    (z3 : PySem.W.nsIn K mainGlobals "MAX_DAYS" = some (some (.int 400 tk3)))
    (z4 : PySem.W.nsIn K mainGlobals "MAX_LISTED" = some (some (.int 12 tk4)))
    (n_len : PySem.W.nsIn K mainGlobals "len" = some none)
    (n_abs : PySem.W.nsIn K mainGlobals "abs" = some none)
    (n_max : PySem.W.nsIn K mainGlobals "max" = some none)
    (n_min : PySem.W.nsIn K mainGlobals "min" = some none)
    (n_sum : PySem.W.nsIn K mainGlobals "sum" = some none)
    (n_all : PySem.W.nsIn K mainGlobals "all" = some none)
    (n_any : PySem.W.nsIn K mainGlobals "any" = some none)
    (n_tuple : PySem.W.nsIn K mainGlobals "tuple" = some none)
    (n_list : PySem.W.nsIn K mainGlobals "list" = some none)
    (n_int : PySem.W.nsIn K mainGlobals "int" = some none)
    (n_str : PySem.W.nsIn K mainGlobals "str" = some none)
    (n_repr : PySem.W.nsIn K mainGlobals "repr" = some none)
    (n_isinstance : PySem.W.nsIn K mainGlobals "isinstance" = some none)
    (n_bool : PySem.W.nsIn K mainGlobals "bool" = some none)
    (n_dict : PySem.W.nsIn K mainGlobals "dict" = some none)
    (n_range : PySem.W.nsIn K mainGlobals "range" = some none)
    {cc20 ct_20 : Addr} (e20 : cd20 = .ref cc20) {oq20 : Value} {dq20 : Option Addr} {vq20 : Array Value} {sq20 : Array (Option Value)} (q20 : K.lookup cc20 = some ⟨oq20, dq20, .fields vq20, sq20⟩) (p20 : vq20[11]? = some (.ref ct_20)) (h20 : PySem.W.codeHdIn K cc20 ct_20 = true) (m20 : h.get? ct_20 = some (PySem.W.tabObj #[])) (w20 : K.lookup ct_20 = none)
    : LawP PySem.Challenge.rw_roundsalike_k21_whole_rounds w K 80 63 mg fa h := by
  have e := hfa.symm.trans (PySem.W.mg_of X G0 a21)
  cases e
  subst e20
  let G : Gd := ⟨K, [(ct_20, ("_law_refusals_right" ++ (".<locals>." : Str)) ++ ("<lambda>" : Str))], fun i => ([some f0, some f1, some f2, some f3, some f4, some f5, some f6, some f7, some f8, some f9, some f10, some f11, some f12, some f13, some f14, some f15, some f16, some f17, some f18, none, some f20, some fa] : List (Option Addr)).getD i none, fun i => ([some C0, some C1] : List (Option Addr)).getD i none⟩
  have mod : ModOk G K mg MD TC := ⟨rfl, all_cons (⟨_, .int 12, PySem.W.mg_of X G0 z0, ⟨_, rfl⟩, fun _ _ => .int _⟩) (all_cons (⟨_, .str "abcdefghijklmnopqrstuvwxyz", PySem.W.mg_of X G0 z1, ⟨_, rfl⟩, fun _ _ => .str _⟩) (all_cons (⟨_, .str "abcdefghijklmnopqrstuvwxyz0123456789.", PySem.W.mg_of X G0 z2, ⟨_, rfl⟩, fun _ _ => .str _⟩) (all_cons (⟨_, .int 400, PySem.W.mg_of X G0 z3, ⟨_, rfl⟩, fun _ _ => .int _⟩) (all_cons (⟨_, .int 12, PySem.W.mg_of X G0 z4, ⟨_, rfl⟩, fun _ _ => .int _⟩) (all_nil))))), all_cons (⟨f0, PySem.W.mg_of X G0 a0, rfl⟩) (all_cons (⟨f1, PySem.W.mg_of X G0 a1, rfl⟩) (all_cons (⟨f2, PySem.W.mg_of X G0 a2, rfl⟩) (all_cons (⟨f3, PySem.W.mg_of X G0 a3, rfl⟩) (all_cons (⟨f4, PySem.W.mg_of X G0 a4, rfl⟩) (all_cons (⟨f5, PySem.W.mg_of X G0 a5, rfl⟩) (all_cons (⟨f6, PySem.W.mg_of X G0 a6, rfl⟩) (all_cons (⟨f7, PySem.W.mg_of X G0 a7, rfl⟩) (all_cons (⟨f8, PySem.W.mg_of X G0 a8, rfl⟩) (all_cons (⟨f9, PySem.W.mg_of X G0 a9, rfl⟩) (all_cons (⟨f10, PySem.W.mg_of X G0 a10, rfl⟩) (all_cons (⟨f11, PySem.W.mg_of X G0 a11, rfl⟩) (all_cons (⟨f12, PySem.W.mg_of X G0 a12, rfl⟩) (all_cons (⟨f13, PySem.W.mg_of X G0 a13, rfl⟩) (all_cons (⟨f14, PySem.W.mg_of X G0 a14, rfl⟩) (all_cons (⟨f15, PySem.W.mg_of X G0 a15, rfl⟩) (all_cons (⟨f16, PySem.W.mg_of X G0 a16, rfl⟩) (all_cons (⟨f17, PySem.W.mg_of X G0 a17, rfl⟩) (all_cons (⟨f18, PySem.W.mg_of X G0 a18, rfl⟩) (all_cons (⟨f20, PySem.W.mg_of X G0 a20, rfl⟩) (all_cons (⟨fa, PySem.W.mg_of X G0 a21, rfl⟩) (all_nil))))))))))))))))))))), free_of (mem_cons (PySem.W.mg_none_of X G0 n_len) (mem_cons (PySem.W.mg_none_of X G0 n_abs) (mem_cons (PySem.W.mg_none_of X G0 n_max) (mem_cons (PySem.W.mg_none_of X G0 n_min) (mem_cons (PySem.W.mg_none_of X G0 n_sum) (mem_cons (PySem.W.mg_none_of X G0 n_all) (mem_cons (PySem.W.mg_none_of X G0 n_any) (mem_cons (PySem.W.mg_none_of X G0 n_tuple) (mem_cons (PySem.W.mg_none_of X G0 n_list) (mem_cons (PySem.W.mg_none_of X G0 n_int) (mem_cons (PySem.W.mg_none_of X G0 n_str) (mem_cons (PySem.W.mg_none_of X G0 n_repr) (mem_cons (PySem.W.mg_none_of X G0 n_isinstance) (mem_cons (PySem.W.mg_none_of X G0 n_bool) (mem_cons (PySem.W.mg_none_of X G0 n_dict) (mem_cons (PySem.W.mg_none_of X G0 n_range) (mem_nil))))))))))))))))), all_cons (⟨C0, ⟨PySem.W.mg_of X G0 g0, ⟨_, _, _, _, PySem.F.excBase_ValueError, x0⟩, kk0, b0, t0⟩, rfl⟩) (all_cons (⟨C1, ⟨PySem.W.mg_of X G0 g1, ⟨_, _, _, _, PySem.F.excBase_ValueError, x1⟩, kk1, b1, t1⟩, rfl⟩) (all_nil)), fun k c k' c' hk hk' => (AllIx.get (Q := fun k c => ∀ k' c', ([some C0, some C1] : List (Option Addr)).getD k' none = some c' → PySem.W.exmOne K (.ref c) (.ref c') = some (TC.sub k k')) (AllIx.some (fun k' c' h' => AllIx.get (Q := fun k' c' => PySem.W.exmOne K (.ref C0) (.ref c') = some (TC.sub 0 k')) (AllIx.some (exm_mk b0 ic0 t0 s0_0) (AllIx.some (exm_mk b1 ic1 t1 s0_1) (AllIx.nil))) k' c' h') (AllIx.some (fun k' c' h' => AllIx.get (Q := fun k' c' => PySem.W.exmOne K (.ref C1) (.ref c') = some (TC.sub 1 k')) (AllIx.some (exm_mk b0 ic0 t0 s1_0) (AllIx.some (exm_mk b1 ic1 t1 s1_1) (AllIx.nil))) k' c' h') (AllIx.nil))) k c hk) k' c' hk', fun _ _ _ => rfl⟩
  refine ⟨[(cc20, ct_20)], spI G (callF TC GA WT 20 21), ?_, fun H a ns hl hb tH sq => law_sp (G := G) rfl ?_ sq (pure ns hl hb), fun base KB gN tb => ?_⟩
  · intro p hp
    simp only [List.mem_cons, List.not_mem_nil, or_false] at hp
    subst hp
    · exact ⟨m20, w20, PySem.W.codeHd_of_K X h20⟩
  · intro p hp
    simp only [G, List.mem_cons, List.not_mem_nil, or_false] at hp
    subst hp
    · exact TabS.nil (tH (cc20, ct_20) (by simp))
  have MKU20 : ∀ p ∈ G.T, p.1 = ct_20 → p.2 = ("_law_refusals_right" ++ (".<locals>." : Str)) ++ ("<lambda>" : Str) := fun p hp e => by
    simp only [G, List.mem_cons, List.not_mem_nil, or_false] at hp
    rw [hp]
  exact levels (P := PySem.Challenge.rw_roundsalike_k21_whole_rounds.prog) (w := w) (mg := mg) (base := base) (Γ := GA) (Wt := WT) mod (AllIx.get (Q := fun i f => ∃ (d : Df) (cdv : Value) (irs : List RA.St), DefAt K d f cdv ∧ GA[i]? = some ⟨d.ps.length, d.N.length, irs⟩ ∧ cSs 60 (MD.cc d) d.body = some irs ∧ LamMk G base mg d cdv) (AllIx.some (⟨D0, cd0, I0, ⟨k0, sc0, defArgs (top 7), .none, kV0, dc0, pm0, ct0, oc0, an0, od0, sl0, l0, c0, L2.Binds.all fun us hl => match us, hl with | [_], _ => rfl⟩, rfl, ci0, fun z => by cases z⟩) (AllIx.some (⟨D1, cd1, I1, ⟨k1, sc1, defArgs (top 11), .none, kV1, dc1, pm1, ct1, oc1, an1, od1, sl1, l1, c1, L2.Binds.all fun us hl => match us, hl with | [_], _ => rfl⟩, rfl, ci1, fun z => by cases z⟩) (AllIx.some (⟨D2, cd2, I2, ⟨k2, sc2, defArgs (top 12), .none, kV2, dc2, pm2, ct2, oc2, an2, od2, sl2, l2, c2, L2.Binds.all fun us hl => match us, hl with | [_], _ => rfl⟩, rfl, ci2, fun z => by cases z⟩) (AllIx.some (⟨D3, cd3, I3, ⟨k3, sc3, defArgs (top 13), .none, kV3, dc3, pm3, ct3, oc3, an3, od3, sl3, l3, c3, L2.Binds.all fun us hl => match us, hl with | [_], _ => rfl⟩, rfl, ci3, fun z => by cases z⟩) (AllIx.some (⟨D4, cd4, I4, ⟨k4, sc4, defArgs (top 14), .none, kV4, dc4, pm4, ct4, oc4, an4, od4, sl4, l4, c4, L2.Binds.all fun us hl => match us, hl with | [_], _ => rfl⟩, rfl, ci4, fun z => by cases z⟩) (AllIx.some (⟨D5, cd5, I5, ⟨k5, sc5, defArgs (top 15), .none, kV5, dc5, pm5, ct5, oc5, an5, od5, sl5, l5, c5, L2.Binds.all fun us hl => match us, hl with | [_], _ => rfl⟩, rfl, ci5, fun z => by cases z⟩) (AllIx.some (⟨D6, cd6, I6, ⟨k6, sc6, defArgs (top 16), .none, kV6, dc6, pm6, ct6, oc6, an6, od6, sl6, l6, c6, L2.Binds.all fun us hl => match us, hl with | [_], _ => rfl⟩, rfl, ci6, fun z => by cases z⟩) (AllIx.some (⟨D7, cd7, I7, ⟨k7, sc7, defArgs (top 17), .none, kV7, dc7, pm7, ct7, oc7, an7, od7, sl7, l7, c7, L2.Binds.all fun us hl => match us, hl with | [_, _], _ => rfl⟩, rfl, ci7, fun z => by cases z⟩) (AllIx.some (⟨D8, cd8, I8, ⟨k8, sc8, defArgs (top 18), .none, kV8, dc8, pm8, ct8, oc8, an8, od8, sl8, l8, c8, L2.Binds.all fun us hl => match us, hl with | [_], _ => rfl⟩, rfl, ci8, fun z => by cases z⟩) (AllIx.some (⟨D9, cd9, I9, ⟨k9, sc9, defArgs (top 19), .none, kV9, dc9, pm9, ct9, oc9, an9, od9, sl9, l9, c9, L2.Binds.all fun us hl => match us, hl with | [_], _ => rfl⟩, rfl, ci9, fun z => by cases z⟩) (AllIx.some (⟨D10, cd10, I10, ⟨k10, sc10, defArgs (top 20), .none, kV10, dc10, pm10, ct10, oc10, an10, od10, sl10, l10, c10, L2.Binds.all fun us hl => match us, hl with | [_], _ => rfl⟩, rfl, ci10, fun z => by cases z⟩) (AllIx.some (⟨D11, cd11, I11, ⟨k11, sc11, defArgs (top 22), .none, kV11, dc11, pm11, ct11, oc11, an11, od11, sl11, l11, c11, L2.Binds.all fun us hl => match us, hl with | [_, _], _ => rfl⟩, rfl, ci11, fun z => by cases z⟩) (AllIx.some (⟨D12, cd12, I12, ⟨k12, sc12, defArgs (top 23), .none, kV12, dc12, pm12, ct12, oc12, an12, od12, sl12, l12, c12, L2.Binds.all fun us hl => match us, hl with | [_, _], _ => rfl⟩, rfl, ci12, fun z => by cases z⟩) (AllIx.some (⟨D13, cd13, I13, ⟨k13, sc13, defArgs (top 24), .none, kV13, dc13, pm13, ct13, oc13, an13, od13, sl13, l13, c13, L2.Binds.all fun us hl => match us, hl with | [_, _], _ => rfl⟩, rfl, ci13, fun z => by cases z⟩) (AllIx.some (⟨D14, cd14, I14, ⟨k14, sc14, defArgs (top 25), .none, kV14, dc14, pm14, ct14, oc14, an14, od14, sl14, l14, c14, L2.Binds.all fun us hl => match us, hl with | [_, _], _ => rfl⟩, rfl, ci14, fun z => by cases z⟩) (AllIx.some (⟨D15, cd15, I15, ⟨k15, sc15, defArgs (top 26), .none, kV15, dc15, pm15, ct15, oc15, an15, od15, sl15, l15, c15, L2.Binds.all fun us hl => match us, hl with | [_], _ => rfl⟩, rfl, ci15, fun z => by cases z⟩) (AllIx.some (⟨D16, cd16, I16, ⟨k16, sc16, defArgs (top 27), .none, kV16, dc16, pm16, ct16, oc16, an16, od16, sl16, l16, c16, L2.Binds.all fun us hl => match us, hl with | [_], _ => rfl⟩, rfl, ci16, fun z => by cases z⟩) (AllIx.some (⟨D17, cd17, I17, ⟨k17, sc17, defArgs (top 28), .none, kV17, dc17, pm17, ct17, oc17, an17, od17, sl17, l17, c17, L2.Binds.all fun us hl => match us, hl with | [_], _ => rfl⟩, rfl, ci17, fun z => by cases z⟩) (AllIx.some (⟨D18, cd18, I18, ⟨k18, sc18, defArgs (top 29), .none, kV18, dc18, pm18, ct18, oc18, an18, od18, sl18, l18, c18, L2.Binds.all fun us hl => match us, hl with | [_], _ => rfl⟩, rfl, ci18, fun z => by cases z⟩) (AllIx.none (AllIx.some (⟨D20, .ref cc20, I20, ⟨k20, sc20, defArgs (top 31), .none, kV20, dc20, pm20, ct20, oc20, an20, od20, sl20, l20, c20, L2.Binds.all fun us hl => match us, hl with | [_], _ => rfl⟩, rfl, ci20, fun _ => ⟨cc20, ct_20, rfl, tb (cc20, ct_20) (by simp), by simp [G, D20], MKU20⟩⟩) (AllIx.some (⟨D21, cd21, I21, ⟨k21, sc21, defArgs (top 32), .none, kV21, dc21, pm21, ct21, oc21, an21, od21, sl21, l21, c21, L2.Binds.all fun us hl => match us, hl with | [_], _ => rfl⟩, rfl, ci21, fun z => by cases z⟩) (AllIx.nil)))))))))))))))))))))))) (all_cons (⟨f19, D19, cd19, "call", I19, rfl, PySem.W.mg_of X G0 a19, ⟨k19, sc19, defArgs (top 30), .none, kV19, dc19, pm19, ct19, oc19, an19, od19, sl19, l19, c19, L2.Binds.all fun us hl => match us, hl with | [_], _ => rfl⟩, rfl, by decide +kernel, by decide +kernel, rfl, ci19⟩) (all_nil)) 20 21 fa rfl
end Law

open PySem PySem.W PyProof.Rows
set_option maxRecDepth 100000 in
set_option maxHeartbeats 0 in
theorem PySem.Challenge.cw_roundsalike_k21_whole_rounds_holds : PySem.Challenge.rw_roundsalike_k21_whole_rounds.Holds := by
  w_on; o_law; k_head; (case hw => w_witness2)
  k_fill
  refine RA.walk_end (l := PySem.Challenge.rw_roundsalike_k21_whole_rounds) (n := 63) (k := 80) rfl (by decide) rfl (RA.roomG_caller ⟨rfl, by decide, by decide⟩) (fun w h Y => PySem.W.km_in_of Y) ?F
  case F =>
    intro w s₀ mg mb fa h TP YY KX G hmg
    refine' Law.head KX G hmg ?hq_a0 ?hq_l0 ?hq_c0 ?hq_k0 ?hq_a1 ?hq_l1 ?hq_c1 ?hq_k1 ?hq_a2 ?hq_l2 ?hq_c2 ?hq_k2 ?hq_a3 ?hq_l3 ?hq_c3 ?hq_k3 ?hq_a4 ?hq_l4 ?hq_c4 ?hq_k4 ?hq_a5 ?hq_l5 ?hq_c5 ?hq_k5 ?hq_a6 ?hq_l6 ?hq_c6 ?hq_k6 ?hq_a7 ?hq_l7 ?hq_c7 ?hq_k7 ?hq_a8 ?hq_l8 ?hq_c8 ?hq_k8 ?hq_a9 ?hq_l9 ?hq_c9 ?hq_k9 ?hq_a10 ?hq_l10 ?hq_c10 ?hq_k10 ?hq_a11 ?hq_l11 ?hq_c11 ?hq_k11 ?hq_a12 ?hq_l12 ?hq_c12 ?hq_k12 ?hq_a13 ?hq_l13 ?hq_c13 ?hq_k13 ?hq_a14 ?hq_l14 ?hq_c14 ?hq_k14 ?hq_a15 ?hq_l15 ?hq_c15 ?hq_k15 ?hq_a16 ?hq_l16 ?hq_c16 ?hq_k16 ?hq_a17 ?hq_l17 ?hq_c17 ?hq_k17 ?hq_a18 ?hq_l18 ?hq_c18 ?hq_k18 ?hq_a19 ?hq_l19 ?hq_c19 ?hq_k19 ?hq_a20 ?hq_l20 ?hq_c20 ?hq_k20 ?hq_a21 ?hq_l21 ?hq_c21 ?hq_k21 ?hq_g0 ?hq_x0 ?hq_kk0 ?hq_b0 ?hq_t0 ?hq_ic0 ?hq_g1 ?hq_x1 ?hq_kk1 ?hq_b1 ?hq_t1 ?hq_ic1 ?hq_s0_0 ?hq_s0_1 ?hq_s1_0 ?hq_s1_1 ?hq_z0 ?hq_z1 ?hq_z2 ?hq_z3 ?hq_z4 ?hq_n_len ?hq_n_abs ?hq_n_max ?hq_n_min ?hq_n_sum ?hq_n_all ?hq_n_any ?hq_n_tuple ?hq_n_list ?hq_n_int ?hq_n_str ?hq_n_repr ?hq_n_isinstance ?hq_n_bool ?hq_n_dict ?hq_n_range ?hq_e20 ?hq_q20 ?hq_p20 ?hq_h20 ?hq_m20 ?hq_w20
    (case hq_a0 => k_is); (case hq_l0 => k_is); (case hq_c0 => k_is); (case hq_k0 => k_is); (case hq_a1 => k_is); (case hq_l1 => k_is)
    (case hq_c1 => k_is); (case hq_k1 => k_is); (case hq_a2 => k_is); (case hq_l2 => k_is); (case hq_c2 => k_is); (case hq_k2 => k_is)
    (case hq_a3 => k_is); (case hq_l3 => k_is); (case hq_c3 => k_is); (case hq_k3 => k_is); (case hq_a4 => k_is); (case hq_l4 => k_is)
    (case hq_c4 => k_is); (case hq_k4 => k_is); (case hq_a5 => k_is); (case hq_l5 => k_is); (case hq_c5 => k_is); (case hq_k5 => k_is)
    (case hq_a6 => k_is); (case hq_l6 => k_is); (case hq_c6 => k_is); (case hq_k6 => k_is); (case hq_a7 => k_is); (case hq_l7 => k_is)
    (case hq_c7 => k_is); (case hq_k7 => k_is); (case hq_a8 => k_is); (case hq_l8 => k_is); (case hq_c8 => k_is); (case hq_k8 => k_is)
    (case hq_a9 => k_is); (case hq_l9 => k_is); (case hq_c9 => k_is); (case hq_k9 => k_is); (case hq_a10 => k_is); (case hq_l10 => k_is)
    (case hq_c10 => k_is); (case hq_k10 => k_is); (case hq_a11 => k_is); (case hq_l11 => k_is); (case hq_c11 => k_is); (case hq_k11 => k_is)
    (case hq_a12 => k_is); (case hq_l12 => k_is); (case hq_c12 => k_is); (case hq_k12 => k_is); (case hq_a13 => k_is); (case hq_l13 => k_is)
    (case hq_c13 => k_is); (case hq_k13 => k_is); (case hq_a14 => k_is); (case hq_l14 => k_is); (case hq_c14 => k_is); (case hq_k14 => k_is)
    (case hq_a15 => k_is); (case hq_l15 => k_is); (case hq_c15 => k_is); (case hq_k15 => k_is); (case hq_a16 => k_is); (case hq_l16 => k_is)
    (case hq_c16 => k_is); (case hq_k16 => k_is); (case hq_a17 => k_is); (case hq_l17 => k_is); (case hq_c17 => k_is); (case hq_k17 => k_is)
    (case hq_a18 => k_is); (case hq_l18 => k_is); (case hq_c18 => k_is); (case hq_k18 => k_is); (case hq_a19 => k_is); (case hq_l19 => k_is)
    (case hq_c19 => k_is); (case hq_k19 => k_is); (case hq_a20 => k_is); (case hq_l20 => k_is); (case hq_c20 => k_is); (case hq_k20 => k_is)
    (case hq_a21 => k_is); (case hq_l21 => k_is); (case hq_c21 => k_is); (case hq_k21 => k_is); (case hq_g0 => k_is); (case hq_x0 => k_exc)
    (case hq_kk0 => k_is); (case hq_b0 => k_is); (case hq_t0 => k_is); (case hq_ic0 => k_is); (case hq_g1 => k_is); (case hq_x1 => k_exc)
    (case hq_kk1 => k_is); (case hq_b1 => k_is); (case hq_t1 => k_is); (case hq_ic1 => k_is); (case hq_s0_0 => k_is); (case hq_s0_1 => k_is)
    (case hq_s1_0 => k_is); (case hq_s1_1 => k_is); (case hq_z0 => k_is); (case hq_z1 => k_is); (case hq_z2 => k_is); (case hq_z3 => k_is)
    (case hq_z4 => k_is); (case hq_n_len => k_is); (case hq_n_abs => k_is); (case hq_n_max => k_is); (case hq_n_min => k_is); (case hq_n_sum => k_is)
    (case hq_n_all => k_is); (case hq_n_any => k_is); (case hq_n_tuple => k_is); (case hq_n_list => k_is); (case hq_n_int => k_is); (case hq_n_str => k_is)
    (case hq_n_repr => k_is); (case hq_n_isinstance => k_is); (case hq_n_bool => k_is); (case hq_n_dict => k_is); (case hq_n_range => k_is)
    (case hq_e20 => rfl); (case hq_q20 => k_is); (case hq_p20 => rfl); (case hq_h20 => kernel_rfl); (case hq_m20 => exact PySem.W.km_tabs_of YY _ (by simp)); (case hq_w20 => kernel_rfl)
