import PyProof.Rows.All
import Wide.All
import OpenK.AllK
import Wide.FinOn
import PyProof.ReprReads
import KE.SortKeyed
import KE.DataCmp
import HandS.Lambda
import HandS.ForMost
import HandS.ForExc
import HandS.TryMany
import HandS.TryOnly
import HandS.Flow
import HandS.Wide
import HandS.TupAny
import HandS.TupMul
import HandS.CallSlots
import HandS.IsInst
import HandS.ExcOwn
import HandS.ExcField
import HandS.RaiseMore
import HandS.EndBits
import HandS.Conv
import KE.DataMinMax
import KE.SortData
import KE.DatumIndex
import KE.DataEq
import HandS.Style
import KE.GoesZip
import KE.GoesEnum
import KE.GoesMore
import HandS.Strs
import HandS.SetFor
import HandS.SortKw
import HandS.Star
import HandS.ExcInit
import KE.KExcLine
import HandS.EndTab
import PySem.Challenge.RW_roundsalike_k14_errors_of_rows
import KE.DatumOrd
set_option Elab.async false
set_option autoImplicit false
/-! A1: a small interpreter. Values D, the store, expressions E, statements St; what each call gives. -/
namespace RA
open PySem (Str PyData)

/-- values: immutable data, the place of a changing thing in the store, a def, a class -/
inductive D where
  | non | bl (b : Bool) | int (i : Int) | str (s : Str)
  | tup (ds : List D) | vl (ds : List D) | ro (ds : List D) | vd (ks vs : List D)
  | ref (n : Nat) | fn (i : Nat) | ty (n : String)

/-- what changes: a list -/
inductive SO where
  | lst (ds : List D)

abbrev Store := List SO
/-- an exception: its class's number, what it keeps -/
structure Exn where
  k : Nat
  fs : List (Str × D)
inductive Res (α : Type) where
  | ok (a : α) (S : Store)
  | exc (x : Exn) (S : Store)
  | bad
@[simp] def Res.bind {α β : Type} : Res α → (α → Store → Res β) → Res β
  | .ok a S, f => f a S
  | .exc x S, _ => .exc x S
  | .bad, _ => .bad
/-- where no exception may leave -/
@[simp] def Res.noexc {α : Type} : Res α → Res α
  | .ok a S => .ok a S
  | _ => .bad
/-- of an option -/
@[simp] def lift {α : Type} (S : Store) : Option α → Res α
  | some a => .ok a S
  | none => .bad
abbrev Sig := List (Option D)

mutual
/-- two values are surely the same -/
def D.beq : D → D → Bool
  | .non, .non => true
  | .bl a, .bl b => a == b
  | .int a, .int b => a == b
  | .str a, .str b => decide (a = b)
  | .tup a, .tup b => D.beqs a b
  | .vl a, .vl b => D.beqs a b
  | .ro a, .ro b => D.beqs a b
  | .vd a b, .vd c d => D.beqs a c && D.beqs b d
  | .ref a, .ref b => a == b
  | .fn a, .fn b => a == b
  | .ty a, .ty b => a == b
  | _, _ => false
def D.beqs : List D → List D → Bool
  | [], [] => true
  | a :: r, b :: s => D.beq a b && D.beqs r s
  | _, _ => false
end

mutual
/-- a value as data; r: what stands at a place of the store -/
def toP (r : Nat → Option PyData) : D → Option PyData
  | .non => some .none
  | .bl b => some (.bool b)
  | .int i => some (.int i)
  | .str s => some (.str s)
  | .tup ds => (toPs r ds).map .tuple
  | .vl ds => (toPs r ds).map .list
  | .ro ds => (toPs r ds).map .list
  | .vd _ _ => none
  | .ref n => r n
  | .fn _ => none
  | .ty _ => none
def toPs (r : Nat → Option PyData) : List D → Option (List PyData)
  | [] => some []
  | d :: ds => (toP r d).bind fun x => (toPs r ds).map fun xs => x :: xs
end
/-- what stands in the store, as data, to the depth k -/
def deep : Nat → Store → Nat → Option PyData
  | 0, _, _ => none
  | k + 1, S, n => match S[n]? with
    | some (.lst ds) => (toPs (deep k S) ds).map .list
    | none => none
def pd (S : Store) (d : D) : Option PyData := toP (deep 8 S) d
def pds (S : Store) (ds : List D) : Option (List PyData) := toPs (deep 8 S) ds

/-- the items of a list -/
def asL (S : Store) : D → Option (List D)
  | .vl ds => some ds
  | .ref n => match S[n]? with
    | some (.lst ds) => some ds
    | none => none
  | _ => none
/-- the items of a list or a tuple -/
def asQ (S : Store) : D → Option (List D)
  | .tup ds => some ds
  | .ro ds => some ds
  | d => asL S d
def intsOf : List D → Option (List Int)
  | [] => some []
  | .int i :: r => (intsOf r).map fun l => i :: l
  | _ => none
def boolsOf : List D → Option (List Bool)
  | [] => some []
  | .bl b :: r => (boolsOf r).map fun l => b :: l
  | _ => none

def LINE : Nat := 16777216
/-- the truth of a value -/
def truth (S : Store) : D → Option Bool
  | .non => some false
  | .bl b => some b
  | .int i => some (i != 0)
  | .str s => if s.length ≤ LINE then some ((s.length : Int) != 0) else none
  | .tup ds => some !ds.isEmpty
  | .vl ds => some !ds.isEmpty
  | .ro ds => some !ds.isEmpty
  | .ref n => match S[n]? with
    | some (.lst ds) => some !ds.isEmpty
    | none => none
  | _ => none

inductive BOp where | add | sub | mul | fdiv | mod | pow
  deriving DecidableEq
inductive COp where | eq | ne | lt | le | gt | ge | is | isn | isin | nin
  deriving DecidableEq
inductive BF where | len | abs | max | min | sum | all | any | sorted | tuple | list | int | str | repr | isinst
  deriving DecidableEq
inductive SK where | val | rng1 | rng2 | enum | zip
  deriving DecidableEq

def rep (k : Int) (ds : List D) : List D := (List.replicate k.toNat ds).flatten
/-- a text, k times -/
def strTimes (a : Str) (k : Int) : Str := if k < 1 then Str.empty else if (k == 1 || a.length == 0) = true then a else ⟨(List.replicate k.toNat a.cps).foldl (· ++ ·) #[]⟩
/-- the operators -/
def binop (S : Store) : BOp → D → D → Option D
  | .add, .int i, .int j => some (.int (i + j))
  | .add, .str a, .str b => if a.length + b.length ≤ LINE then some (.str (a ++ b)) else none
  | .add, .tup a, .tup b => if a.length + b.length ≤ LINE then some (.tup (a ++ b)) else none
  | .add, x, y => (asL S x).bind fun a => (asL S y).bind fun b => if a.length + b.length ≤ LINE then some (.vl (a ++ b)) else none
  | .sub, .int i, .int j => some (.int (i - j))
  | .mul, .int i, .int j => if i.natAbs.log2 + j.natAbs.log2 < 1000000 then some (.int (i * j)) else none
  | .mul, .str a, .int k => if -1000 ≤ k ∧ k ≤ 1000 ∧ a.length ≤ 1000 then some (.str (strTimes a k)) else none
  | .mul, .tup a, .int k => if -1000 ≤ k ∧ k ≤ 1000 ∧ a.length ≤ 1000 then some (.tup (rep k a)) else none
  | .mul, x, .int k => (asL S x).bind fun a => if -1000 ≤ k ∧ k ≤ 1000 ∧ a.length ≤ 1000 then some (.vl (rep k a)) else none
  | .fdiv, .int i, .int j => if j ≠ 0 ∧ j.natAbs.log2 < 9000 then some (.int (i.fdiv j)) else none
  | .mod, .int i, .int j => if j ≠ 0 then some (.int (i.fmod j)) else none
  | .pow, .int i, .int j => if 0 ≤ j ∧ j ≤ 1000 ∧ i.natAbs.log2 < 1000 then some (.int (i ^ j.toNat)) else none
  | _, _, _ => none

/-- ==, to a small depth of one side -/
def eqd (S : Store) (x y : D) : Option Bool := (pd S x).bind fun p => (pd S y).bind fun q => if min p.depth q.depth ≤ 60 then some (p.eqv q) else none
/-- one of two ints, or of two texts, stands ahead -/
def lts : D → D → Option Bool
  | .int i, .int j => some (decide (i < j))
  | .str a, .str b => some (decide (a.cps.toList < b.cps.toList))
  | _, _ => none
def les : D → D → Option Bool
  | .int i, .int j => some (decide (i ≤ j))
  | _, _ => none
def sameAs : D → D → Option Bool
  | x, .non => some (match x with | .non => true | _ => false)
  | .bl a, .bl b => some (a == b)
  | _, _ => none
def isIn (S : Store) (x y : D) : Option Bool :=
  match x, y with
  | .str a, .str b => some (!(PySem.Builtin.Str.occurrences b a 0 b.length 1).isEmpty)
  | x, y => (asQ S y).bind fun ds => (pd S x).bind fun p => (pds S ds).bind fun qs => if p.depth ≤ 60 then some (qs.any fun q => q.eqv p) else none
def cmpop (S : Store) : COp → D → D → Option D
  | .eq, x, y => (eqd S x y).map .bl
  | .ne, x, y => (eqd S x y).map fun b => .bl (!b)
  | .lt, x, y => (lts x y).map .bl
  | .le, x, y => (les x y).map .bl
  | .gt, x, y => (lts y x).map .bl
  | .ge, x, y => (les y x).map .bl
  | .is, x, y => (sameAs x y).map .bl
  | .isn, x, y => (sameAs x y).map fun b => .bl (!b)
  | .isin, x, y => (isIn S x y).map .bl
  | .nin, x, y => (isIn S x y).map fun b => .bl (!b)

def natIx (n : Nat) (i : Int) : Option Nat := if 0 ≤ i then (if i < n then some i.toNat else none) else if -(n : Int) ≤ i then some (i + n).toNat else none
/-- x[i] -/
def sub (S : Store) (x i : D) : Option D :=
  match i with
  | .int k => match x with
    | .str s => if s.length ≤ LINE then (natIx s.length k).bind fun j => (s.cps[j]?).map fun c => .str ⟨#[c]⟩ else none
    | x => (asQ S x).bind fun ds => (natIx ds.length k).bind fun j => ds[j]?
  | _ => none
/-- the bounds of a slice -/
def bound : D → Option (Option Int)
  | .non => some none
  | .int i => some (some i)
  | _ => none
def six (n d : Nat) : Option Int → Nat
  | none => d
  | some v => if v < 0 then (v + (n : Int)).toNat else min v.toNat n
def cut {α : Type} (xs : List α) (lo hi : Option Int) : List α := (xs.drop (six xs.length 0 lo)).take (six xs.length xs.length hi - six xs.length 0 lo)
def slice2 (S : Store) (x : D) (a b : Option Int) : Option D :=
  match x with
  | .tup ds => some (.tup (cut ds a b))
  | .str _ => none
  | x => (asL S x).map fun ds => .vl (cut ds a b)
/-- x[lo:hi] -/
def slice (S : Store) (x lo hi : D) : Option D := (bound lo).bind fun a => (bound hi).bind fun b => slice2 S x a b
def rev (S : Store) : D → Option D
  | .tup ds => some (.tup ds.reverse)
  | x => (asL S x).map fun ds => .vl ds.reverse

mutual
/-- data without anything that changes, without lists -/
def pureD : D → Bool
  | .non => true
  | .bl _ => true
  | .int _ => true
  | .str _ => true
  | .tup ds => pureDs ds
  | _ => false
def pureDs : List D → Bool
  | [] => true
  | d :: ds => pureD d && pureDs ds
end
def leastBy {α : Type} (lt : α → α → Bool) : α → List α → α
  | b, [] => b
  | b, x :: r => leastBy lt (if lt x b then x else b) r
def alikes (ps : List PyData) : Bool := ps.all fun p => ps.all fun q => PySem.W.alike p q
/-- min and max of many: the first of the least, of the greatest -/
def best (S : Store) (gt : Bool) (ds : List D) : Option D := (pds S ds).bind fun ps =>
  match ds.zip ps with
  | [] => none
  | x :: r => if alikes ps = true ∧ PyData.depthAll ps ≤ 60 ∧ pureDs ds = true ∧ (ps.all fun p => match p with | .none => false | _ => true) = true then
      some (leastBy (fun a b => if gt then PySem.W.dataLt b.2 a.2 else PySem.W.dataLt a.2 b.2) x r).1 else none
/-- two rising lists put together; the fuel is the length of both -/
def mrg {α : Type} (le : α → α → Bool) : Nat → List α → List α → List α
  | 0, xs, ys => xs ++ ys
  | _ + 1, [], ys => ys
  | _ + 1, x :: xs, [] => x :: xs
  | n + 1, x :: xs, y :: ys => if le x y then x :: mrg le n xs (y :: ys) else y :: mrg le n (x :: xs) ys
/-- sorting, by halves; the kernel can run it -/
def msort {α : Type} (le : α → α → Bool) : Nat → List α → List α
  | 0, l => l
  | _ + 1, [] => []
  | _ + 1, [a] => [a]
  | n + 1, a :: b :: xs => mrg le (xs.length + 2) (msort le n ((a :: b :: xs).take ((xs.length + 1 + 1 + 1) / 2))) (msort le n ((a :: b :: xs).drop ((xs.length + 1 + 1 + 1) / 2)))
theorem mrg_eq {α : Type} (le : α → α → Bool) : ∀ (n : Nat) (xs ys : List α), xs.length + ys.length ≤ n → mrg le n xs ys = List.merge xs ys le
  | 0, xs, ys, h => by
    have h1 : xs = [] := List.length_eq_zero_iff.mp (by omega)
    have h2 : ys = [] := List.length_eq_zero_iff.mp (by omega)
    subst h1 h2
    simp [mrg]
  | n + 1, [], ys, _ => by simp [mrg]
  | n + 1, x :: xs, [], _ => by simp [mrg]
  | n + 1, x :: xs, y :: ys, h => by
    have e1 := mrg_eq le n xs (y :: ys) (by simp only [List.length_cons] at h ⊢; omega)
    have e2 := mrg_eq le n (x :: xs) ys (by simp only [List.length_cons] at h ⊢; omega)
    rw [mrg, e1, e2, List.merge]
theorem msort_eq {α : Type} (le : α → α → Bool) : ∀ (n : Nat) (l : List α), l.length ≤ n → msort le n l = l.mergeSort le
  | 0, l, h => by
    have h1 : l = [] := List.length_eq_zero_iff.mp (by omega)
    subst h1
    simp [msort]
  | n + 1, [], _ => by simp [msort]
  | n + 1, [a], _ => by simp [msort]
  | n + 1, a :: b :: xs, h => by
    simp only [List.length_cons] at h
    have e1 := msort_eq le n ((a :: b :: xs).take ((xs.length + 1 + 1 + 1) / 2)) (by simp only [List.length_take, List.length_cons]; omega)
    have e2 := msort_eq le n ((a :: b :: xs).drop ((xs.length + 1 + 1 + 1) / 2)) (by simp only [List.length_drop, List.length_cons]; omega)
    rw [msort, e1, e2, mrg_eq _ _ _ _ (by simp only [List.length_mergeSort, List.length_take, List.length_drop, List.length_cons]; omega), List.mergeSort]
    simp only [List.MergeSort.Internal.splitInTwo_fst, List.MergeSort.Internal.splitInTwo_snd, List.length_cons]
def sortP {α : Type} (le : α → α → Bool) (l : List α) : List α := msort le l.length l
theorem sortP_eq {α : Type} (le : α → α → Bool) (l : List α) : sortP le l = l.mergeSort le := msort_eq le l.length l (Nat.le_refl _)
/-- sorted(x), by the data -/
def srt (S : Store) (ds : List D) : Option (List D) := (pds S ds).bind fun ps =>
  if alikes ps = true ∧ PyData.depthAll ps ≤ 60 ∧ ((ps.all fun p => match p with | .tuple (_ :: _) => true | _ => false) = true ∨ (ps.all fun p => match p with | .tuple _ => false | .none => false | _ => true) = true) then
    some ((sortP (fun a b => PySem.W.dataLe false (fun p : D × PyData => p.2) a b) (ds.zip ps)).map (·.1)) else none
def tyOf : D → Option String
  | .non => some "NoneType"
  | .bl _ => some "bool"
  | .int _ => some "int"
  | .str _ => some "str"
  | .tup _ => some "tuple"
  | .vl _ => some "list"
  | .ro _ => some "list"
  | .vd _ _ => some "dict"
  | _ => none
def known (t : String) : Bool := t == "int" || t == "str" || t == "bool" || t == "tuple" || t == "list" || t == "dict"
def isTy (x : D) (t : String) : Option Bool := if known t = true then (tyOf x).map fun a => a == t || (a == "bool" && t == "int") else none
def chars (s : Str) : List D := s.cps.toList.map fun c => .str ⟨#[c]⟩
def one {α : Type} (f : D → Option α) : List D → Option α
  | [x] => f x
  | _ => none
def two {α : Type} (f : D → D → Option α) : List D → Option α
  | [x, y] => f x y
  | _ => none
def lenD (S : Store) : D → Option D
  | .str s => if s.length ≤ LINE then some (.int s.length) else none
  | x => (asQ S x).map fun ds => .int ds.length
def absD : D → Option D
  | .int i => some (.int (if i < 0 then -i else i))
  | _ => none
def max2 : D → D → Option D
  | .int i, .int j => some (.int (if j > i then j else i))
  | _, _ => none
def min2 : D → D → Option D
  | .int i, .int j => some (.int (if j < i then j else i))
  | _, _ => none
def intD : D → Option D
  | .int i => some (.int i)
  | .bl b => some (.int (if b then 1 else 0))
  | _ => none
def strD : D → Option D
  | .int i => if i.natAbs.log2 < 1920 then some (.str (toString i)) else none
  | .str s => some (.str s)
  | _ => none
def reprD (S : Store) (x : D) : Option D := (pd S x).bind fun p => if p.showable = true ∧ p.depth ≤ 60 ∧ p.shown.length + 64 ≤ LINE then some (.str p.shown) else none
def isinstD (S : Store) : D → D → Option D
  | .ref n, .ty t => match S[n]? with
    | some (.lst _) => (isTy (.vl []) t).map .bl
    | none => none
  | x, .ty t => (isTy x t).map .bl
  | _, _ => none
/-- the built-in functions -/
def bcall (S : Store) : BF → List D → Option D
  | .len, ds => one (lenD S) ds
  | .abs, ds => one absD ds
  | .max, ds => match ds with
    | [x] => (asQ S x).bind (best S true)
    | ds => two max2 ds
  | .min, ds => match ds with
    | [x] => (asQ S x).bind (best S false)
    | ds => two min2 ds
  | .sum, ds => one (fun x => (asL S x).bind fun ds => (intsOf ds).map fun l => .int l.sum) ds
  | .all, ds => one (fun x => (asL S x).bind fun ds => (boolsOf ds).map fun l => .bl (l.all id)) ds
  | .any, ds => one (fun x => (asL S x).bind fun ds => (boolsOf ds).map fun l => .bl (l.any id)) ds
  | .sorted, ds => one (fun x => (asQ S x).bind fun ds => (srt S ds).map .vl) ds
  | .tuple, ds => one (fun x => (asQ S x).map .tup) ds
  | .list, ds => one (fun x => (asQ S x).map .vl) ds
  | .int, ds => one intD ds
  | .str, ds => one strD ds
  | .repr, ds => one (reprD S) ds
  | .isinst, ds => two (isinstD S) ds

/-- the items of what does not change -/
def seqD : D → Option (List D)
  | .tup ds => some ds
  | .vl ds => some ds
  | .ro ds => some ds
  | _ => none
/-- a number put into a rising list -/
def putIn (x : Int) : List Int → List Int
  | [] => [x]
  | y :: r => if x < y then x :: y :: r else if x = y then y :: r else y :: putIn x r
/-- the members, rising -/
def rising : List Int → List Int
  | [] => []
  | x :: r => putIn x (rising r)
/-- sorted(set(x)), x a list of less than 64 ints -/
def sortSet (S : Store) (x : D) : Option (List D) := (asL S x).bind fun ds => (intsOf ds).bind fun ns => if ns.length < 64 then some ((rising ns).map .int) else none
/-- a list's items, of the script too -/
def asLR (S : Store) : D → Option (List D)
  | .ro ds => some ds
  | d => asL S d
/-- keys that can be sorted -/
def keysOk (ps : List PyData) : Bool := alikes ps && decide (PyData.depthAll ps ≤ 60) && ((ps.all fun p => match p with | .tuple (_ :: _) => true | _ => false) || (ps.all fun p => match p with | .tuple _ => false | .none => false | _ => true))
/-- the items in the sequence of their keys -/
def sortBy (ds ks : List D) : Option (List D) := (toPs (fun _ => none) ks).bind fun ps => if keysOk ps = true then some ((sortP (fun a b => PySem.W.dataLe false (fun p : D × PyData => p.2) a b) (ds.zip ps)).map (·.1)) else none
/-- what a for or a comprehension walks: the items; where it is a list of the store, its place -/
def srcOf (S : Store) : SK → List D → Option (List D × Option Nat)
  | .val, [.ref n] => match S[n]? with
    | some (.lst ds) => some (ds, some n)
    | none => none
  | .val, [.vl ds] => some (ds, none)
  | .val, [.ro ds] => some (ds, none)
  | .val, [.tup ds] => some (ds, none)
  | .val, [.str s] => some (chars s, none)
  | .rng1, [.int j] => if -(2 ^ 62) ≤ j ∧ j < 2 ^ 62 then some ((List.range j.toNat).map fun i => .int (0 + (i : Nat)), none) else none
  | .rng2, [.int i, .int j] => if -(2 ^ 62) ≤ i ∧ i < 2 ^ 62 ∧ -(2 ^ 62) ≤ j ∧ j < 2 ^ 62 then some ((List.range (j - i).toNat).map fun k => .int (i + (k : Nat)), none) else none
  | .enum, [x] => (seqD x).map fun ds => (ds.zipIdx.map fun p => .tup [.int (p.2 : Nat), p.1], none)
  | .zip, [x, y] => (seqD x).bind fun a => (seqD y).map fun b => ((a.zip b).map fun p => .tup [p.1, p.2], none)
  | _, _ => none
/-- the list that is walked stands as it was -/
def still (S : Store) : List D × Option Nat → Bool
  | (_, none) => true
  | (ds, some n) => match S[n]? with
    | some (.lst es) => D.beqs ds es
    | none => false
/-- names get values -/
def setAll (σ : Sig) : List Nat → List D → Option Sig
  | [], [] => some σ
  | i :: r, d :: ds => setAll (σ.set i (some d)) r ds
  | _, _ => none
/-- the target of a loop: one name, or some -/
def target (σ : Sig) (tup : Bool) (is : List Nat) (d : D) : Option Sig :=
  if tup then (match d with | .tup ds => setAll σ is ds | _ => none)
  else match is with | [i] => some (σ.set i (some d)) | _ => none
def wipe (σ : Sig) : List Nat → Sig
  | [] => σ
  | v :: vs => (wipe σ vs).set v none

inductive E where
  | var (i : Nat)
  | con (d : D)
  | bin (op : BOp) (a b : E)
  | neg (a : E)
  | not (a : E)
  | and (a b : E)
  | or (a b : E)
  | cmp (op : COp) (a b : E)
  | chain (o1 o2 : COp) (a b c : E)
  | ife (c a b : E)
  | tup (es : List E)
  | lst (es : List E)
  /-- a new list that will change -/
  | new (e : E)
  | sub (a i : E)
  | slice (a lo hi : E)
  | rev (a : E)
  | call (f : Nat) (es : List E)
  | callv (f : E) (es : List E)
  | bcall (f : BF) (es : List E)
  | append (o e : E)
  | pop (o i : E)
  | comp (own : List Nat) (tup : Bool) (tgt : List Nat) (sk : SK) (es : List E) (ifs : E) (elt : E)
  /-- the call of what was handed in -/
  | thunk
  /-- a call of a def with a lambda -/
  | lam (f : Nat) (body : E)
  /-- what the exception at hand, of class k, keeps -/
  | exf (k : Nat) (n : Str)
  /-- an int -/
  | ofInt (a : E)
  /-- sorted(e, key=f) -/
  | sortk (f : Nat) (e : E)
  /-- sorted(set(e)) -/
  | sortset (e : E)

mutual
inductive St where
  | asg (i : Nat) (e : E)
  | asgT (is : List Nat) (e : E)
  | par (is : List Nat) (es : List E)
  | seti (o i e : E)
  | exp (e : E)
  | ret (e : E)
  | ite (c : E) (a b : List St)
  | loop (tup : Bool) (tgt : List Nat) (sk : SK) (es : List E) (body : List St)
  | while (c : E) (body : List St)
  | raise (k : Nat) (es : List E)
  /-- raise X(e), X a class that keeps what it is given as f -/
  | raisek (k : Nat) (f : Str) (e : E)
  | tri (body : List St) (hs : List Hd)
  | pass
  /-- what is not covered -/
  | stuck
inductive Hd where
  | mk (k : Nat) (slot : Option Nat) (body : List St)
end

/-- the world of a body: the defs, what was handed in, the exception at hand, how often a while may turn -/
structure Ora where
  fn : Nat → List D → Store → Res D
  lam : Nat → (Store → Res D) → Store → Res D
  th : Store → Res D
  ex : Option Exn
  turns : Nat

/-- the keys, one by one -/
def keysL (fn : D → Store → Res D) : List D → Store → Res (List D)
  | [], S => .ok [] S
  | d :: r, S => ((fn d S).noexc).bind fun k S => (keysL fn r S).bind fun ks S => .ok (k :: ks) S
/-- a comprehension's loop -/
def compL {α : Type} (step : α → Store → Res (Option D)) (g : Store → Bool) : List α → Store → List D → Res (List D)
  | [], S, acc => if g S then .ok acc S else .bad
  | d :: r, S, acc => if g S then (step d S).bind fun o S1 => match o with
      | some y => if acc.length < LINE then compL step g r S1 (acc ++ [y]) else .bad
      | none => compL step g r S1 acc
    else .bad

mutual
def evalE (C : Ora) : E → Sig → Store → Res D
  | .var i, σ, S => match σ[i]? with
    | some (some d) => .ok d S
    | _ => .bad
  | .con d, _, S => .ok d S
  | .bin op a b, σ, S => (evalE C a σ S).bind fun x S => (evalE C b σ S).bind fun y S => lift S (binop S op x y)
  | .neg a, σ, S => (evalE C a σ S).bind fun x S => match x with
    | .int i => .ok (.int (-i)) S
    | _ => .bad
  | .not a, σ, S => (evalE C a σ S).bind fun x S => lift S ((truth S x).map fun b => .bl (!b))
  | .and a b, σ, S => (evalE C a σ S).bind fun x S => (lift S (truth S x)).bind fun k S => if k then evalE C b σ S else .ok x S
  | .or a b, σ, S => (evalE C a σ S).bind fun x S => (lift S (truth S x)).bind fun k S => if k then .ok x S else evalE C b σ S
  | .cmp op a b, σ, S => (evalE C a σ S).bind fun x S => (evalE C b σ S).bind fun y S => lift S (cmpop S op x y)
  | .chain o1 o2 a b c, σ, S => (evalE C a σ S).bind fun x S => (evalE C b σ S).bind fun y S => (lift S (cmpop S o1 x y)).bind fun k S => match k with
    | .bl true => (evalE C c σ S).bind fun z S => lift S (cmpop S o2 y z)
    | .bl false => .ok (.bl false) S
    | _ => .bad
  | .ife c a b, σ, S => (evalE C c σ S).bind fun x S => (lift S (truth S x)).bind fun k S => if k then evalE C a σ S else evalE C b σ S
  | .tup es, σ, S => (evalEs C es σ S).bind fun ds S => .ok (.tup ds) S
  | .lst es, σ, S => (evalEs C es σ S).bind fun ds S => .ok (.vl ds) S
  | .new e, σ, S => (evalE C e σ S).bind fun d S => match d with
    | .vl ds => .ok (.ref S.length) (S ++ [.lst ds])
    | _ => .bad
  | .sub a i, σ, S => (evalE C a σ S).bind fun x S => (evalE C i σ S).bind fun y S => lift S (sub S x y)
  | .slice a lo hi, σ, S => (evalE C a σ S).bind fun x S => (evalE C lo σ S).bind fun y S => (evalE C hi σ S).bind fun z S => lift S (slice S x y z)
  | .rev a, σ, S => (evalE C a σ S).bind fun x S => lift S (rev S x)
  | .call f es, σ, S => (evalEs C es σ S).bind fun ds S => C.fn f ds S
  | .callv f es, σ, S => (evalE C f σ S).bind fun x S => match x with
    | .fn i => (evalEs C es σ S).bind fun ds S => C.fn i ds S
    | _ => .bad
  | .bcall f es, σ, S => (evalEs C es σ S).bind fun ds S => lift S (bcall S f ds)
  | .append o e, σ, S => (evalE C o σ S).bind fun x S => match x with
    | .ref n => (evalE C e σ S).bind fun y S => match S[n]? with
      | some (.lst ds) => if ds.length < LINE then .ok .non (S.set n (.lst (ds ++ [y]))) else .bad
      | none => .bad
    | _ => .bad
  | .pop o i, σ, S => (evalE C o σ S).bind fun x S => match x with
    | .ref n => (evalE C i σ S).bind fun y S => match y with
      | .int k => if -(2 ^ 62) ≤ k ∧ k < 2 ^ 62 then (match S[n]? with
        | some (.lst ds) => match natIx ds.length k with
          | some j => match ds[j]? with
            | some d => .ok d (S.set n (.lst (ds.eraseIdx j)))
            | none => .bad
          | none => .bad
        | none => .bad) else .bad
      | _ => .bad
    | _ => .bad
  | .comp own tup tgt sk es ifs elt, σ, S => (evalEs C es σ S).bind fun ds S => match srcOf S sk ds with
    | none => .bad
    | some it => (compL (fun d S => match target (wipe σ own) tup tgt d with
        | none => .bad
        | some σ2 => ((evalE C ifs σ2 S).noexc).bind fun b S => (lift S (truth S b)).bind fun k S =>
            if k then ((evalE C elt σ2 S).noexc).bind fun y S => .ok (some y) S else .ok none S) (fun S => still S it) it.1 S []).bind fun l S => .ok (.vl l) S
  | .thunk, _, S => C.th S
  | .lam f body, σ, S => C.lam f (fun S => evalE C body σ S) S
  | .exf k n, _, S => match C.ex with
    | some x => if x.k = k then lift S (x.fs.lookup n) else .bad
    | none => .bad
  | .ofInt a, σ, S => (evalE C a σ S).bind fun d S => match d with
    | .int i => .ok (.int i) S
    | _ => .bad
  | .sortset e, σ, S => (evalE C e σ S).bind fun x S => lift S ((sortSet S x).map .vl)
  | .sortk f e, σ, S => (evalE C e σ S).bind fun x S => match asLR S x with
    | none => .bad
    | some ds => (keysL (fun d S => C.fn f [d] S) ds S).bind fun ks S => lift S ((sortBy ds ks).map .vl)
def evalEs (C : Ora) : List E → Sig → Store → Res (List D)
  | [], _, S => .ok [] S
  | e :: es, σ, S => (evalE C e σ S).bind fun d S => (evalEs C es σ S).bind fun ds S => .ok (d :: ds) S
end

/-- where a statement leads -/
inductive Out where
  | nx (σ : Sig)
  | ret (d : D)
def forL (step : D → Sig → Store → Res Out) (g : Store → Bool) : List D → Sig → Store → Res Out
  | [], σ, S => if g S then .ok (.nx σ) S else .bad
  | d :: r, σ, S => if g S then (step d σ S).bind fun o S => match o with
      | .nx σ => forL step g r σ S
      | .ret x => .ok (.ret x) S
    else .bad
def whileL (step : Sig → Store → Res (Option Out)) : Nat → Sig → Store → Res Out
  | 0, _, _ => .bad
  | k + 1, σ, S => (step σ S).bind fun o S => match o with
    | none => .ok (.nx σ) S
    | some (.nx σ) => whileL step k σ S
    | some (.ret x) => .ok (.ret x) S
/-- the classes: which is one of which; the names of what they keep -/
structure Cls where
  sub : Nat → Nat → Bool
  keeps : Nat → List Str
mutual
def execS (T : Cls) (C : Ora) : St → Sig → Store → Res Out
  | .asg i e, σ, S => (evalE C e σ S).bind fun d S => .ok (.nx (σ.set i (some d))) S
  | .asgT is e, σ, S => (evalE C e σ S).bind fun d S => (lift S (target σ true is d)).bind fun σ S => .ok (.nx σ) S
  | .par is es, σ, S => (evalEs C es σ S).bind fun ds S => (lift S (setAll σ is ds)).bind fun σ S => .ok (.nx σ) S
  | .seti o i e, σ, S => (evalE C e σ S).bind fun v S => (evalE C o σ S).bind fun x S => (evalE C i σ S).bind fun y S => match x, y with
    | .ref n, .int k => match S[n]? with
      | some (.lst ds) => match natIx ds.length k with
        | some j => .ok (.nx σ) (S.set n (.lst (ds.set j v)))
        | none => .bad
      | none => .bad
    | _, _ => .bad
  | .exp e, σ, S => (evalE C e σ S).bind fun _ S => .ok (.nx σ) S
  | .ret e, σ, S => (evalE C e σ S).bind fun d S => .ok (.ret d) S
  | .ite c a b, σ, S => (evalE C c σ S).bind fun x S => (lift S (truth S x)).bind fun k S => if k then execs T C a σ S else execs T C b σ S
  | .loop tup tgt sk es body, σ, S => (evalEs C es σ S).bind fun ds S => match srcOf S sk ds with
    | none => .bad
    | some it => forL (fun d σ S => match target σ tup tgt d with
        | none => .bad
        | some σ2 => execs T C body σ2 S) (fun S => still S it) it.1 σ S
  | .while c body, σ, S => whileL (fun σ S => (evalE C c σ S).bind fun x S => (lift S (truth S x)).bind fun k S =>
      if k then (execs T C body σ S).bind fun o S => .ok (some o) S else .ok none S) C.turns σ S
  | .raise k es, σ, S => (evalEs C es σ S).bind fun ds S => .exc ⟨k, (T.keeps k).zip ds⟩ S
  | .raisek k f e, σ, S => ((evalE C e σ S).noexc).bind fun d S => (lift S (reprD S d)).bind fun _ S => .exc ⟨k, [(f, d)]⟩ S
  | .tri body hs, σ, S => match execs T C body σ S with
    | .exc x S => handle T C x hs (σ.map fun _ => none) S
    | r => r
  | .pass, σ, S => .ok (.nx σ) S
  | .stuck, _, _ => .bad
def execs (T : Cls) (C : Ora) : List St → Sig → Store → Res Out
  | [], σ, S => .ok (.nx σ) S
  | s :: r, σ, S => (execS T C s σ S).bind fun o S => match o with
    | .nx σ => execs T C r σ S
    | .ret d => .ok (.ret d) S
def handle (T : Cls) (C : Ora) (x : Exn) : List Hd → Sig → Store → Res Out
  | [], _, S => .exc x S
  | .mk k _ body :: r, σ, S => if T.sub x.k k then (execs T { C with ex := some x } body σ S).noexc else handle T C x r σ S
end

structure Fn where
  np : Nat
  ns : Nat
  body : List St
def start (n : Nat) (ds : List D) : Sig := ds.map some ++ List.replicate (n - ds.length) none
def fin : Res Out → Res D
  | .ok (.nx _) S => .ok .non S
  | .ok (.ret d) S => .ok d S
  | .exc x S => .exc x S
  | .bad => .bad
/-- behind a call within a try -/
def lamEnd (T : Cls) (C : Ora) (n : Nat) (hs : List Hd) (rest : List St) (r : Res Out) : Res D := fin ((match r with
  | .exc x S' => handle T C x hs (List.replicate n none) S'
  | r => r).bind fun o S => match o with
    | .nx σ => execs T C rest σ S
    | .ret d => .ok (.ret d) S)
/-- a def that is handed a lambda: it calls it first, within a try -/
def lamRun (T : Cls) (C : Ora) (n : Nat) (body : List St) (th : Store → Res D) (S : Store) : Res D := match body with
  | .tri [.exp .thunk] hs :: rest => lamEnd T C n hs rest ((th S).bind fun _ S => .ok (.nx (List.replicate n none)) S)
  | .tri [.ret .thunk] hs :: rest => lamEnd T C n hs rest ((th S).bind fun d S => .ok (.ret d) S)
  | _ => .bad
def ora0 (fn : Nat → List D → Store → Res D) (W : Nat) : Ora := { fn := fn, lam := fun _ _ _ => .bad, th := fun _ => .bad, ex := none, turns := W }
def ora1 (T : Cls) (Γ : List Fn) (fn : Nat → List D → Store → Res D) (W : Nat) : Ora :=
  { fn := fn, lam := fun g th S => match Γ[g]? with
      | none => .bad
      | some gn => lamRun T (ora0 fn W) gn.ns gn.body th S,
    th := fun _ => .bad, ex := none, turns := W }
/-- the calls to the level k -/
def callF (T : Cls) (Γ : List Fn) (W : Nat) : Nat → Nat → List D → Store → Res D
  | 0, _, _, _ => .bad
  | k + 1, f, ds, S => match Γ[f]? with
    | none => .bad
    | some fn => if ds.length = fn.np then fin (execs T (ora1 T Γ (callF T Γ W k) W) fn.body (start fn.ns ds) S) else .bad
end RA

set_option autoImplicit false
/-! A2: from the program's trees to the interpreter's. -/
namespace RA
open PySem (Str Scope Pos Stmt Expr Operator CmpOp Const NameKind ExceptHandler Comprehension Keyword)

/-- what is known where a tree stands -/
structure Cc where
  /-- the slots -/
  N : List Str
  sc : Scope
  /-- the defs, the constants, the exceptions' classes of the module -/
  fns : List (Str × Nat)
  cons : List (Str × D)
  clss : List (Str × Nat)
  /-- the defs that are handed a lambda -/
  lams : List (Str × Nat)
  /-- where lists are made that will change -/
  news : List (Nat × Nat)
  /-- names that may be set -/
  fn : Str → Bool
  /-- a def's body, a comprehension's block (not an except's suite) -/
  calm : Bool
  /-- a def's body -/
  top : Bool
  /-- the exceptions' classes that keep what they are given: number and field -/
  kcls : List (Str × Nat × Str) := []

def okName (x : Str) : Bool := !(x == ("__debug__" : Str)) && !(x == ("__classdict__" : Str)) && !(x == ("__name__" : Str))
def seen (sc : Scope) (x : Str) : Bool := match sc.names.lookup x with
  | some .local => true
  | some .cell => true
  | some .free => true
  | _ => false
def slotIn (N : List Str) (x : Str) : Option Nat := match N.findIdx? (· == x) with
  | some i => if N[i]? = some x then some i else none
  | none => none
def slotOf (c : Cc) (x : Str) : Option Nat := if okName x && seen c.sc x then slotIn c.N x else none
def isLoc (sc : Scope) (x : Str) : Bool := match sc.names.lookup x with
  | some .local => true
  | some .cell => true
  | _ => false
def plainLoc (sc : Scope) (x : Str) : Bool := match sc.names.lookup x with
  | some .local => true
  | _ => false
/-- a name that may be set -/
def setOf (c : Cc) (x : Str) : Option Nat := if isLoc c.sc x && (c.fn x || plainLoc c.sc x) then slotIn c.N x else none
def isGlob (sc : Scope) (x : Str) : Bool := match sc.names.lookup x with
  | some .globalImplicit => true
  | _ => false
def bltOf (x : Str) : Option BF :=
  if x = "len" then some .len else if x = "abs" then some .abs else if x = "max" then some .max else if x = "min" then some .min else if x = "sum" then some .sum
  else if x = "all" then some .all else if x = "any" then some .any else if x = "tuple" then some .tuple else if x = "list" then some .list else if x = "int" then some .int
  else if x = "str" then some .str else if x = "repr" then some .repr else if x = "isinstance" then some .isinst else none
/-- the built-in names that no program here has for its own -/
def freeNames : List Str := ["len", "abs", "max", "min", "sum", "all", "any", "tuple", "list", "int", "str", "repr", "isinstance", "bool", "dict", "range", "zip", "enumerate", "sorted", "set", "super"]
def isFree (x : Str) : Bool := freeNames.contains x
def tyName (x : Str) : Option String :=
  if x = "int" then some "int" else if x = "str" then some "str" else if x = "bool" then some "bool" else if x = "tuple" then some "tuple" else if x = "list" then some "list" else if x = "dict" then some "dict" else none
def bopOf : Operator → Option BOp
  | .Add => some .add
  | .Sub => some .sub
  | .Mult => some .mul
  | .FloorDiv => some .fdiv
  | .Mod => some .mod
  | .Pow => some .pow
  | _ => none
def copOf : CmpOp → COp
  | .Eq => .eq
  | .NotEq => .ne
  | .Lt => .lt
  | .LtE => .le
  | .Gt => .gt
  | .GtE => .ge
  | .Is => .is
  | .IsNot => .isn
  | .In => .isin
  | .NotIn => .nin
def isNew (c : Cc) (p : Pos) : Bool := c.news.any fun q => q.1 == p.line && q.2 == p.col
/-- a list that is made at p -/
def made (c : Cc) (p : Pos) (e : E) : E := if isNew c p then .new e else e
def isSet : Expr → Bool
  | .Set .. => true
  | _ => false
def isStar : Expr → Bool
  | .Starred .. => true
  | _ => false
def isTuple : Expr → Bool
  | .Tuple .. => true
  | _ => false
def isSlice : Expr → Bool
  | .Slice .. => true
  | .Tuple .. => true
  | _ => false
def isName : Expr → Bool
  | .Name .. => true
  | .Subscript .. => true
  | _ => false
def noTest : Expr → Bool
  | .IfExp .. => true
  | _ => false
def isOneRev : Option Expr → Option Expr → Option Expr → Bool
  | none, none, some (.UnaryOp .USub (.Constant (.int i) _ _) _) => i == 1
  | _, _, _ => false
def ownOf (N : List Str) (scope : Scope) : List (Str × Nat) := scope.names.filterMap fun (n, k) => match k with
  | .local => (slotIn N n).map fun i => (n, i)
  | .cell => (slotIn N n).map fun i => (n, i)
  | _ => none
def ownIx (N : List Str) (scope : Scope) : List Nat := (ownOf N scope).map Prod.snd
def blkCc (c : Cc) (scope : Scope) : Cc := { c with sc := L2.relS scope c.sc, fn := fun x => scope.names.lookup x == some .cell, top := false }
def lamCc (c : Cc) (scope : Scope) : Cc := { c with sc := scope, fn := fun _ => false, top := false }
def cName (c : Cc) (x : Str) : Option E := match slotOf c x with
  | some i => some (.var i)
  | none => if okName x && isGlob c.sc x then (match c.cons.lookup x with
    | some d => some (.con d)
    | none => match c.fns.lookup x with
      | some i => some (.con (.fn i))
      | none => (tyName x).map fun t => .con (.ty t)) else none
def cConst : Const → Option D
  | .int i => some (.int i)
  | .str s => some (.str s)
  | .bool b => some (.bl b)
  | .none => some .non
  | _ => none
/-- the names of a target -/
def cNames (c : Cc) : List Expr → Option (List Nat)
  | [] => some []
  | .Name x _ :: r => (setOf c x).bind fun i => (cNames c r).map fun l => i :: l
  | _ => none
def cTarget (c : Cc) : Expr → Option (Bool × List Nat)
  | .Name x _ => (setOf c x).map fun i => (false, [i])
  | .Tuple es _ _ => if c.calm then (cNames c es).map fun l => (true, l) else none
  | _ => none
def nodup : List Str → Bool
  | [] => true
  | x :: r => !r.contains x && nodup r
def noParams : PySem.Arguments → Bool
  | ⟨[], [], none, [], [], none, []⟩ => true
  | _ => false
def boolE : PySem.BoolOp → E → E → E
  | .And, x, y => .and x y
  | .Or, x, y => .or x y
/-- sorted(set(a)) -/
def setArg (x : Str) : List Expr → Option Expr
  | [.Call (.Name y _) [a] [] _] => if x = "sorted" && y = "set" then some a else none
  | _ => none
mutual
def cE : Nat → Cc → Expr → Option E
  | 0, _, _ => none
  | n + 1, c, e => match e with
    | .Name x _ => cName c x
    | .Constant k _ _ => (cConst k).map .con
    | .BinOp a op b pos => (bopOf op).bind fun o => (cE n c a).bind fun x => (cE n c b).bind fun y => if isNew c pos then (if o = .add || o = .mul then some (.new (.bin o x y)) else none) else some (.bin o x y)
    | .UnaryOp op a _ => match op with
      | .Not => (cE n c a).bind fun x => if noTest a then none else some (.not x)
      | .USub => (cE n c a).map .neg
      | _ => none
    | .BoolOp op vs _ => cB n c op vs
    | .IfExp t a b _ => if noTest t then none else (cE n c t).bind fun x => (cE n c a).bind fun y => (cE n c b).map fun z => .ife x y z
    | .Compare a ops bs _ => match ops, bs with
      | [op], [b] => if isSet b then none else (cE n c a).bind fun x => (cE n c b).map fun y => .cmp (copOf op) x y
      | [o1, o2], [b, d] => if isSet b || isSet d then none else (cE n c a).bind fun x => (cE n c b).bind fun y => (cE n c d).map fun z => .chain (copOf o1) (copOf o2) x y z
      | _, _ => none
    | .Tuple es _ _ => if es.any isStar then cStars n c es else if es.length ≤ 1000 then (cEs n c es).map .tup else none
    | .List es pos => if es.length ≤ 1000 then (cEs n c es).map fun l => made c pos (.lst l) else none
    | .Subscript a i _ => match i with
      | .Slice lo hi st _ => if isOneRev lo hi st then (cE n c a).map .rev else match st with
        | none => (cE n c a).bind fun x => (cO n c lo).bind fun y => (cO n c hi).map fun z => .slice x y z
        | _ => none
      | i => if isSlice i then none else (cE n c a).bind fun x => (cE n c i).map fun y => .sub x y
    | .Call f es ks pos => match ks with
      | [] => match f with
        | .Name x _ => match setArg x es with
          | some a => if isGlob c.sc "sorted" && isGlob c.sc "set" && !isStar a && c.calm then (cE n c a).map fun z => made c pos (.sortset z) else none
          | none => cCall n c x es pos
        | .Attribute o x apos => match es with
          | [e] => if isName o && !isStar e && (apos.endLine == pos.line) && c.calm then (cE n c o).bind fun a => (cE n c e).bind fun b => if x = "append" then some (.append a b) else if x = "pop" then some (.pop a b) else none else none
          | _ => none
        | _ => none
      | [⟨some q, .Name y _, _⟩] => match f, es with
        | .Name x _, [e] => if x = "sorted" && q = "key" && isGlob c.sc x && isGlob c.sc y && okName y && !isStar e && c.calm then (c.fns.lookup y).bind fun i => (cE n c e).map fun z => made c pos (.sortk i z) else none
        | _, _ => none
      | _ => none
    | .ListComp elt gs scope pos => (cL n c elt gs scope).map (made c pos)
    | .Dict ks vs _ => match ks, vs with
      | [], [] => some (.con (.vd [] []))
      | _, _ => none
    | _ => none
def cB : Nat → Cc → PySem.BoolOp → List Expr → Option E
  | 0, _, _, _ => none
  | n + 1, c, op, vs => match vs with
    | [a] => if noTest a then none else cE n c a
    | a :: b :: r => if noTest a then none else (cE n c a).bind fun x => (cB n c op (b :: r)).map fun y => boolE op x y
    | _ => none
def cEs : Nat → Cc → List Expr → Option (List E)
  | 0, _, _ => none
  | n + 1, c, es => match es with
    | [] => some []
    | e :: r => if isStar e then none else (cE n c e).bind fun x => (cEs n c r).map fun l => x :: l
/-- the items of a tuple, some of them starred -/
def cStars : Nat → Cc → List Expr → Option E
  | 0, _, _ => none
  | n + 1, c, es => match es with
    | [] => some (.tup [])
    | .Starred e _ :: r => (cE n c e).bind fun x => (cStars n c r).map fun y => .bin .add (.bcall .tuple [x]) y
    | e :: r => if isStar e then none else (cE n c e).bind fun x => (cStars n c r).map fun y => .bin .add (.tup [x]) y
def cO : Nat → Cc → Option Expr → Option E
  | 0, _, _ => none
  | n + 1, c, o => match o with
    | none => some (.con .non)
    | some e => (cE n c e).map .ofInt
def cCall : Nat → Cc → Str → List Expr → Pos → Option E
  | 0, _, _, _, _ => none
  | n + 1, c, x, es, pos => if !okName x then none else match es with
    | [] => none
    | [.Lambda ps body scope _] => if c.top && isGlob c.sc x && noParams ps && LamX.lamSB c.sc scope then (c.lams.lookup x).bind fun i => (cE n (lamCc c scope) body).map fun b => .lam i b else none
    | e :: r => if !c.calm && !(x = "repr" || x = "str") then none else match slotOf c x with
      | some i => if c.calm then (cEs n c (e :: r)).map fun l => .callv (.var i) l else none
      | none => if isGlob c.sc x then (match c.fns.lookup x with
        | some i => if c.calm then (cEs n c (e :: r)).map fun l => .call i l else none
        | none => (bltOf x).bind fun f => (cEs n c (e :: r)).bind fun l => if isNew c pos then (if f = .list then some (.new (.bcall f l)) else none) else some (.bcall f l)) else none
def cI : Nat → Cc → Bool → Expr → Option (SK × List E)
  | 0, _, _, _ => none
  | n + 1, c, tp, e => match e with
    | .Call (.Name x _) [a] [] _ => if x = "range" && isGlob c.sc x && !isStar a then (cE n c a).map fun y => (.rng1, [y]) else if x = "enumerate" && isGlob c.sc x && !isStar a && tp then (cE n c a).map fun y => (.enum, [y]) else (cE n c e).map fun y => (.val, [y])
    | .Call (.Name x _) [a, b] [] _ => if x = "range" && isGlob c.sc x && !isStar a && !isStar b then (cE n c a).bind fun y => (cE n c b).map fun z => (.rng2, [y, z]) else if x = "zip" && isGlob c.sc x && !isStar a && !isStar b && tp then (cE n c a).bind fun y => (cE n c b).map fun z => (.zip, [y, z]) else (cE n c e).map fun y => (.val, [y])
    | .Set .. => none
    | e => (cE n c e).map fun y => (.val, [y])
def cL : Nat → Cc → Expr → List Comprehension → Scope → Option E
  | 0, _, _, _, _ => none
  | n + 1, c, elt, gs, scope => if !c.calm then none else match gs with
    | [⟨tg, iter, ifs, 0⟩] => (cI n c (isTuple tg) iter).bind fun (it : SK × List E) => if L2.blkC c.N c.sc scope (ownOf c.N scope) then (cTarget (blkCc c scope) tg).bind fun (t : Bool × List Nat) =>
        if t.2.all (fun i => (ownIx c.N scope).contains i) then (match ifs with
          | [] => some (E.con (.bl true))
          | [t] => if noTest t then none else cE n (blkCc c scope) t
          | _ => none).bind fun (f : E) => (cE n (blkCc c scope) elt).map fun y => .comp (ownIx c.N scope) t.1 t.2 it.1 it.2 f y else none
      else none
    | _ => none
end
def isComp : Expr → Bool
  | .ListComp .. => true
  | .SetComp .. => true
  | .DictComp .. => true
  | _ => false
/-- a comprehension goes to the name x at p within the line -/
def swaps (c : Cc) (x : Str) (p : Pos) : Expr → Bool
  | .ListComp _ _ scope pos => (match c.sc.kind with | .function => true | _ => false) && plainLoc c.sc x && (p.line == pos.line) && !(scope.names.any fun (n, k) => n == x && (k == .local || k == .cell))
  | _ => false
def suiteCc (c : Cc) : Cc := { c with calm := false, top := false }
/-- X('..') -/
def cRaise (c : Cc) : Expr → Option Nat
  | .Call (.Name x _) [.Constant (.str _) _ _] [] _ => if okName x && isGlob c.sc x then c.clss.lookup x else none
  | _ => none
/-- X(e), X keeps e -/
def keepOf (c : Cc) : Expr → Option ((Nat × Str) × Expr)
  | .Call (.Name x _) [e] [] _ => if okName x && isGlob c.sc x && !isStar e then (c.kcls.lookup x).map fun kf => (kf, e) else none
  | _ => none
/-- a, b = x, y: the stores are swapped -/
def parGood (c : Cc) (x y : Str) (px py : Pos) (vs : List Expr) : Bool := plainLoc c.sc x && plainLoc c.sc y && !(x == y) && (px.line == py.line) && (match c.sc.kind with | .function => true | _ => false) &&
  !(vs.any isStar) && !(vs.all (PySem.foldedForSure 8)) && !(vs.all (PySem.constantsAlone 8))
/-- a, b, c = x, y, z -/
def parGood3 (c : Cc) (x y z : Str) (px py pz : Pos) (vs : List Expr) : Bool := plainLoc c.sc x && plainLoc c.sc y && plainLoc c.sc z && !(x == y) && !(x == z) && !(y == z) && (px.line == py.line) && (px.line == pz.line) && (match c.sc.kind with | .function => true | _ => false) &&
  !(vs.any isStar) && !(vs.all (PySem.foldedForSure 8)) && !(vs.all (PySem.constantsAlone 8))
def oneOf : List Expr → Option Expr
  | [t] => some t
  | _ => none
def eltsOf : Expr → List Expr
  | .Tuple vs _ _ => vs
  | _ => []
def cPar (n : Nat) (c : Cc) : List Expr → List Expr → Option St
  | [.Name x px, .Name y py], [a, b] => if parGood c x y px py [a, b] && c.calm then (setOf c x).bind fun i => (setOf c y).bind fun j => (cEs n c [a, b]).map fun l => .par [i, j] l else none
  | [.Name x px, .Name y py, .Name z pz], [a, b, d] => if parGood3 c x y z px py pz [a, b, d] && c.calm then (setOf c x).bind fun i => (setOf c y).bind fun j => (setOf c z).bind fun l => (cEs n c [a, b, d]).map fun r => .par [i, j, l] r else none
  | _, _ => none
/-- a name of these is no plain local: the stores are not swapped -/
def anyCell (c : Cc) (ts : List Expr) : Bool := ts.any fun t => match t with
  | .Name x _ => !plainLoc c.sc x
  | _ => false
def cAsg (n : Nat) (c : Cc) (t e : Expr) : Option St := match t with
  | .Name x p => if isComp e && !swaps c x p e then none else (setOf c x).bind fun i => (cE n c e).map fun v => .asg i v
  | .Tuple ts k q => if isTuple e && !anyCell c ts then cPar n c ts (eltsOf e) else if isComp e then none else (cTarget c (.Tuple ts k q)).bind fun t => (cE n c e).map fun v => .asgT t.2 v
  | .Subscript o i _ => if isComp e || isSlice i then none else (cE n c e).bind fun v => (cE n c o).bind fun x => (cE n c i).map fun y => .seti x y v
  | _ => none
mutual
def cS : Nat → Cc → Stmt → Option St
  | 0, _, _ => none
  | n + 1, c, s => match s with
    | .Assign ts e _ => (oneOf ts).bind fun t => cAsg n c t e
    | .Expr e _ => if isComp e then none else (cE n c e).map .exp
    | .Return o _ => match o with
      | none => some (.ret (.con .non))
      | some e => (cE n c e).map .ret
    | .If t a b _ => if noTest t then none else (cE n c t).bind fun x => (cSs n c a).bind fun y => (cSs n c b).map fun z => .ite x y z
    | .For tg iter body orelse _ => match orelse with
      | [] => if c.calm then (cI n c (isTuple tg) iter).bind fun (it : SK × List E) => (cTarget c tg).bind fun (t : Bool × List Nat) => (cSs n c body).map fun b => .loop t.1 t.2 it.1 it.2 b else none
      | _ => none
    | .While t body orelse _ => match orelse with
      | [] => if noTest t then none else if c.calm then (cE n c t).bind fun x => (cSs n c body).map fun b => .while x b else none
      | _ => none
    | .Raise (some e) none _ => if c.calm then (match cRaise c e with
      | some k => some (.raise k [])
      | none => (keepOf c e).bind fun q => (cE n c q.2).map fun v => .raisek q.1.1 q.1.2 v) else none
    | .Try body hds orelse fin _ => match orelse, fin with
      | [], [] => if c.top && c.calm then (cSs n { c with top := false } body).bind fun b => (cHs n c hds).bind fun l => match l with | [] => none | _ => some (.tri b l) else none
      | _, _ => none
    | .Pass _ => some .pass
    | _ => none
def cSs : Nat → Cc → List Stmt → Option (List St)
  | 0, _, _ => none
  | n + 1, c, ss => match ss with
    | [] => some []
    | s :: r => (cSs n c r).map fun l => (cS n c s).getD .stuck :: l
def cHs : Nat → Cc → List ExceptHandler → Option (List Hd)
  | 0, _, _ => none
  | n + 1, c, hs => match hs with
    | [] => some []
    | .ExceptHandler (some (.Name x _)) none (b :: body) _ :: r => if okName x && isGlob c.sc x then (c.clss.lookup x).bind fun k => (cSs n (suiteCc c) (b :: body)).bind fun y => (cHs n c r).map fun l => .mk k none y :: l else none
    | .ExceptHandler (some (.Name x _)) (some v) [.Return (some (.BinOp (.Constant (.str w) _ _) .Add (.Call (.Name g _) [.Attribute (.Name v' _) f _] [] _) _)) _] _ :: r =>
      if okName x && isGlob c.sc x && decide (g = "repr") && isGlob c.sc g && decide (v' = v) && okName v && plainLoc c.sc v then (c.kcls.lookup x).bind fun kf => if kf.2 = f then (slotIn c.N v).bind fun i => (cHs n c r).map fun l => .mk kf.1 (some i) [.ret (.bin .add (.con (.str w)) (.bcall .repr [.exf kf.1 f]))] :: l else none else none
    | _ => none
end
/-- the body of a def that is handed a lambda as a -/
def cLam (n : Nat) (c : Cc) (a : Str) : List Stmt → Option (List St)
  | .Try [.Expr (.Call (.Name x _) [] [] _) _] hds [] [] _ :: rest => if x = a ∧ hds ≠ [] then (cHs n c hds).bind fun l => (cSs n c rest).map fun r => .tri [.exp .thunk] l :: r else none
  | .Try [.Return (some (.Call (.Name x _) [] [] _)) _] hds [] [] _ :: rest => if x = a ∧ hds ≠ [] then (cHs n c hds).bind fun l => (cSs n c rest).map fun r => .tri [.ret .thunk] l :: r else none
  | _ => none
end RA

set_option Elab.async false
set_option linter.all false
set_option maxRecDepth 100000
set_option maxHeartbeats 4000000
set_option autoImplicit false
/-! B1: how values of the interpreter stand in the heap of the hand layer. -/
namespace RA
open PySem L2 LamX

/-- a list of the written part -/
def KL (K : PySem.W.Frag) (a : Addr) (xs : List V) : Prop :=
  ∃ (o : Obj) (its : Array Value) (n : Nat), K.lookup a = some o ∧ o.cls = .type "list" ∧ o.dict = none ∧ o.data = .seq its n ∧ its.size ≤ sizeLine ∧ Vals xs its.toList

/-- where the store's things stand; what no value may lead to (a list that is being made) -/
structure Mm where
  l : List Addr
  b : List Addr
def Mm.out (m : Mm) (a : Addr) : Prop := a ∉ m.l ∧ a ∉ m.b

/-- what is fixed: the written part, the tables of code objects, the addresses of the defs, of the exceptions' classes -/
structure Gd where
  K : PySem.W.Frag
  T : List (Addr × Str)
  FA : Nat → Option Addr
  CA : Nat → Option Addr

section
variable (G : Gd)
mutual
inductive VR (m : Mm) (H : Hp) : V → D → Prop where
  | non : VR m H .non .non
  | bl (b : Bool) : VR m H (.bl b) (.bl b)
  | int (i : Int) : VR m H (.int i) (.int i)
  | str (s : Str) : VR m H (.str s) (.str s)
  | tup {a : Addr} {xs : List V} {ds : List D} : SqT G.K H a xs → VRs m H xs ds → VR m H (.ref a) (.tup ds)
  | vl {a : Addr} {xs : List V} {ds : List D} : H a = some (.lst xs) → m.out a → VRs m H xs ds → VR m H (.ref a) (.vl ds)
  | ro {a : Addr} {xs : List V} {ds : List D} : (Rd H a (.lst xs) ∧ m.out a) ∨ KL G.K a xs → VRs m H xs ds → VR m H (.ref a) (.ro ds)
  | vd {a : Addr} {kvs : List (Key × V)} {ks vs : List D} : Rd H a (.dK kvs) → m.out a → VRs m H (kvs.map fun p => kV p.1) ks → VRs m H (kvs.map (·.2)) vs → VR m H (.ref a) (.vd ks vs)
  | ref {n : Nat} {a : Addr} : m.l[n]? = some a → VR m H (.ref a) (.ref n)
  | fn {i : Nat} {f : Addr} : G.FA i = some f → VR m H (.ref f) (.fn i)
  | ty (n : String) : VR m H (.ty n) (.ty n)
inductive VRs (m : Mm) (H : Hp) : List V → List D → Prop where
  | nil : VRs m H [] []
  | cons {x : V} {d : D} {xs : List V} {ds : List D} : VR m H x d → VRs m H xs ds → VRs m H (x :: xs) (d :: ds)
end
end

/-- the store stands in the heap -/
structure Cf (G : Gd) (m : Mm) (S : Store) (H : Hp) : Prop where
  len : m.l.length = S.length
  nd : m.l.Nodup
  at_ : ∀ (n : Nat) (ds : List D), S[n]? = some (.lst ds) → ∃ a xs, m.l[n]? = some a ∧ H a = some (.lst xs) ∧ VRs G m H xs ds
  bn : ∀ a ∈ m.b, ∃ xs, H a = some (.lst xs)
  tabs : Tabs G.T H
/-- all but a table of code objects -/
def NoTbl (o : HO) : Prop := ∀ ps, o ≠ .tbl ps
/-- free, but for a table -/
def Fr (H : Hp) (a : Addr) : Prop := ∀ o, H a = some o → ∃ ps, o = .tbl ps
theorem Fr.of {H : Hp} {a : Addr} (h : H a = none) : Fr H a := fun o e => by rw [h] at e; cases e
theorem Fr.no {H : Hp} {a : Addr} {o : HO} (h : Fr H a) (e : H a = some o) (n : NoTbl o) : False := by
  obtain ⟨ps, z⟩ := h o e
  exact n ps z
/-- what may have happened: new things; the store's own things changed -/
structure Stp (m : Mm) (H : Hp) (m' : Mm) (H' : Hp) : Prop where
  more : ∃ t, m'.l = m.l ++ t ∧ ∀ a ∈ t, Fr H a
  ban : m'.b = m.b
  keep : ∀ a o, H a = some o → NoTbl o → a ∉ m.l → H' a = some o
  there : ∀ a, Fr H' a → Fr H a
/-- the frame's values -/
structure SR (G : Gd) (m : Mm) (H : Hp) (σ : L2.St) (τ : Sig) : Prop where
  len : σ.length = τ.length
  at_ : ∀ (i : Nat) (d : D), τ[i]? = some (some d) → ∃ v, σ[i]? = some (some v) ∧ VR G m H v d
/-- an exception -/
def ER (G : Gd) (m : Mm) (H : Hp) (cls : Value) (dd : Option Addr) (x : Exn) : Prop :=
  ∃ c, G.CA x.k = some c ∧ cls = .ref c ∧ ((x.fs = [] ∧ dd = none) ∨ ∃ d fs, dd = some d ∧ H d = some (.xd fs) ∧ ∀ n v, x.fs.lookup n = some v → ∃ u, fs.lookup n = some u ∧ VR G m H u v)

variable {G : Gd} {m m' m1 m2 : Mm} {S S' S1 : Store} {H H' H1 H2 : Hp} {σ σ' : L2.St} {τ τ' : Sig}

theorem NoTbl.lst {xs : List V} : NoTbl (.lst xs) := fun _ z => by cases z
theorem NoTbl.tup {xs : List V} : NoTbl (.tup xs) := fun _ z => by cases z
theorem NoTbl.dK {xs : List (Key × V)} : NoTbl (.dK xs) := fun _ z => by cases z
theorem NoTbl.xd {xs : List (Str × V)} : NoTbl (.xd xs) := fun _ z => by cases z
theorem NoTbl.frz {o : Obj} {u : HO} : NoTbl (.frz o u) := fun _ z => by cases z
/-- a tracked thing that is no table and no code object changes, or comes -/
theorem tabs_upd {T : List (Addr × Str)} {H : Hp} {a : Addr} {o : HO} (t : Tabs T H) (ha : H a = none ∨ ∃ xs, H a = some (.lst xs)) : Tabs T (upd H a o) := fun p hp => by
  obtain ⟨ps, h1, h2, h3⟩ := t p hp
  have ne : ∀ b u, H b = some u → (∀ xs, u ≠ .lst xs) → b ≠ a := fun b u e n z => by
    subst z
    rcases ha with ha | ⟨xs, ha⟩
    · rw [ha] at e; cases e
    · rw [ha] at e; exact n xs (Option.some.inj e).symm
  refine ⟨ps, by rw [upd_ne (ne _ _ h1 fun _ z => by cases z)]; exact h1, h2, fun pos cv e => ?_⟩
  obtain ⟨c, e1, e2⟩ := h3 pos cv e
  exact ⟨c, e1, by rw [upd_ne (ne _ _ e2 fun _ z => by unfold CodeO at z; cases z)]; exact e2⟩
theorem Stp.refl : Stp m H m H := ⟨⟨[], by simp, fun _ h => nomatch h⟩, rfl, fun _ _ h _ _ => h, fun _ h => h⟩
theorem Stp.trans (a : Stp m H m1 H1) (b : Stp m1 H1 m2 H2) : Stp m H m2 H2 := by
  obtain ⟨⟨t, e, f⟩, b1, k, h⟩ := a
  obtain ⟨⟨u, e', f'⟩, b2, k', h'⟩ := b
  refine ⟨⟨t ++ u, by rw [e', e, List.append_assoc], fun a ha => ?_⟩, b2.trans b1, fun a o h1 hn hm => ?_, fun a z => h a (h' a z)⟩
  · rcases List.mem_append.mp ha with z | z
    · exact f a z
    · exact h a (f' a z)
  · refine k' a o (k a o h1 hn hm) hn fun z => ?_
    rw [e] at z
    rcases List.mem_append.mp z with z | z
    · exact hm z
    · exact (f a z).no h1 hn
theorem Stp.notin (st : Stp m H m' H') {a : Addr} {o : HO} (h : H a = some o) (hn : NoTbl o) (hm : a ∉ m.l) : a ∉ m'.l := by
  obtain ⟨t, e, f⟩ := st.more
  rw [e]
  intro z
  rcases List.mem_append.mp z with z | z
  · exact hm z
  · exact (f a z).no h hn
theorem Stp.out (st : Stp m H m' H') {a : Addr} {o : HO} (h : H a = some o) (hn : NoTbl o) (hm : m.out a) : m'.out a := ⟨st.notin h hn hm.1, by rw [st.ban]; exact hm.2⟩
theorem Stp.at_ (st : Stp m H m' H') {n : Nat} {a : Addr} (h : m.l[n]? = some a) : m'.l[n]? = some a := by
  obtain ⟨t, e, _⟩ := st.more
  rw [e, List.getElem?_append_left (List.getElem?_eq_some_iff.mp h).1]; exact h
/-- what a place of the store is -/
theorem Cf.of_mem (c : Cf G m S H) {a : Addr} (h : a ∈ m.l) : ∃ xs, H a = some (.lst xs) := by
  obtain ⟨n, hn, e⟩ := List.mem_iff_getElem.mp h
  have hs : n < S.length := c.len ▸ hn
  cases q : S[n] with
  | lst ds =>
    obtain ⟨b, xs, e1, e2, _⟩ := c.at_ n ds (by rw [List.getElem?_eq_getElem hs, q])
    rw [List.getElem?_eq_getElem hn, e] at e1
    cases e1
    exact ⟨xs, e2⟩
theorem Cf.tup_notin (c : Cf G m S H) {a : Addr} {xs : List V} (h : Rd H a (.tup xs)) : a ∉ m.l := fun z => by
  obtain ⟨ys, e⟩ := c.of_mem z
  rcases h with h | ⟨o, h⟩ <;> (rw [h] at e; cases e)
theorem Rd.step {a : Addr} {o : HO} (st : Stp m H m' H') (h : Rd H a o) (hn : NoTbl o) (hm : a ∉ m.l) : Rd H' a o := by
  rcases h with h | ⟨u, h⟩
  · exact .inl (st.keep _ _ h hn hm)
  · exact .inr ⟨u, st.keep _ _ h NoTbl.frz hm⟩
theorem Rd.out {a : Addr} {o : HO} (st : Stp m H m' H') (h : Rd H a o) (hn : NoTbl o) (hm : m.out a) : m'.out a := by
  rcases h with h | ⟨u, h⟩
  · exact st.out h hn hm
  · exact st.out h NoTbl.frz hm
theorem SqT.step {a : Addr} {xs : List V} (c : Cf G m S H) (st : Stp m H m' H') (h : SqT G.K H a xs) : SqT G.K H' a xs := by
  rcases h with h | h
  · exact .inl (Rd.step st h NoTbl.tup (c.tup_notin h))
  · exact .inr h
mutual
theorem VR.step (c : Cf G m S H) (st : Stp m H m' H') : ∀ {v : V} {d : D}, VR G m H v d → VR G m' H' v d
  | _, _, .non => .non
  | _, _, .bl b => .bl b
  | _, _, .int i => .int i
  | _, _, .str s => .str s
  | _, _, .tup h r => .tup (SqT.step c st h) (VRs.step c st r)
  | _, _, .vl h hm r => .vl (st.keep _ _ h NoTbl.lst hm.1) (st.out h NoTbl.lst hm) (VRs.step c st r)
  | _, _, .ro h r => .ro (by
      rcases h with ⟨h, hm⟩ | h
      · exact .inl ⟨Rd.step st h NoTbl.lst hm.1, Rd.out st h NoTbl.lst hm⟩
      · exact .inr h) (VRs.step c st r)
  | _, _, .vd h hm r q => .vd (Rd.step st h NoTbl.dK hm.1) (Rd.out st h NoTbl.dK hm) (VRs.step c st r) (VRs.step c st q)
  | _, _, .ref h => .ref (st.at_ h)
  | _, _, .fn h => .fn h
  | _, _, .ty n => .ty n
theorem VRs.step (c : Cf G m S H) (st : Stp m H m' H') : ∀ {vs : List V} {ds : List D}, VRs G m H vs ds → VRs G m' H' vs ds
  | _, _, .nil => .nil
  | _, _, .cons a b => .cons (VR.step c st a) (VRs.step c st b)
end
theorem SR.step (c : Cf G m S H) (st : Stp m H m' H') (r : SR G m H σ τ) : SR G m' H' σ τ := ⟨r.len, fun i d h => by
  obtain ⟨v, e, q⟩ := r.at_ i d h
  exact ⟨v, e, q.step c st⟩⟩
theorem VRs.length : ∀ {vs : List V} {ds : List D}, VRs G m H vs ds → vs.length = ds.length
  | _, _, .nil => rfl
  | _, _, .cons _ t => by rw [List.length_cons, List.length_cons, VRs.length t]
theorem VRs.get : ∀ {vs : List V} {ds : List D} {i : Nat} {d : D}, VRs G m H vs ds → ds[i]? = some d → ∃ v, vs[i]? = some v ∧ VR G m H v d
  | _, _, _, _, .nil, e => by simp at e
  | _, _, 0, _, .cons r _, e => by simp at e; subst e; exact ⟨_, rfl, r⟩
  | _, _, i + 1, _, .cons _ t, e => by
    obtain ⟨u, h1, h2⟩ := VRs.get (i := i) t (by simpa using e)
    exact ⟨u, by simpa using h1, h2⟩
theorem VRs.append : ∀ {vs ws : List V} {ds es : List D}, VRs G m H vs ds → VRs G m H ws es → VRs G m H (vs ++ ws) (ds ++ es)
  | _, _, _, _, .nil, s => s
  | _, _, _, _, .cons r t, s => .cons r (VRs.append t s)
theorem VRs.set {x : V} {d : D} (r : VR G m H x d) : ∀ {xs : List V} {ds : List D} (i : Nat), VRs G m H xs ds → VRs G m H (xs.set i x) (ds.set i d)
  | _, _, _, .nil => .nil
  | _, _, 0, .cons _ t => .cons r t
  | _, _, i + 1, .cons q t => .cons q (VRs.set r i t)
theorem VRs.eraseIdx : ∀ {xs : List V} {ds : List D} (i : Nat), VRs G m H xs ds → VRs G m H (xs.eraseIdx i) (ds.eraseIdx i)
  | _, _, _, .nil => .nil
  | _, _, 0, .cons _ t => t
  | _, _, i + 1, .cons q t => .cons q (VRs.eraseIdx i t)
theorem VRs.take : ∀ {xs : List V} {ds : List D} (n : Nat), VRs G m H xs ds → VRs G m H (xs.take n) (ds.take n)
  | _, _, 0, _ => .nil
  | _, _, _ + 1, .nil => .nil
  | _, _, n + 1, .cons r t => .cons r (VRs.take n t)
theorem VRs.drop : ∀ {xs : List V} {ds : List D} (n : Nat), VRs G m H xs ds → VRs G m H (xs.drop n) (ds.drop n)
  | _, _, 0, r => r
  | _, _, _ + 1, .nil => .nil
  | _, _, n + 1, .cons _ t => VRs.drop n t
theorem VRs.reverse : ∀ {xs : List V} {ds : List D}, VRs G m H xs ds → VRs G m H xs.reverse ds.reverse
  | _, _, .nil => .nil
  | _, _, .cons r t => by rw [List.reverse_cons, List.reverse_cons]; exact (VRs.reverse t).append (.cons r .nil)
theorem VRs.ints_of : ∀ {vs : List V} {ds : List D} {l : List Int}, VRs G m H vs ds → intsOf ds = some l → vs = l.map V.int
  | _, _, _, .nil, e => by cases e; rfl
  | _, _, l, .cons (xs := xs) (ds := ds) r t, e => by
    cases r with
    | int i =>
      unfold intsOf at e
      cases q : intsOf ds with
      | none => rw [q] at e; cases e
      | some r => rw [q] at e; cases e; rw [List.map_cons, ← VRs.ints_of t q]
    | _ => cases e
theorem VRs.bools_of : ∀ {vs : List V} {ds : List D} {l : List Bool}, VRs G m H vs ds → boolsOf ds = some l → vs = l.map V.bl
  | _, _, _, .nil, e => by cases e; rfl
  | _, _, l, .cons (xs := xs) (ds := ds) r t, e => by
    cases r with
    | bl i =>
      unfold boolsOf at e
      cases q : boolsOf ds with
      | none => rw [q] at e; cases e
      | some r => rw [q] at e; cases e; rw [List.map_cons, ← VRs.bools_of t q]
    | _ => cases e
theorem VRs.of_ints : ∀ (l : List Int), VRs G m H (l.map V.int) (l.map D.int)
  | [] => .nil
  | i :: r => .cons (.int i) (VRs.of_ints r)
/-- a changed list of the store -/
theorem Cf.write (c : Cf G m S H) {n : Nat} {a : Addr} {xs ys : List V} {ds es : List D} (ha : m.l[n]? = some a) (h0 : S[n]? = some (.lst ds)) (hx : H a = some (.lst xs)) (r : VRs G m H ys es) :
    Cf G m (S.set n (.lst es)) (upd H a (.lst ys)) ∧ Stp m H m (upd H a (.lst ys)) := by
  have hm : a ∈ m.l := List.mem_of_getElem? ha
  have st : Stp m H m (upd H a (.lst ys)) := ⟨⟨[], by simp, fun _ h => nomatch h⟩, rfl, fun b o e _ hb => by
    rw [upd_ne (fun z => hb (by rw [z]; exact hm))]; exact e, fun b z => by
    by_cases e : b = a
    · exact (z.no (by rw [e, upd_same]) NoTbl.lst).elim
    · exact fun u hu => z u (by rw [upd_ne e]; exact hu)⟩
  refine ⟨⟨by rw [List.length_set]; exact c.len, c.nd, fun k fs hk => ?_, fun b hb => ?_, tabs_upd c.tabs (.inr ⟨xs, hx⟩)⟩, st⟩
  case refine_2 =>
    by_cases e : b = a
    · exact ⟨ys, by rw [e, upd_same]⟩
    · obtain ⟨zs, z⟩ := c.bn b hb
      exact ⟨zs, by rw [upd_ne e]; exact z⟩
  by_cases e : k = n
  · subst e
    have hl : k < S.length := (List.getElem?_eq_some_iff.mp h0).1
    rw [List.getElem?_set_self hl] at hk
    cases hk
    exact ⟨a, ys, ha, upd_same, r.step c st⟩
  · rw [List.getElem?_set_ne (Ne.symm e)] at hk
    obtain ⟨b, zs, e1, e2, e3⟩ := c.at_ k fs hk
    have hb : b ≠ a := fun z => by
      subst z
      obtain ⟨p1, q1⟩ := List.getElem?_eq_some_iff.mp e1
      obtain ⟨p2, q2⟩ := List.getElem?_eq_some_iff.mp ha
      exact e ((List.getElem_inj c.nd).mp (q1.trans q2.symm))
    exact ⟨b, zs, e1, by rw [upd_ne hb]; exact e2, e3.step c st⟩
/-- a new thing beside the store -/
theorem Stp.new {p : Addr} {o : HO} (hp : H p = none) : Stp m H m (upd H p o) := ⟨⟨[], by simp, fun _ h => nomatch h⟩, rfl, fun b u e _ _ => by
  rw [upd_ne (ne_of_none e hp)]; exact e, fun b z => by
    by_cases e : b = p
    · rw [e]; exact .of hp
    · exact fun u hu => z u (by rw [upd_ne e]; exact hu)⟩
theorem Cf.keep (c : Cf G m S H) (st : Stp m H m H') (h : ∀ a o, H a = some o → H' a = some o) : Cf G m S H' := ⟨c.len, c.nd, fun n ds hn => by
  obtain ⟨a, xs, e1, e2, e3⟩ := c.at_ n ds hn
  exact ⟨a, xs, e1, h a _ e2, e3.step c st⟩, fun a ha => by
  obtain ⟨xs, e⟩ := c.bn a ha
  exact ⟨xs, h a _ e⟩, c.tabs.ext h⟩
theorem Cf.new (c : Cf G m S H) {p : Addr} {o : HO} (hp : H p = none) : Cf G m S (upd H p o) := c.keep (Stp.new hp) fun a u e => by rw [upd_ne (ne_of_none e hp)]; exact e
theorem Cf.outN (c : Cf G m S H) {p : Addr} (hp : H p = none) : m.out p := by
  constructor
  · intro z
    obtain ⟨xs, e⟩ := c.of_mem z
    rw [hp] at e; cases e
  · intro z
    obtain ⟨xs, e⟩ := c.bn p z
    rw [hp] at e; cases e
/-- nothing is known of what is not tracked -/
theorem Cf.notin (c : Cf G m S H) {p : Addr} (hp : H p = none) : p ∉ m.l := fun z => by
  obtain ⟨xs, e⟩ := c.of_mem z
  rw [hp] at e; cases e

/-! ### a list that is being made -/
/-- q may be led to by nothing -/
def Mm.with (m : Mm) (q : Addr) : Mm := ⟨m.l, q :: m.b⟩
/-- q goes to the store -/
def Mm.put (m : Mm) (q : Addr) : Mm := ⟨m.l ++ [q], m.b⟩
theorem Mm.out_with {m : Mm} {q a : Addr} (h : (m.with q).out a) : m.out a ∧ a ≠ q := ⟨⟨h.1, fun z => h.2 (List.mem_cons_of_mem _ z)⟩, fun z => h.2 (by rw [z]; exact List.mem_cons_self)⟩
mutual
/-- what was known ahead of q is known beside it -/
theorem VR.ban {q : Addr} (hq : H q = none) : ∀ {v : V} {d : D}, VR G m H v d → VR G (m.with q) H v d
  | _, _, .non => .non
  | _, _, .bl b => .bl b
  | _, _, .int i => .int i
  | _, _, .str s => .str s
  | _, _, .tup h r => .tup h (VRs.ban hq r)
  | _, _, .vl h hm r => .vl h ⟨hm.1, fun z => (List.mem_cons.mp z).elim (fun e => by rw [e, hq] at h; cases h) hm.2⟩ (VRs.ban hq r)
  | _, _, .ro h r => .ro (by
      rcases h with ⟨h, hm⟩ | h
      · refine .inl ⟨h, hm.1, fun z => (List.mem_cons.mp z).elim (fun e => ?_) hm.2⟩
        rcases h with h | ⟨u, h⟩ <;> (rw [e, hq] at h; cases h)
      · exact .inr h) (VRs.ban hq r)
  | _, _, .vd h hm r s => .vd h ⟨hm.1, fun z => (List.mem_cons.mp z).elim (fun e => by rcases h with h | ⟨u, h⟩ <;> (rw [e, hq] at h; cases h)) hm.2⟩ (VRs.ban hq r) (VRs.ban hq s)
  | _, _, .ref h => .ref h
  | _, _, .fn h => .fn h
  | _, _, .ty n => .ty n
theorem VRs.ban {q : Addr} (hq : H q = none) : ∀ {vs : List V} {ds : List D}, VRs G m H vs ds → VRs G (m.with q) H vs ds
  | _, _, .nil => .nil
  | _, _, .cons a b => .cons (VR.ban hq a) (VRs.ban hq b)
end
mutual
/-- .. and free again -/
theorem VR.unban {q : Addr} : ∀ {v : V} {d : D}, VR G (m.with q) H v d → VR G m H v d
  | _, _, .non => .non
  | _, _, .bl b => .bl b
  | _, _, .int i => .int i
  | _, _, .str s => .str s
  | _, _, .tup h r => .tup h (VRs.unban r)
  | _, _, .vl h hm r => .vl h (Mm.out_with hm).1 (VRs.unban r)
  | _, _, .ro h r => .ro (by
      rcases h with ⟨h, hm⟩ | h
      · exact .inl ⟨h, (Mm.out_with hm).1⟩
      · exact .inr h) (VRs.unban r)
  | _, _, .vd h hm r s => .vd h (Mm.out_with hm).1 (VRs.unban r) (VRs.unban s)
  | _, _, .ref h => .ref h
  | _, _, .fn h => .fn h
  | _, _, .ty n => .ty n
theorem VRs.unban {q : Addr} : ∀ {vs : List V} {ds : List D}, VRs G (m.with q) H vs ds → VRs G m H vs ds
  | _, _, .nil => .nil
  | _, _, .cons a b => .cons (VR.unban a) (VRs.unban b)
end
theorem Cf.unban {q : Addr} (c : Cf G (m.with q) S H) : Cf G m S H := ⟨c.len, c.nd, fun n ds h => by
  obtain ⟨a, xs, e1, e2, e3⟩ := c.at_ n ds h
  exact ⟨a, xs, e1, e2, VRs.unban e3⟩, fun a ha => c.bn a (List.mem_cons_of_mem _ ha), c.tabs⟩
theorem Mm.put_out {m : Mm} {q a : Addr} (h : (m.with q).out a) : (m.put q).out a := ⟨fun z => (List.mem_append.mp z).elim h.1 fun z => (Mm.out_with h).2 (by simpa using z), (Mm.out_with h).1.2⟩
mutual
/-- .. or of the store -/
theorem VR.put {q : Addr} : ∀ {v : V} {d : D}, VR G (m.with q) H v d → VR G (m.put q) H v d
  | _, _, .non => .non
  | _, _, .bl b => .bl b
  | _, _, .int i => .int i
  | _, _, .str s => .str s
  | _, _, .tup h r => .tup h (VRs.put r)
  | _, _, .vl h hm r => .vl h (Mm.put_out hm) (VRs.put r)
  | _, _, .ro h r => .ro (by
      rcases h with ⟨h, hm⟩ | h
      · exact .inl ⟨h, Mm.put_out hm⟩
      · exact .inr h) (VRs.put r)
  | _, _, .vd h hm r s => .vd h (Mm.put_out hm) (VRs.put r) (VRs.put s)
  | _, _, .ref h => .ref (by
      have h' : m.l[_]? = some _ := h
      show (m.l ++ [q])[_]? = _
      rw [List.getElem?_append_left (List.getElem?_eq_some_iff.mp h').1]; exact h')
  | _, _, .fn h => .fn h
  | _, _, .ty n => .ty n
theorem VRs.put {q : Addr} : ∀ {vs : List V} {ds : List D}, VRs G (m.with q) H vs ds → VRs G (m.put q) H vs ds
  | _, _, .nil => .nil
  | _, _, .cons a b => .cons (VR.put a) (VRs.put b)
end
theorem Cf.put {q : Addr} {xs : List V} {ds : List D} (c : Cf G (m.with q) S H) (hq : H q = some (.lst xs)) (hm : q ∉ m.l) (r : VRs G (m.with q) H xs ds) : Cf G (m.put q) (S ++ [.lst ds]) H := by
  have hl : m.l.length = S.length := c.len
  refine ⟨by show (m.l ++ [q]).length = _; rw [List.length_append, List.length_append, hl]; rfl, ?_, fun n es hn => ?_, fun a ha => c.bn a (List.mem_cons_of_mem _ ha), c.tabs⟩
  · show (m.l ++ [q]).Nodup
    rw [List.nodup_append]
    refine ⟨c.nd, by simp, fun a ha b hb => ?_⟩
    have : b = q := by simpa using hb
    subst this
    exact fun z => hm (z ▸ ha)
  · by_cases h : n < S.length
    · rw [List.getElem?_append_left h] at hn
      obtain ⟨a, ys, e1, e2, e3⟩ := c.at_ n es hn
      refine ⟨a, ys, ?_, e2, VRs.put e3⟩
      show (m.l ++ [q])[n]? = _
      rw [List.getElem?_append_left (hl ▸ h)]; exact e1
    · rw [List.getElem?_append_right (Nat.le_of_not_lt h)] at hn
      have e : n - S.length = 0 := by
        cases z : n - S.length with
        | zero => rfl
        | succ k => rw [z] at hn; simp at hn
      rw [e] at hn
      simp at hn
      subst hn
      refine ⟨q, xs, ?_, hq, VRs.put r⟩
      show (m.l ++ [q])[n]? = _
      rw [List.getElem?_append_right (by rw [hl]; omega), hl, e]
      rfl
mutual
/-- the list that is being made grows: what is known stays -/
theorem VR.grow {q : Addr} {ys : List V} (hq : ∀ o, H q = some o → ∃ xs, o = .lst xs) : ∀ {v : V} {d : D}, VR G (m.with q) H v d → VR G (m.with q) (upd H q (.lst ys)) v d
  | _, _, .non => .non
  | _, _, .bl b => .bl b
  | _, _, .int i => .int i
  | _, _, .str s => .str s
  | _, _, .tup h r => .tup (by
      rcases h with (h | ⟨u, h⟩) | h
      · exact .inl (.inl (by rw [upd_ne (fun z => by obtain ⟨xs, e⟩ := hq _ (z ▸ h); cases e)]; exact h))
      · exact .inl (.inr ⟨u, by rw [upd_ne (fun z => by obtain ⟨xs, e⟩ := hq _ (z ▸ h); cases e)]; exact h⟩)
      · exact .inr h) (VRs.grow hq r)
  | _, _, .vl h hm r => .vl (by rw [upd_ne (Mm.out_with hm).2]; exact h) hm (VRs.grow hq r)
  | _, _, .ro h r => .ro (by
      rcases h with ⟨h, hm⟩ | h
      · refine .inl ⟨?_, hm⟩
        rcases h with h | ⟨u, h⟩
        · exact .inl (by rw [upd_ne (Mm.out_with hm).2]; exact h)
        · exact .inr ⟨u, by rw [upd_ne (Mm.out_with hm).2]; exact h⟩
      · exact .inr h) (VRs.grow hq r)
  | _, _, .vd h hm r s => .vd (by
      rcases h with h | ⟨u, h⟩
      · exact .inl (by rw [upd_ne (Mm.out_with hm).2]; exact h)
      · exact .inr ⟨u, by rw [upd_ne (Mm.out_with hm).2]; exact h⟩) hm (VRs.grow hq r) (VRs.grow hq s)
  | _, _, .ref h => .ref h
  | _, _, .fn h => .fn h
  | _, _, .ty n => .ty n
theorem VRs.grow {q : Addr} {ys : List V} (hq : ∀ o, H q = some o → ∃ xs, o = .lst xs) : ∀ {vs : List V} {ds : List D}, VRs G (m.with q) H vs ds → VRs G (m.with q) (upd H q (.lst ys)) vs ds
  | _, _, .nil => .nil
  | _, _, .cons a b => .cons (VR.grow hq a) (VRs.grow hq b)
end
theorem lst_only {q : Addr} {xs : List V} (hq : H q = some (.lst xs)) : ∀ o, H q = some o → ∃ xs, o = .lst xs := fun o e => ⟨xs, by rw [hq] at e; exact (Option.some.inj e).symm⟩
theorem none_only {q : Addr} (hq : H q = none) : ∀ o, H q = some o → ∃ xs, o = .lst xs := fun o e => by rw [hq] at e; cases e
theorem Cf.grow {q : Addr} {xs ys : List V} (c : Cf G (m.with q) S H) (hq : H q = some (.lst xs)) (hm : q ∉ m.l) : Cf G (m.with q) S (upd H q (.lst ys)) := ⟨c.len, c.nd, fun n ds h => by
  obtain ⟨a, zs, e1, e2, e3⟩ := c.at_ n ds h
  exact ⟨a, zs, e1, by rw [upd_ne (fun z => hm (by rw [← z]; exact List.mem_of_getElem? e1))]; exact e2, VRs.grow (lst_only hq) e3⟩, fun a ha => by
  by_cases e : a = q
  · exact ⟨ys, by rw [e, upd_same]⟩
  · obtain ⟨zs, z⟩ := c.bn a ha
    exact ⟨zs, by rw [upd_ne e]; exact z⟩, tabs_upd c.tabs (.inr ⟨xs, hq⟩)⟩
theorem SR.grow {q : Addr} {xs ys : List V} (hq : H q = some (.lst xs)) (r : SR G (m.with q) H σ τ) : SR G (m.with q) (upd H q (.lst ys)) σ τ := ⟨r.len, fun i d h => by
  obtain ⟨v, e1, e2⟩ := r.at_ i d h
  exact ⟨v, e1, e2.grow (lst_only hq)⟩⟩
/-- its making begins -/
theorem VRs.start {q : Addr} {ys : List V} (hq : H q = none) {vs : List V} {ds : List D} (r : VRs G m H vs ds) : VRs G (m.with q) (upd H q (.lst ys)) vs ds := VRs.grow (none_only hq) (VRs.ban hq r)
theorem VR.start {q : Addr} {ys : List V} (hq : H q = none) {v : V} {d : D} (r : VR G m H v d) : VR G (m.with q) (upd H q (.lst ys)) v d := VR.grow (none_only hq) (VR.ban hq r)
theorem SR.start {q : Addr} {ys : List V} (hq : H q = none) (r : SR G m H σ τ) : SR G (m.with q) (upd H q (.lst ys)) σ τ := ⟨r.len, fun i d h => by
  obtain ⟨v, e1, e2⟩ := r.at_ i d h
  exact ⟨v, e1, e2.start hq⟩⟩
theorem Cf.start {q : Addr} {ys : List V} (c : Cf G m S H) (hq : H q = none) : Cf G (m.with q) S (upd H q (.lst ys)) := ⟨c.len, c.nd, fun n ds h => by
  obtain ⟨a, zs, e1, e2, e3⟩ := c.at_ n ds h
  exact ⟨a, zs, e1, by rw [upd_ne (ne_of_none e2 hq)]; exact e2, e3.start hq⟩, fun a ha => by
  rcases List.mem_cons.mp ha with e | ha
  · exact ⟨ys, by rw [e, upd_same]⟩
  · obtain ⟨zs, z⟩ := c.bn a ha
    exact ⟨zs, by rw [upd_ne (ne_of_none z hq)]; exact z⟩, tabs_upd c.tabs (.inl hq)⟩
/-- a list's making comes behind what was ahead of it -/
theorem Stp.unban {q : Addr} (h : Stp (m.with q) H m' H') : Stp m H ⟨m'.l, m.b⟩ H' := ⟨h.more, rfl, h.keep, h.there⟩
theorem Stp.isWith {q : Addr} (h : Stp (m.with q) H m' H') : m' = (Mm.mk m'.l m.b).with q := by
  cases m' with
  | mk l b =>
    have : b = q :: m.b := h.ban
    subst this
    rfl

/-! ### what is wanted of a result -/
/-- from the store's state m, H: what each end of r must meet -/
def Post {α β : Type} (G : Gd) (m : Mm) (H : Hp) (r : Res α) (R : Mm → Hp → β → α → Prop) (Q : β → Hp → Prop) (E : Value → Option Addr → Hp → Prop) : Prop :=
  match r with
  | .ok d S' => ∀ v m' H', Cf G m' S' H' → Stp m H m' H' → R m' H' v d → Q v H'
  | .exc x S' => ∀ c d m' H', Cf G m' S' H' → Stp m H m' H' → ER G m' H' c d x → E c d H'
  | .bad => False
section
variable {α β γ δ : Type} {r : Res α} {R : Mm → Hp → β → α → Prop} {Q Q' : β → Hp → Prop} {E E' : Value → Option Addr → Hp → Prop}
theorem Post.later (st : Stp m H m1 H1) (p : Post G m H r R Q E) : Post G m1 H1 r R Q E := by
  cases r with
  | ok d S' => exact fun v m' H' c s q => p v m' H' c (st.trans s) q
  | exc x S' => exact fun c d m' H' cf s q => p c d m' H' cf (st.trans s) q
  | bad => exact p
theorem Post.mono (p : Post G m H r R Q E) (hQ : ∀ v H', Q v H' → Q' v H') (hE : ∀ c d H', E c d H' → E' c d H') : Post G m H r R Q' E' := by
  cases r with
  | ok d S' => exact fun v m' H' c s q => hQ _ _ (p v m' H' c s q)
  | exc x S' => exact fun c d m' H' cf s q => hE _ _ _ (p c d m' H' cf s q)
  | bad => exact p
/-- a result, then what is made of it -/
theorem Post.bind {f : α → Store → Res γ} {R1 : Mm → Hp → δ → γ → Prop} {Q1 : δ → Hp → Prop} (p : Post G m H (r.bind f) R1 Q1 E)
    (h : ∀ v d S1 m1 H1, Cf G m1 S1 H1 → Stp m H m1 H1 → R m1 H1 v d → Post G m1 H1 (f d S1) R1 Q1 E → Q v H1) : Post G m H r R Q E := by
  cases r with
  | ok d S' => exact fun v m' H' c s q => h v d S' m' H' c s q (Post.later s p)
  | exc x S' => exact p
  | bad => exact p
theorem Post.ok {a : α} (c : Cf G m S H) {v : β} (q : R m H v a) (p : Post G m H (.ok a S) R Q E) : Q v H := p v m H c Stp.refl q
theorem Post.lift {o : Option α} (p : Post G m H (lift S o) R Q E) : ∃ a, o = some a ∧ Post G m H (.ok a S) R Q E := by
  cases o with
  | some a => exact ⟨a, rfl, p⟩
  | none => exact p.elim
end

abbrev Ev (α : Type) := Sig → Store → Res α
/-- the reading of an expression that gives what ev gives -/
def rdE (G : Gd) (W : WX) (ev : Ev D) : TE := fun σ H Q => ∃ m S τ, Cf G m S H ∧ SR G m H σ τ ∧ Post G m H (ev τ S) (VR G) Q fun c d H' => W c d σ H'
def rdA (G : Gd) (W : WX) (ev : Ev (List D)) : TA := fun σ H Q => ∃ m S τ, Cf G m S H ∧ SR G m H σ τ ∧ Post G m H (ev τ S) (VRs G) Q fun c d H' => W c d σ H'
/-- of a test: the truth -/
def rdT (G : Gd) (W : WX) (ev : Ev Bool) : TT := fun σ H Q => ∃ m S τ, Cf G m S H ∧ SR G m H σ τ ∧ Post G m H (ev τ S) (fun _ _ b k => b = k) Q fun c d H' => W c d σ H'
def rdB (G : Gd) (W : WX) (ev : Ev D) : TT := rdT G W fun τ S => (ev τ S).bind fun x S => lift S (truth S x)
/-- what is wanted where a new list has been made -/
def PostF (G : Gd) (m : Mm) (H : Hp) (r : Res D) (Q : VK) (E : Value → Option Addr → Hp → Prop) : Prop :=
  match r with
  | .ok (.vl ds) S' => ∀ p xs m' H', Cf G (m'.with p) S' H' → Stp m H m' H' → Fr H p → H' p = some (.lst xs) → p ∉ m'.l → VRs G (m'.with p) H' xs ds → Q (.ref p) H'
  | .ok _ _ => False
  | .exc x S' => ∀ c d m' H', Cf G m' S' H' → Stp m H m' H' → ER G m' H' c d x → E c d H'
  | .bad => False
def rdF (G : Gd) (W : WX) (ev : Ev D) : TE := fun σ H Q => ∃ m S τ, Cf G m S H ∧ SR G m H σ τ ∧ PostF G m H (ev τ S) Q fun c d H' => W c d σ H'

def EOk (G : Gd) (X : Cx) (W : WX) (e : Expr) (ev : Ev D) : Prop := PE X e (rdE G W ev)
def AOk (G : Gd) (X : Cx) (W : WX) (es : List Expr) (ev : Ev (List D)) : Prop := PA X es (rdA G W ev)
def TOk (G : Gd) (X : Cx) (W : WX) (e : Expr) (ev : Ev D) : Prop := PT X e (rdB G W ev)
def FOk (G : Gd) (X : Cx) (W : WX) (e : Expr) (ev : Ev D) : Prop := PE X e (rdF G W ev)

theorem PE.weak {X : Cx} {e : Expr} {t t' : TE} (h : PE X e t) (w : ∀ σ H Q, t' σ H Q → t σ H Q) : PE X e t' := ⟨fun pins s σ H Q I q => h.run pins s σ H Q I (w σ H Q q)⟩
theorem PA.weak {X : Cx} {es : List Expr} {t t' : TA} (h : PA X es t) (w : ∀ σ H Q, t' σ H Q → t σ H Q) : PA X es t' := ⟨fun pos pins s σ H Q I q => h.run pos pins s σ H Q I (w σ H Q q)⟩
theorem PT.weak {X : Cx} {e : Expr} {t t' : TT} (h : PT X e t) (w : ∀ σ H Q, t' σ H Q → t σ H Q) : PT X e t' := ⟨fun pins s σ H Q I q => h.run pins s σ H Q I (w σ H Q q)⟩
theorem PW.weak {X : Cx} {e : Expr} {t t' : TT} (h : PW X e t) (w : ∀ σ H Q, t' σ H Q → t σ H Q) : PW X e t' := ⟨fun whole pins s σ H Q I q => h.run whole pins s σ H Q I (w σ H Q q)⟩

section
variable {W : WX} {X : Cx} {ev : Ev D} {Q : VK} {δ γ : Type} {R1 : Mm → Hp → δ → γ → Prop} {Q1 : δ → Hp → Prop}
/-- an expression's reading, and what follows -/
theorem rdE.seq {K : VK} {f : D → Store → Res γ} (c : Cf G m S H) (sr : SR G m H σ τ) (p : Post G m H ((ev τ S).bind f) R1 Q1 fun c d H' => W c d σ H')
    (h : ∀ v d S1 m1 H1, Cf G m1 S1 H1 → Stp m H m1 H1 → VR G m1 H1 v d → Post G m1 H1 (f d S1) R1 Q1 (fun c d H' => W c d σ H') → K v H1) : rdE G W ev σ H K :=
  ⟨m, S, τ, c, sr, Post.bind p h⟩
theorem rdA.seq {K : List V → Hp → Prop} {ev : Ev (List D)} {f : List D → Store → Res γ} (c : Cf G m S H) (sr : SR G m H σ τ) (p : Post G m H ((ev τ S).bind f) R1 Q1 fun c d H' => W c d σ H')
    (h : ∀ v d S1 m1 H1, Cf G m1 S1 H1 → Stp m H m1 H1 → VRs G m1 H1 v d → Post G m1 H1 (f d S1) R1 Q1 (fun c d H' => W c d σ H') → K v H1) : rdA G W ev σ H K :=
  ⟨m, S, τ, c, sr, Post.bind p h⟩
theorem rdT.seq {K : Bool → Hp → Prop} {ev : Ev Bool} {f : Bool → Store → Res γ} (c : Cf G m S H) (sr : SR G m H σ τ) (p : Post G m H ((ev τ S).bind f) R1 Q1 fun c d H' => W c d σ H')
    (h : ∀ k S1 m1 H1, Cf G m1 S1 H1 → Stp m H m1 H1 → Post G m1 H1 (f k S1) R1 Q1 (fun c d H' => W c d σ H') → K k H1) : rdT G W ev σ H K :=
  ⟨m, S, τ, c, sr, Post.bind p fun v d S1 m1 H1 c1 st e q => by subst e; exact h v S1 m1 H1 c1 st q⟩
theorem bind_assoc {α β γ : Type} (r : Res α) (f : α → Store → Res β) (g : β → Store → Res γ) : (r.bind f).bind g = r.bind fun a S => (f a S).bind g := by cases r <;> rfl
theorem bind_lift {α β : Type} (S : Store) (o : Option α) (f : α → Store → Res β) : (lift S o).bind f = match o with | some a => f a S | none => .bad := by cases o <;> rfl
/-- .. of a test -/
theorem rdB.seq {K : Bool → Hp → Prop} {f : Bool → Store → Res γ} (c : Cf G m S H) (sr : SR G m H σ τ) (p : Post G m H ((ev τ S).bind fun x S => (lift S (truth S x)).bind f) R1 Q1 fun c d H' => W c d σ H')
    (h : ∀ k S1 m1 H1, Cf G m1 S1 H1 → Stp m H m1 H1 → Post G m1 H1 (f k S1) R1 Q1 (fun c d H' => W c d σ H') → K k H1) : rdB G W ev σ H K :=
  rdT.seq c sr (by rw [bind_assoc]; exact p) h
end
end RA

set_option Elab.async false
set_option linter.all false
set_option maxRecDepth 100000
set_option maxHeartbeats 4000000
set_option autoImplicit false
/-! B2: the operations by values. -/
namespace RA
open PySem L2

/-- a list -/
theorem VR.lst {G : Gd} {m : Mm} {S : Store} {H : Hp} {v : V} {d : D} {ds : List D} (c : Cf G m S H) (r : VR G m H v d) (e : asL S d = some ds) : ∃ a xs, v = .ref a ∧ H a = some (.lst xs) ∧ VRs G m H xs ds := by
  cases r with
  | vl h hm q => cases e; exact ⟨_, _, rfl, h, q⟩
  | ref h =>
    rename_i n a
    have e' : (match S[n]? with | some (.lst ds) => some ds | none => none) = some ds := e
    cases q : S[n]? with
    | none => rw [q] at e'; cases e'
    | some o =>
      cases o with
      | lst es =>
        rw [q] at e'; cases e'
        obtain ⟨b, xs, e1, e2, e3⟩ := c.at_ n _ q
        rw [h] at e1; cases e1
        exact ⟨_, _, rfl, e2, e3⟩
  | _ => cases e
theorem VR.seq {G : Gd} {m : Mm} {S : Store} {H : Hp} {v : V} {d : D} {ds : List D} (c : Cf G m S H) (r : VR G m H v d) (e : asQ S d = some ds) :
    ∃ a xs, v = .ref a ∧ (SqL G.K H a xs ∨ SqT G.K H a xs) ∧ VRs G m H xs ds := by
  cases r with
  | tup h q => cases e; exact ⟨_, _, rfl, .inr h, q⟩
  | ro h q =>
    cases e
    refine ⟨_, _, rfl, .inl ?_, q⟩
    rcases h with ⟨h, _⟩ | h
    · exact .inl h
    · exact .inr h
  | vl h hm q => obtain ⟨a, xs, e1, e2, e3⟩ := VR.lst c (.vl h hm q) (show asL S _ = some ds from e); exact ⟨a, xs, e1, .inl (.of e2), e3⟩
  | ref h => obtain ⟨a, xs, e1, e2, e3⟩ := VR.lst c (.ref h) (show asL S _ = some ds from e); exact ⟨a, xs, e1, .inl (.of e2), e3⟩
  | _ => cases e

section
variable {G : Gd} {X : Cx} {m : Mm} {S : Store} {H : Hp} {pins : List (Addr × Obj)} {σ : L2.St} {s : Shared}
/-! ### values as data -/
theorem toPs_len (r : Nat → Option PyData) : ∀ {ds : List D} {ps : List PyData}, toPs r ds = some ps → ps.length = ds.length
  | [], _, e => by cases e; rfl
  | d :: ds, ps, e => by
    unfold toPs at e
    cases q : toP r d with
    | none => rw [q] at e; cases e
    | some x =>
      rw [q] at e
      cases q2 : toPs r ds with
      | none => rw [q2] at e; cases e
      | some xs =>
        rw [q2] at e; cases e
        rw [List.length_cons, List.length_cons, toPs_len r q2]
/-- what a place reads as -/
def PlaceReads (G : Gd) (m : Mm) (h : Heap) (r : Nat → Option PyData) : Prop := ∀ n a p, m.l[n]? = some a → r n = some p → p.plain = true ∧ ∃ as, Reads h (.ref a) p as
mutual
theorem reads_w (hK : X.K = G.K) (I : Inv X pins σ H s) {r : Nat → Option PyData} (hr : PlaceReads G m s.heap r) : ∀ {v : V} {d : D} {p : PyData} {u : Value}, VR G m H v d → toP r d = some p → RelV v u → p.plain = true ∧ ∃ as, Reads s.heap u p as
  | _, _, _, _, .non, e, q => by cases e; cases q; exact ⟨rfl, _, .none⟩
  | _, _, _, _, .bl b, e, q => by cases e; cases q; exact ⟨rfl, _, .bool b⟩
  | _, _, _, _, .int i, e, q => by cases e; obtain ⟨t, rfl⟩ := q; exact ⟨rfl, _, .int i t⟩
  | _, _, _, _, .str x, e, q => by cases e; obtain ⟨t, rfl⟩ := q; exact ⟨rfl, _, .str x t⟩
  | _, _, _, _, .tup (ds := ds) h q1, e, q => by
    cases q
    unfold toP at e
    cases z : toPs r ds with
    | none => rw [z] at e; cases e
    | some ps =>
      rw [z] at e; cases e
      obtain ⟨its, rv, ⟨o, ho, hc, n, hd⟩, _⟩ := I.tuple (hK ▸ h)
      obtain ⟨hp, as, ra⟩ := reads_ws hK I hr q1 z rv
      exact ⟨by simp only [PyData.plain]; exact hp, _, .tuple ho hc hd ra⟩
  | _, _, _, _, .vl (ds := ds) h _ q1, e, q => by
    cases q
    unfold toP at e
    cases z : toPs r ds with
    | none => rw [z] at e; cases e
    | some ps =>
      rw [z] at e; cases e
      obtain ⟨its, rv, ⟨o, n, ho, hc, _, hd⟩, _⟩ := I.list (SqL.of h)
      obtain ⟨hp, as, ra⟩ := reads_ws hK I hr q1 z rv
      exact ⟨by simp only [PyData.plain]; exact hp, _, .list ho hc hd ra⟩
  | _, _, _, _, .ro (ds := ds) h q1, e, q => by
    cases q
    unfold toP at e
    cases z : toPs r ds with
    | none => rw [z] at e; cases e
    | some ps =>
      rw [z] at e; cases e
      obtain ⟨its, rv, ⟨o, n, ho, hc, _, hd⟩, _⟩ := I.list (hK ▸ (show SqL G.K H _ _ from by
        rcases h with ⟨h, _⟩ | h
        · exact .inl h
        · exact .inr h))
      obtain ⟨hp, as, ra⟩ := reads_ws hK I hr q1 z rv
      exact ⟨by simp only [PyData.plain]; exact hp, _, .list ho hc hd ra⟩
  | _, _, _, _, .vd _ _ _ _, e, _ => by cases e
  | _, _, _, _, .ref h, e, q => by cases q; exact hr _ _ _ h e
  | _, _, _, _, .fn _, e, _ => by cases e
  | _, _, _, _, .ty _, e, _ => by cases e
theorem reads_ws (hK : X.K = G.K) (I : Inv X pins σ H s) {r : Nat → Option PyData} (hr : PlaceReads G m s.heap r) : ∀ {vs : List V} {ds : List D} {ps : List PyData} {us : List Value}, VRs G m H vs ds → toPs r ds = some ps → Vals vs us → PyData.plainAll ps = true ∧ ∃ as, ReadsAll s.heap us ps as
  | _, _, _, _, .nil, e, q => by cases e; cases q; exact ⟨rfl, _, .nil⟩
  | _, _, _, _, .cons (d := d) (ds := ds) a b, e, q => by
    cases q with
    | cons q1 q2 =>
      unfold toPs at e
      cases z : toP r d with
      | none => rw [z] at e; cases e
      | some x =>
        rw [z] at e
        cases z2 : toPs r ds with
        | none => rw [z2] at e; cases e
        | some xs =>
          rw [z2] at e; cases e
          obtain ⟨h1, as, r1⟩ := reads_w hK I hr a z q1
          obtain ⟨h2, bs, r2⟩ := reads_ws hK I hr b z2 q2
          exact ⟨by simp only [PyData.plainAll, h1, h2, Bool.and_self], _, .cons r1 r2⟩
end
theorem place_deep (hK : X.K = G.K) (I : Inv X pins σ H s) (c : Cf G m S H) : ∀ k, PlaceReads G m s.heap (deep k S)
  | 0 => fun n a p _ e => by cases e
  | k + 1 => fun n a p h e => by
    have e' : (match S[n]? with | some (.lst ds) => (toPs (deep k S) ds).map .list | none => none) = some p := e
    cases q : S[n]? with
    | none => rw [q] at e'; cases e'
    | some o =>
      cases o with
      | lst es =>
        rw [q] at e'
        have e2 : (toPs (deep k S) es).map PyData.list = some p := e'
        cases z : toPs (deep k S) es with
        | none => rw [z] at e2; cases e2
        | some ps =>
          rw [z] at e2; cases e2
          obtain ⟨b, xs, h1, h2, h3⟩ := c.at_ n _ q
          rw [h] at h1; cases h1
          obtain ⟨its, rv, ⟨ob, n, ho, hc, _, hd⟩, _⟩ := I.list (SqL.of h2)
          obtain ⟨hp, as, ra⟩ := reads_ws hK I (place_deep hK I c k) h3 z rv
          exact ⟨by simp only [PyData.plain]; exact hp, _, .list ho hc hd ra⟩
theorem reads_of (hK : X.K = G.K) (I : Inv X pins σ H s) (c : Cf G m S H) {v : V} {d : D} {p : PyData} {u : Value} (r : VR G m H v d) (e : pd S d = some p) (q : RelV v u) : p.plain = true ∧ ∃ as, Reads s.heap u p as :=
  reads_w hK I (place_deep hK I c 8) r e q
theorem readsAll_of (hK : X.K = G.K) (I : Inv X pins σ H s) (c : Cf G m S H) {vs : List V} {ds : List D} {ps : List PyData} {us : List Value} (r : VRs G m H vs ds) (e : pds S ds = some ps) (q : Vals vs us) : PyData.plainAll ps = true ∧ ∃ as, ReadsAll s.heap us ps as :=
  reads_ws hK I (place_deep hK I c 8) r e q

/-! ### truth -/
theorem tru_of (c : Cf G m S H) {v : V} {d : D} {k : Bool} (r : VR G m H v d) (e : truth S d = some k) : TruV G.K v H k := by
  have em : ∀ {xs : List V} {ds : List D}, VRs G m H xs ds → (!ds.isEmpty) = !xs.isEmpty := fun r => by cases r <;> rfl
  cases r with
  | non => cases e; rfl
  | bl b => cases e; rfl
  | int i => cases e; rfl
  | str x =>
    have e' : (if x.length ≤ LINE then some ((x.length : Int) != 0) else none) = some k := e
    by_cases h : x.length ≤ LINE
    · rw [if_pos h] at e'; cases e'
      exact ⟨by rw [sizeLine_eq]; exact h, rfl⟩
    · rw [if_neg h] at e'; cases e'
  | tup h q => cases e; exact .inr (.inl ⟨_, h, em q⟩)
  | vl h _ q => cases e; exact .inl ⟨_, .of h, em q⟩
  | ro h q =>
    cases e
    refine .inl ⟨_, ?_, em q⟩
    rcases h with ⟨h, _⟩ | h
    · exact .inl h
    · exact .inr h
  | ref h =>
    rename_i n a
    have e' : (match S[n]? with | some (.lst ds) => some !ds.isEmpty | none => none) = some k := e
    cases q : S[n]? with
    | none => rw [q] at e'; cases e'
    | some o =>
      cases o with
      | lst es =>
        rw [q] at e'; cases e'
        obtain ⟨b, xs, e1, e2, e3⟩ := c.at_ n _ q
        rw [h] at e1; cases e1
        exact .inl ⟨_, .inl (.inl e2), em e3⟩
  | _ => cases e

/-! ### operators -/
/-- by values: what f gives -/
def rD (G : Gd) (f : Store → D → D → Option D) : R2 := fun x y H Q => ∃ m S d1 d2, Cf G m S H ∧ VR G m H x d1 ∧ VR G m H y d2 ∧ Post G m H (lift S (f S d1 d2)) (VR G) Q fun _ _ _ => False
theorem Post.val {m : Mm} {S : Store} {H : Hp} {o : Option D} {Q : VK} {E : Value → Option Addr → Hp → Prop} (p : Post G m H (RA.lift S o) (VR G) Q E) : ∃ d, o = some d ∧ ∀ v m' H', Cf G m' S H' → Stp m H m' H' → VR G m' H' v d → Q v H' := by
  cases o with
  | some d => exact ⟨d, rfl, p⟩
  | none => exact p.elim
theorem int_bits {i : Int} {n : Nat} (h : i.natAbs.log2 < n) : i.natAbs < 2 ^ n := by
  by_cases e : i.natAbs = 0
  · rw [e]; exact Nat.two_pow_pos n
  · exact (Nat.log2_lt e).mp h
theorem opD_sub : OpR X (binaryOp .Sub) (rD G fun S => binop S .sub) := by
  intro pins s σ H x y v u Q I rx ry ⟨m, S, d1, d2, c, r1, r2, p⟩
  obtain ⟨d, e, k⟩ := p.val
  cases r1 <;> cases r2 <;> first | (cases e; exact op_sub pins s σ H _ _ v u Q I rx ry ⟨_, _, rfl, rfl, k _ m H c Stp.refl (.int _)⟩) | cases e
theorem opD_mod : OpR X (binaryOp .Mod) (rD G fun S => binop S .mod) := by
  intro pins s σ H x y v u Q I rx ry ⟨m, S, d1, d2, c, r1, r2, p⟩
  obtain ⟨d, e, k⟩ := p.val
  cases r1 <;> cases r2 <;> try cases e
  rename_i i j
  have e' : (if j ≠ 0 then some (D.int (i.fmod j)) else none) = some d := e
  by_cases h : j ≠ 0
  · rw [if_pos h] at e'; cases e'
    exact op_modN pins s σ H _ _ v u Q I rx ry ⟨_, _, rfl, rfl, h, k _ m H c Stp.refl (.int _)⟩
  · rw [if_neg h] at e'; cases e'
/-- // by any divisor but 0, below 2 ^ 9000 -/
theorem op_fdivA : OpR X (binaryOp .FloorDiv) (rI (fun _ j => j ≠ 0 ∧ j.natAbs.log2 < 9000) fun i j => .int (i.fdiv j)) := opI fun i j _ _ _ _ _ hc q =>
  PyProof.Rows.floordiv_int hc.1 q (.inl (PyProof.noPylong_of_log2 hc.2))
theorem opD_fdiv : OpR X (binaryOp .FloorDiv) (rD G fun S => binop S .fdiv) := by
  intro pins s σ H x y v u Q I rx ry ⟨m, S, d1, d2, c, r1, r2, p⟩
  obtain ⟨d, e, k⟩ := p.val
  cases r1 <;> cases r2 <;> try cases e
  rename_i i j
  have e' : (if j ≠ 0 ∧ j.natAbs.log2 < 9000 then some (D.int (i.fdiv j)) else none) = some d := e
  by_cases h : j ≠ 0 ∧ j.natAbs.log2 < 9000
  · rw [if_pos h] at e'; cases e'
    exact op_fdivA pins s σ H _ _ v u Q I rx ry ⟨_, _, rfl, rfl, h, k _ m H c Stp.refl (.int _)⟩
  · rw [if_neg h] at e'; cases e'
theorem op_powA : OpR X (binaryOp .Pow) (rI (fun i j => 0 ≤ j ∧ j ≤ 1000 ∧ i.natAbs.log2 < 1000) fun i j => .int (i ^ j.toNat)) := opI fun i j _ _ _ _ _ hc q => by
  obtain ⟨h1, h2, h3⟩ := hc
  refine PyProof.Rows.pow_int h1 ?_ q
  have b : Builtin.Int.intBits i ≤ 1000 := by
    unfold Builtin.Int.intBits
    split <;> omega
  have b' : (Builtin.Int.intBits i : Int) ≤ 1000 := by omega
  calc (Builtin.Int.intBits i : Int) * j ≤ 1000 * j := Int.mul_le_mul_of_nonneg_right b' h1
    _ ≤ 1000 * 1000 := Int.mul_le_mul_of_nonneg_left h2 (by decide)
    _ ≤ 2 ^ 27 := by decide
theorem opD_pow : OpR X (binaryOp .Pow) (rD G fun S => binop S .pow) := by
  intro pins s σ H x y v u Q I rx ry ⟨m, S, d1, d2, c, r1, r2, p⟩
  obtain ⟨d, e, k⟩ := p.val
  cases r1 <;> cases r2 <;> try cases e
  rename_i i j
  have e' : (if 0 ≤ j ∧ j ≤ 1000 ∧ i.natAbs.log2 < 1000 then some (D.int (i ^ j.toNat)) else none) = some d := e
  by_cases h : 0 ≤ j ∧ j ≤ 1000 ∧ i.natAbs.log2 < 1000
  · rw [if_pos h] at e'; cases e'
    exact op_powA pins s σ H _ _ v u Q I rx ry ⟨_, _, rfl, rfl, h, k _ m H c Stp.refl (.int _)⟩
  · rw [if_neg h] at e'; cases e'
theorem line_eq : LINE = sizeLine := by rw [sizeLine_eq]; rfl
theorem VRs.nil_iff {m : Mm} {H : Hp} {xs : List V} {ds : List D} (r : VRs G m H xs ds) : xs = [] ↔ ds = [] := by
  cases r with
  | nil => simp
  | cons a b => simp
/-- two lists put together -/
theorem opD_addL (hK : X.K = G.K) {pins : List (Addr × Obj)} {s : Shared} {σ : L2.St} {H : Hp} {x y : V} {v u : Value} {Q : VK} (I : Inv X pins σ H s) (rx : RelV x v) (ry : RelV y u) {m : Mm} {S : Store} {d1 d2 d : D} {a b : List D} (c : Cf G m S H)
    (r1 : VR G m H x d1) (r2 : VR G m H y d2) (e1 : asL S d1 = some a) (e2 : asL S d2 = some b) (hl : a.length + b.length ≤ LINE)
    (k : ∀ p xs, H p = none → VRs G m (upd H p (.lst xs)) xs (a ++ b) → Q (.ref p) (upd H p (.lst xs))) : wpAny (model X.prog X.w) X.A (binaryOp .Add v u) (EP X pins σ Q) X.xe s := by
  obtain ⟨p1, xs, rfl, h1, q1⟩ := VR.lst c r1 e1
  obtain ⟨p2, ys, rfl, h2, q2⟩ := VR.lst c r2 e2
  refine op_cat pins s σ H _ _ v u Q I rx ry ⟨p1, p2, xs, ys, rfl, rfl, h1, h2, ?_, fun p hp => ?_⟩
  · rw [q1.length, q2.length, ← line_eq]; exact hl
  · exact k p _ hp ((q1.append q2).step c (Stp.new hp))
theorem Rd.of_upd {H : Hp} {p : Addr} {o : HO} : Rd (upd H p o) p o := .inl upd_same
end
end RA

set_option Elab.async false
set_option linter.all false
set_option maxRecDepth 100000
set_option maxHeartbeats 4000000
set_option autoImplicit false
/-! B3: more operations: + and * of everything, comparisons. -/
namespace RA
open PySem PySem.Spec PyProof.Rows L2
/-- t * 1, () * k: t itself -/
theorem tuple_mul1 (l : Addr) (items : Array Value) (n : Nat) (dd : Option Addr) (sl : Array (Option Value)) (x : Int) (u : Tok) (c0 : (decide (x < -(2 ^ 63)) || decide (x ≥ 2 ^ 63)) = false) (c1 : (items.isEmpty || x == 1) = true)  :
    Meets (Builtin.«tuple.__mul__» ⟨[.ref l, .int x u], []⟩) (fun _ R s => s.heap.get? l = some { cls := .type "tuple", dict := dd, data := .seq items n, slots := sl } ∧
      R (.ok (.ret (Value.ref l))) s) :=
  .of_wp fun prog w A R s h => by
    obtain ⟨hp, g, d, tk, os⟩ := s
    obtain ⟨hl, h⟩ := h
    have f1 := AutoSeq1.idx_int
    wp_walk using wpAny_loadPart' hl
    repeat (first
      | (refine wpAny_ite_false (decide_eq_false (by rw [c0]; exact Bool.false_ne_true)) ?_; wp_walk using wpAny_loadPart' hl)
      | (refine wpAny_ite_true (decide_eq_true (by rw [c1])) ?_; wp_walk using wpAny_loadPart' hl))
    exact ⟨_, rfl, h⟩
/-- t * k, k below 1: an empty one -/
theorem tuple_mul0 (l : Addr) (items : Array Value) (n : Nat) (dd : Option Addr) (sl : Array (Option Value)) (x : Int) (u : Tok) (c0 : (decide (x < -(2 ^ 63)) || decide (x ≥ 2 ^ 63)) = false) (c1 : (items.isEmpty || x == 1) = false) (c2 : (decide (x ≤ 0) || items.isEmpty) = true) :
    Meets (Builtin.«tuple.__mul__» ⟨[.ref l, .int x u], []⟩) (fun _ R s => s.heap.get? l = some { cls := .type "tuple", dict := dd, data := .seq items n, slots := sl } ∧
      R (.ok (.ret (Value.ref s.heap.objs.size))) { s with heap := s.heap.push { cls := Value.type "tuple", data := Data.seq #[] }, toks := s.toks }) :=
  .of_wp fun prog w A R s h => by
    obtain ⟨hp, g, d, tk, os⟩ := s
    obtain ⟨hl, h⟩ := h
    have f1 := AutoSeq1.idx_int
    wp_walk using wpAny_loadPart' hl
    repeat (first
      | (refine wpAny_ite_false (decide_eq_false (by rw [c0]; exact Bool.false_ne_true)) ?_; wp_walk using wpAny_loadPart' hl)
      | (refine wpAny_ite_false (decide_eq_false (by rw [c1]; exact Bool.false_ne_true)) ?_; wp_walk using wpAny_loadPart' hl)
      | (refine wpAny_ite_true (decide_eq_true (by rw [c2])) ?_; wp_walk using wpAny_loadPart' hl))
    exact ⟨_, rfl, h⟩
theorem flatten_nil : ∀ n : Nat, (List.replicate n ([] : List V)).flatten = []
  | 0 => rfl
  | n + 1 => by rw [List.replicate_succ, List.flatten_cons, flatten_nil n]; rfl
/-- t * k, any small k -/
def rRepA (K : PySem.W.Frag) : R2 := fun x y H Q => ∃ l k xs, x = .ref l ∧ y = .int k ∧ SqT K H l xs ∧ -1000 ≤ k ∧ k ≤ 1000 ∧ xs.length ≤ 1000 ∧
  (((List.replicate k.toNat xs).flatten = xs → Q (.ref l) H) ∧ ∀ p, H p = none → Q (.ref p) (upd H p (.tup (List.replicate k.toNat xs).flatten)))
section
variable {X : Cx}
theorem op_repTA : OpR X (binaryOp .Mult) (rRepA X.K) := by
  intro pins s σ H x y v u Q I rx ry h
  obtain ⟨l, k, xs, e1, e2, hT, h1, h2, hz, q1, q2⟩ := h
  by_cases big : xs ≠ [] ∧ 2 ≤ k
  · exact op_repT pins s σ H x y v u Q I rx ry ⟨l, k, xs, e1, e2, hT, big.1, big.2, h2, hz, q2⟩
  subst e1; subst e2
  cases rx
  obtain ⟨t, rfl⟩ := ry
  obtain ⟨its, r, ⟨⟨cls, dd, data, sl⟩, ho, hc, n, hd⟩, hs⟩ := I.tuple hT
  simp only at hc hd
  subst hc hd
  have hle : its.length = xs.length := r.length.symm
  have c0 : (decide (k < -(2 ^ 63)) || decide (k ≥ 2 ^ 63)) = false := by
    rw [decide_eq_false (by omega), decide_eq_false (by omega)] <;> rfl
  by_cases c1 : (its.toArray.isEmpty || k == 1) = true
  · refine wpAny_binaryOp_repeat_ref (T := "tuple") (U := "int") (by decide) ⟨_, ho, rfl⟩ (fun s' => typeIs_int s' k t) noFill_tuple_mul F.fills_int_mul F.slot_int_rmul repeat_tuple F.slot_int_index.lookup
      (call_meets F.slot_int_rmul (typeIs_int s k t) F.entry_int_rmul (F.args_int_rmul_2 _ _) (int_rmul_tuple k t l its.toArray n dd sl)
        ⟨ho, rfl, ⟨_, ho, rfl⟩, call_meets F.slot_tuple_mul ⟨_, ho, rfl⟩ F.entry_tuple_mul (F.args_tuple_mul_2 _ _) (tuple_mul1 l its.toArray n dd sl k t c0 c1) ⟨ho, ?_⟩⟩)
    refine ⟨.ref l, H, I, rfl, q1 ?_⟩
    rw [Bool.or_eq_true] at c1
    rcases c1 with c1 | c1
    · have : its = [] := by
        cases its with
        | nil => rfl
        | cons a b => cases c1
      subst this
      have : xs = [] := List.eq_nil_of_length_eq_zero hle.symm
      subst this
      exact flatten_nil _
    · have : k = 1 := by simpa using c1
      subst this
      show (List.replicate 1 xs).flatten = xs
      simp
  · have c1' : (its.toArray.isEmpty || k == 1) = false := by simpa using c1
    have hk : k ≤ 0 := by
      have : xs ≠ [] := fun z => by
        subst z
        have : its = [] := List.eq_nil_of_length_eq_zero hle
        subst this
        simp at c1
      have hk1 : k ≠ 1 := fun z => by subst z; simp at c1
      have : ¬ 2 ≤ k := fun z => big ⟨this, z⟩
      omega
    have c2 : (decide (k ≤ 0) || its.toArray.isEmpty) = true := by rw [decide_eq_true hk]; rfl
    refine wpAny_binaryOp_repeat_ref (T := "tuple") (U := "int") (by decide) ⟨_, ho, rfl⟩ (fun s' => typeIs_int s' k t) noFill_tuple_mul F.fills_int_mul F.slot_int_rmul repeat_tuple F.slot_int_index.lookup
      (call_meets F.slot_int_rmul (typeIs_int s k t) F.entry_int_rmul (F.args_int_rmul_2 _ _) (int_rmul_tuple k t l its.toArray n dd sl)
        ⟨ho, rfl, ⟨_, ho, rfl⟩, call_meets F.slot_tuple_mul ⟨_, ho, rfl⟩ F.entry_tuple_mul (F.args_tuple_mul_2 _ _) (tuple_mul0 l its.toArray n dd sl k t c0 c1' c2) ⟨ho, ?_⟩⟩)
    have e0 : (List.replicate k.toNat xs).flatten = [] := by
      have : k.toNat = 0 := by omega
      rw [this]; rfl
    have q := q2 s.heap.objs.size (I.hok.fresh (Nat.le_refl _))
    rw [e0] at q
    refine ⟨.ref s.heap.objs.size, _, I.laid (t' := s.toks) (o := .tup []) (fun b ob q => Heap.get?_push_of_some _ q) (Nat.le_refl _) ?_, rfl, q⟩
    exact ⟨by rw [sizeLine_eq]; exact Nat.zero_le _, [], .nil, IsTup.new _ _⟩
end
section
variable {G : Gd} {X : Cx} {m : Mm} {S : Store} {H : Hp} {pins : List (Addr × Obj)} {σ : L2.St} {s : Shared}
theorem VRs.rep {xs : List V} {ds : List D} (r : VRs G m H xs ds) : ∀ n : Nat, VRs G m H (List.replicate n xs).flatten (List.replicate n ds).flatten
  | 0 => .nil
  | n + 1 => by
    rw [List.replicate_succ, List.replicate_succ, List.flatten_cons, List.flatten_cons]
    exact r.append (VRs.rep r n)
theorem some_if {α : Type} {p : Prop} [Decidable p] {a b : α} (h : (if p then some a else none) = some b) : p ∧ a = b := by
  by_cases c : p
  · rw [if_pos c] at h; exact ⟨c, Option.some.inj h⟩
  · rw [if_neg c] at h; cases h
theorem some_bind {α β : Type} {o : Option α} {f : α → Option β} {b : β} (h : o.bind f = some b) : ∃ a, o = some a ∧ f a = some b := by
  cases o with
  | some a => exact ⟨a, rfl, h⟩
  | none => cases h
theorem some_map {α β : Type} {o : Option α} {f : α → β} {b : β} (h : o.map f = some b) : ∃ a, o = some a ∧ f a = b := by
  cases o with
  | some a => exact ⟨a, rfl, Option.some.inj h⟩
  | none => cases h
/-- a new tuple, the same as t if it is t -/
theorem VR.newT (c : Cf G m S H) {p : Addr} {xs : List V} {ds : List D} (hp : H p = none) (r : VRs G m H xs ds) : Cf G m S (upd H p (.tup xs)) ∧ Stp m H m (upd H p (.tup xs)) ∧ VR G m (upd H p (.tup xs)) (.ref p) (.tup ds) :=
  ⟨c.new hp, Stp.new hp, .tup (.inl (.inl upd_same)) (r.step c (Stp.new hp))⟩
theorem VR.newL (c : Cf G m S H) {p : Addr} {xs : List V} {ds : List D} (hp : H p = none) (r : VRs G m H xs ds) : Cf G m S (upd H p (.lst xs)) ∧ Stp m H m (upd H p (.lst xs)) ∧ VR G m (upd H p (.lst xs)) (.ref p) (.vl ds) :=
  ⟨c.new hp, Stp.new hp, .vl upd_same (c.outN hp) (r.step c (Stp.new hp))⟩
/-- by values, a new list -/
def rDF (G : Gd) (f : Store → D → D → Option D) : R2 := fun x y H Q => ∃ m S d1 d2 ds, Cf G m S H ∧ VR G m H x d1 ∧ VR G m H y d2 ∧ f S d1 d2 = some (.vl ds) ∧ ∀ p xs, H p = none → VRs G m H xs ds → Q (.ref p) (upd H p (.lst xs))
theorem binop_add_L {S : Store} {d1 d2 d : D} (e : binop S .add d1 d2 = some d) (h1 : ∀ i, d1 ≠ .int i) (h2 : ∀ i, d1 ≠ .str i) (h3 : ∀ i, d1 ≠ .tup i) :
    ∃ a b, asL S d1 = some a ∧ asL S d2 = some b ∧ a.length + b.length ≤ LINE ∧ d = .vl (a ++ b) := by
  have e' : ((asL S d1).bind fun a => (asL S d2).bind fun b => if a.length + b.length ≤ LINE then some (D.vl (a ++ b)) else none) = some d := by
    cases d1 <;> first | exact e | exact absurd rfl (h1 _) | exact absurd rfl (h2 _) | exact absurd rfl (h3 _)
  obtain ⟨a, ea, e'⟩ := some_bind e'
  obtain ⟨b, eb, e'⟩ := some_bind e'
  obtain ⟨hl, e'⟩ := some_if e'
  exact ⟨a, b, ea, eb, hl, e'.symm⟩
theorem opD_add (hK : X.K = G.K) : OpR X (binaryOp .Add) (rD G fun S => binop S .add) := by
  intro pins s σ H x y v u Q I rx ry ⟨m, S, d1, d2, c, r1, r2, p⟩
  obtain ⟨d, e, k⟩ := p.val
  have lists : (∀ i, d1 ≠ .int i) → (∀ i, d1 ≠ .str i) → (∀ i, d1 ≠ .tup i) → wpAny (model X.prog X.w) X.A (binaryOp .Add v u) (EP X pins σ Q) X.xe s := fun h1 h2 h3 => by
    obtain ⟨a, b, ea, eb, hl, rfl⟩ := binop_add_L e h1 h2 h3
    exact opD_addL hK I rx ry (d := .non) c r1 r2 ea eb hl fun p xs hp r => k _ m _ (c.new hp) (Stp.new hp) (.vl upd_same (c.outN hp) r)
  cases r1 with
  | int i =>
    cases r2 <;> try cases e
    exact op_add pins s σ H _ _ v u Q I rx ry ⟨_, _, rfl, rfl, k _ m H c Stp.refl (.int _)⟩
  | str i =>
    cases r2 with
    | str j =>
      obtain ⟨hl, rfl⟩ := some_if (show (if i.length + j.length ≤ LINE then some (D.str (i ++ j)) else none) = some d from e)
      exact op_add_str pins s σ H _ _ v u Q I rx ry ⟨_, _, rfl, rfl, by rw [← line_eq]; exact hl, k _ m H c Stp.refl (.str _)⟩
    | _ => cases e
  | tup h q =>
    cases r2 with
    | tup h2 q2 =>
      rename_i a xs ds b ys es
      obtain ⟨hl, rfl⟩ := some_if (show (if ds.length + es.length ≤ LINE then some (D.tup (ds ++ es)) else none) = some d from e)
      refine op_catA pins s σ H _ _ v u Q I rx ry ⟨_, _, _, _, rfl, rfl, hK ▸ h, hK ▸ h2, by rw [q.length, q2.length, ← line_eq]; exact hl, fun z => ?_, fun _ z => ?_, fun _ _ p hp => ?_⟩
      · have : ds = [] := q.nil_iff.mp z
        subst this
        exact k _ m H c Stp.refl (.tup h2 q2)
      · have : es = [] := q2.nil_iff.mp z
        subst this
        rw [List.append_nil] at k
        exact k _ m H c Stp.refl (.tup h q)
      · obtain ⟨c', st, r⟩ := VR.newT c hp (q.append q2)
        exact k _ m _ c' st r
    | _ => cases e
  | _ => exact lists (fun _ z => nomatch z) (fun _ z => nomatch z) (fun _ z => nomatch z)
theorem opD_addF (hK : X.K = G.K) : OpR X (binaryOp .Add) (rDF G fun S => binop S .add) := by
  intro pins s σ H x y v u Q I rx ry ⟨m, S, d1, d2, ds, c, r1, r2, e, k⟩
  have n1 : ∀ i, d1 ≠ .int i := fun i z => by
    subst z
    cases d2 <;> cases e
  have n2 : ∀ i, d1 ≠ .str i := fun i z => by
    subst z
    cases d2 <;> try cases e
    rename_i j
    obtain ⟨_, e⟩ := some_if (show (if i.length + j.length ≤ LINE then some (D.str (i ++ j)) else none) = some (.vl ds) from e)
    cases e
  have n3 : ∀ i, d1 ≠ .tup i := fun i z => by
    subst z
    cases d2 <;> try cases e
    rename_i j
    obtain ⟨_, e⟩ := some_if (show (if i.length + j.length ≤ LINE then some (D.tup (i ++ j)) else none) = some (.vl ds) from e)
    cases e
  obtain ⟨a, b, ea, eb, hl, e'⟩ := binop_add_L e n1 n2 n3
  cases e'
  obtain ⟨p1, xs, rfl, h1, q1⟩ := VR.lst c r1 ea
  obtain ⟨p2, ys, rfl, h2, q2⟩ := VR.lst c r2 eb
  refine op_cat pins s σ H _ _ v u Q I rx ry ⟨p1, p2, xs, ys, rfl, rfl, h1, h2, ?_, fun p hp => ?_⟩
  · rw [q1.length, q2.length, ← line_eq]; exact hl
  · exact k p _ hp (q1.append q2)
theorem binop_mul_L {S : Store} {d1 d : D} {k : Int} (e : binop S .mul d1 (.int k) = some d) (h1 : ∀ i, d1 ≠ .int i) (h2 : ∀ i, d1 ≠ .str i) (h3 : ∀ i, d1 ≠ .tup i) :
    ∃ a, asL S d1 = some a ∧ -1000 ≤ k ∧ k ≤ 1000 ∧ a.length ≤ 1000 ∧ d = .vl (rep k a) := by
  have e' : ((asL S d1).bind fun a => if -1000 ≤ k ∧ k ≤ 1000 ∧ a.length ≤ 1000 then some (D.vl (rep k a)) else none) = some d := by
    cases d1 <;> first | exact absurd rfl (h1 _) | exact absurd rfl (h2 _) | exact absurd rfl (h3 _) | exact e
  obtain ⟨a, ea, e'⟩ := some_bind e'
  obtain ⟨⟨a1, a2, a3⟩, e'⟩ := some_if e'
  exact ⟨a, ea, a1, a2, a3, e'.symm⟩
theorem small_mul {n : Nat} {k : Int} (h : n ≤ 1000) (hk : k ≤ 1000) : n * k.toNat ≤ sizeLine := by
  rw [sizeLine_eq]
  have a1 : n * k.toNat ≤ 1000 * 1000 := Nat.mul_le_mul h (by omega)
  omega
theorem op_strTimes {x : Str} {j : Int} {pins : List (Addr × Obj)} {s : Shared} {σ : L2.St} {H : Hp} {v u : Value} {Q : VK} (I : Inv X pins σ H s) (rx : RelV (.str x) v) (ry : RelV (.int j) u) (h1 : -1000 ≤ j) (h2 : j ≤ 1000) (h3 : x.length ≤ 1000) (q : Q (.str (strTimes x j)) H) :
    wpAny (model X.prog X.w) X.A (binaryOp .Mult v u) (EP X pins σ Q) X.xe s := by
  obtain ⟨t, rfl⟩ := rx
  obtain ⟨t', rfl⟩ := ry
  have sz : x.length * j.toNat ≤ sizeLine := small_mul h3 h2
  refine P.mul_str (by rw [decide_eq_false (by omega), decide_eq_false (by omega)]; rfl) (fun a b => ?_) (fun a b => ?_) ?_
  · have hj : 0 < j := by omega
    intro z
    have : (x.length : Int) ≤ 1000 := by exact_mod_cast h3
    have e : (1000 : Int) ≤ (2 ^ 63 - 1) / j := by
      refine (Int.le_ediv_iff_mul_le hj).mpr ?_
      have : 1000 * j ≤ 1000 * 1000 := Int.mul_le_mul_of_nonneg_left h2 (by decide)
      omega
    omega
  · unfold Builtin.Str.tooLong
    exact decide_eq_false (by omega)
  · unfold strTimes at q
    by_cases c1 : j < 1
    · rw [if_pos c1] at q ⊢
      exact ⟨by decide, .str Str.empty, H, I.tok _, ⟨_, rfl⟩, q⟩
    · rw [if_neg c1] at q ⊢
      by_cases c2 : (j == 1 || x.length == 0) = true
      · rw [if_pos c2] at q ⊢
        exact ⟨.str x, H, I, ⟨_, rfl⟩, q⟩
      · rw [if_neg c2] at q ⊢
        refine ⟨?_, .str _, H, I.tok _, ⟨_, rfl⟩, q⟩
        have len : ∀ (n : Nat) (acc : Array Nat), ((List.replicate n x.cps).foldl (· ++ ·) acc).size = acc.size + n * x.cps.size := fun n => by
          induction n with
          | zero => intro acc; simp
          | succ n ih => intro acc; rw [List.replicate_succ, List.foldl_cons, ih, Array.size_append, Nat.succ_mul]; omega
        show ((List.replicate j.toNat x.cps).foldl (· ++ ·) #[]).size ≤ sizeLine
        rw [len, Array.size_empty, Nat.zero_add, Nat.mul_comm]
        exact sz
theorem opD_mulF : OpR X (binaryOp .Mult) (rDF G fun S => binop S .mul) := by
  intro pins s σ H x y v u Q I rx ry ⟨m, S, d1, d2, ds, c, r1, r2, e, k⟩
  have n1 : ∀ i, d1 ≠ .int i := fun i z => by
    subst z
    cases d2 <;> try cases e
    rename_i j
    obtain ⟨_, e⟩ := some_if (show (if i.natAbs.log2 + j.natAbs.log2 < 1000000 then some (D.int (i * j)) else none) = some (.vl ds) from e)
    cases e
  have n2 : ∀ i, d1 ≠ .str i := fun i z => by
    subst z
    cases d2 <;> try cases e
    rename_i j
    obtain ⟨_, e⟩ := some_if (show (if -1000 ≤ j ∧ j ≤ 1000 ∧ i.length ≤ 1000 then some (D.str (strTimes i j)) else none) = some (.vl ds) from e)
    cases e
  have n3 : ∀ i, d1 ≠ .tup i := fun i z => by
    subst z
    cases d2 <;> try cases e
    rename_i j
    obtain ⟨_, e⟩ := some_if (show (if -1000 ≤ j ∧ j ≤ 1000 ∧ i.length ≤ 1000 then some (D.tup (rep j i)) else none) = some (.vl ds) from e)
    cases e
  cases r2 with
  | int i =>
    obtain ⟨a, ea, a1, a2, a3, e'⟩ := binop_mul_L e n1 n2 n3
    cases e'
    obtain ⟨p1, xs, rfl, h1, q1⟩ := VR.lst c r1 ea
    exact op_rep pins s σ H _ _ v u Q I rx ry ⟨p1, i, xs, rfl, rfl, h1, by omega, by omega, by rw [q1.length]; exact small_mul a3 a2, fun p hp => k p _ hp (q1.rep _)⟩
  | _ => cases d1 <;> cases e
theorem opD_mul (hK : X.K = G.K) : OpR X (binaryOp .Mult) (rD G fun S => binop S .mul) := by
  intro pins s σ H x y v u Q I rx ry ⟨m, S, d1, d2, c, r1, r2, p⟩
  obtain ⟨d, e, k⟩ := p.val
  cases r2 with
  | int j =>
    have lists : (∀ i, d1 ≠ .int i) → (∀ i, d1 ≠ .str i) → (∀ i, d1 ≠ .tup i) → wpAny (model X.prog X.w) X.A (binaryOp .Mult v u) (EP X pins σ Q) X.xe s := fun h1 h2 h3 => by
      obtain ⟨a, ea, a1, a2, a3, rfl⟩ := binop_mul_L e h1 h2 h3
      obtain ⟨p1, xs, rfl, h1, q1⟩ := VR.lst c r1 ea
      refine op_rep pins s σ H _ _ v u Q I rx ry ⟨p1, j, xs, rfl, rfl, h1, by omega, by omega, by rw [q1.length]; exact small_mul a3 a2, fun p hp => ?_⟩
      obtain ⟨c', st, r⟩ := VR.newL c hp (q1.rep j.toNat)
      exact k _ m _ c' st r
    cases r1 with
    | int i =>
      obtain ⟨hl, rfl⟩ := some_if (show (if i.natAbs.log2 + j.natAbs.log2 < 1000000 then some (D.int (i * j)) else none) = some d from e)
      exact op_mulW pins s σ H _ _ v u Q I rx ry ⟨_, _, rfl, rfl, hl, k _ m H c Stp.refl (.int _)⟩
    | tup h q =>
      rename_i a xs ds
      obtain ⟨⟨a1, a2, a3⟩, rfl⟩ := some_if (show (if -1000 ≤ j ∧ j ≤ 1000 ∧ ds.length ≤ 1000 then some (D.tup (rep j ds)) else none) = some d from e)
      have qr : VRs G m H (List.replicate j.toNat xs).flatten (rep j ds) := q.rep j.toNat
      refine op_repTA pins s σ H _ _ v u Q I rx ry ⟨a, j, xs, rfl, rfl, hK ▸ h, a1, a2, by rw [q.length]; exact a3, fun z => ?_, fun p hp => ?_⟩
      · rw [z] at qr
        exact k _ m H c Stp.refl (.tup h qr)
      · obtain ⟨c', st, r⟩ := VR.newT c hp qr
        exact k _ m _ c' st r
    | str x =>
      obtain ⟨⟨a1, a2, a3⟩, rfl⟩ := some_if (show (if -1000 ≤ j ∧ j ≤ 1000 ∧ x.length ≤ 1000 then some (D.str (strTimes x j)) else none) = some d from e)
      exact op_strTimes I rx ry a1 a2 a3 (k _ m H c Stp.refl (.str _))
    | _ => exact lists (fun _ z => nomatch z) (fun _ z => nomatch z) (fun _ z => nomatch z)
  | _ => cases d1 <;> cases e
end
end RA

set_option Elab.async false
set_option linter.all false
set_option maxRecDepth 100000
set_option maxHeartbeats 4000000
set_option autoImplicit false
/-! B4: comparisons, subscripts, slices. -/
namespace RA
open PySem PySem.Spec PyProof.Rows L2
section
variable {G : Gd} {X : Cx} {m : Mm} {S : Store} {H : Hp} {pins : List (Addr × Obj)} {σ : L2.St} {s : Shared}
theorem some_if' {α : Type} {p : Prop} [Decidable p] {a : Option α} {b : α} (h : (if p then a else none) = some b) : p ∧ a = some b := by
  by_cases c : p
  · rw [if_pos c] at h; exact ⟨c, h⟩
  · rw [if_neg c] at h; cases h
theorem eqd_some {S : Store} {x y : D} {b : Bool} (e : eqd S x y = some b) : ∃ p q, pd S x = some p ∧ pd S y = some q ∧ min p.depth q.depth ≤ 60 ∧ p.eqv q = b := by
  obtain ⟨p, e1, e⟩ := some_bind e
  obtain ⟨q, e2, e⟩ := some_bind e
  obtain ⟨h, e⟩ := some_if e
  exact ⟨p, q, e1, e2, h, e⟩
theorem opD_eq (hK : X.K = G.K) (hu : X.A.units + 64 < cLine) : OpR X (compareOp .Eq) (rD G fun S => cmpop S .eq) := by
  intro pins s σ H x y v u Q I rx ry ⟨m, S, d1, d2, c, r1, r2, p⟩
  obtain ⟨d, e, k⟩ := p.val
  obtain ⟨b, e0, rfl⟩ := some_map (show (eqd S d1 d2).map D.bl = some d from e)
  obtain ⟨p, q, e1, e2, h, rfl⟩ := eqd_some e0
  obtain ⟨h1, as, ra⟩ := reads_of hK I c r1 e1 rx
  obtain ⟨h2, bs, rb⟩ := reads_of hK I c r2 e2 ry
  exact SeqAt.eq_plain ra rb h1 h2 (by omega) ⟨.bl _, H, I, rfl, k _ m H c Stp.refl (.bl _)⟩
theorem opD_ne (hK : X.K = G.K) (hu : X.A.units + 64 < cLine) : OpR X (compareOp .NotEq) (rD G fun S => cmpop S .ne) := by
  intro pins s σ H x y v u Q I rx ry ⟨m, S, d1, d2, c, r1, r2, p⟩
  obtain ⟨d, e, k⟩ := p.val
  obtain ⟨b, e0, rfl⟩ := some_map (show (eqd S d1 d2).map (fun b => D.bl (!b)) = some d from e)
  obtain ⟨p, q, e1, e2, h, rfl⟩ := eqd_some e0
  obtain ⟨h1, as, ra⟩ := reads_of hK I c r1 e1 rx
  obtain ⟨h2, bs, rb⟩ := reads_of hK I c r2 e2 ry
  exact SeqAt.ne_plain ra rb h1 h2 (by omega) ⟨.bl _, H, I, rfl, k _ m H c Stp.refl (.bl _)⟩
theorem opD_lt : OpR X (compareOp .Lt) (rD G fun S => cmpop S .lt) := by
  intro pins s σ H x y v u Q I rx ry ⟨m, S, d1, d2, c, r1, r2, p⟩
  obtain ⟨d, e, k⟩ := p.val
  obtain ⟨b, e0, rfl⟩ := some_map (show (lts d1 d2).map D.bl = some d from e)
  cases r1 <;> cases r2 <;> cases e0
  · exact op_lt pins s σ H _ _ v u Q I rx ry ⟨_, _, rfl, rfl, k _ m H c Stp.refl (.bl _)⟩
  · exact op_lt_str pins s σ H _ _ v u Q I rx ry ⟨_, _, rfl, rfl, k _ m H c Stp.refl (.bl _)⟩
theorem opD_gt : OpR X (compareOp .Gt) (rD G fun S => cmpop S .gt) := by
  intro pins s σ H x y v u Q I rx ry ⟨m, S, d1, d2, c, r1, r2, p⟩
  obtain ⟨d, e, k⟩ := p.val
  obtain ⟨b, e0, rfl⟩ := some_map (show (lts d2 d1).map D.bl = some d from e)
  cases r1 <;> cases r2 <;> cases e0
  · exact op_gt pins s σ H _ _ v u Q I rx ry ⟨_, _, rfl, rfl, k _ m H c Stp.refl (.bl _)⟩
  · exact op_gt_str pins s σ H _ _ v u Q I rx ry ⟨_, _, rfl, rfl, k _ m H c Stp.refl (.bl _)⟩
theorem opD_le : OpR X (compareOp .LtE) (rD G fun S => cmpop S .le) := by
  intro pins s σ H x y v u Q I rx ry ⟨m, S, d1, d2, c, r1, r2, p⟩
  obtain ⟨d, e, k⟩ := p.val
  obtain ⟨b, e0, rfl⟩ := some_map (show (les d1 d2).map D.bl = some d from e)
  cases r1 <;> cases r2 <;> cases e0
  exact op_le pins s σ H _ _ v u Q I rx ry ⟨_, _, rfl, rfl, k _ m H c Stp.refl (.bl _)⟩
theorem opD_ge : OpR X (compareOp .GtE) (rD G fun S => cmpop S .ge) := by
  intro pins s σ H x y v u Q I rx ry ⟨m, S, d1, d2, c, r1, r2, p⟩
  obtain ⟨d, e, k⟩ := p.val
  obtain ⟨b, e0, rfl⟩ := some_map (show (les d2 d1).map D.bl = some d from e)
  cases r1 <;> cases r2 <;> cases e0
  exact op_ge pins s σ H _ _ v u Q I rx ry ⟨_, _, rfl, rfl, k _ m H c Stp.refl (.bl _)⟩
/-- is, of None and of truth values -/
theorem is_of {f : Bool → Bool} {op : CmpOp} (h1 : OpR X (compareOp op) (fun x y H Q => y = .non ∧ Q (.bl (f (decide (x = .non)))) H)) (h2 : OpR X (compareOp op) (fun x y H Q => ∃ a b : Bool, x = .bl a ∧ y = .bl b ∧ Q (.bl (f (decide (a = b)))) H)) :
    OpR X (compareOp op) (rD G fun _ d1 d2 => (sameAs d1 d2).map fun b => .bl (f b)) := by
  intro pins s σ H x y v u Q I rx ry ⟨m, S, d1, d2, c, r1, r2, p⟩
  obtain ⟨d, e, k⟩ := p.val
  obtain ⟨b, e0, rfl⟩ := some_map (show (sameAs d1 d2).map (fun b => D.bl (f b)) = some d from e)
  cases r2 with
  | non =>
    refine h1 pins s σ H _ _ v u Q I rx ry ⟨rfl, ?_⟩
    have eb : b = decide (x = .non) := by cases r1 <;> cases e0 <;> simp
    rw [← eb]
    exact k _ m H c Stp.refl (.bl _)
  | bl b2 =>
    cases r1 with
    | bl b1 =>
      cases e0
      refine h2 pins s σ H _ _ v u Q I rx ry ⟨_, _, rfl, rfl, ?_⟩
      have : decide (b1 = b2) = (b1 == b2) := by cases b1 <;> cases b2 <;> rfl
      rw [this]
      exact k _ m H c Stp.refl (.bl _)
    | _ => cases e0
  | _ => cases r1 <;> cases e0
theorem opD_is : OpR X (compareOp .Is) (rD G fun S => cmpop S .is) := is_of (f := fun b => b) op_isN op_isBl
theorem opD_isn : OpR X (compareOp .IsNot) (rD G fun S => cmpop S .isn) := is_of (f := fun b => !b) op_notN op_notBl
theorem depthAll_le {ps : List PyData} {n : Nat} : min n (PyData.depthAll ps) ≤ n := Nat.min_le_left _ _
theorem opD_in_of {f : Bool → Bool} {op : CmpOp} (hK : X.K = G.K) (hu : X.A.units + 64 < cLine)
    (h1 : OpR X (compareOp op) (fun x y H Q => ∃ i j, x = .str i ∧ y = .str j ∧ Q (.bl (f (!(Builtin.Str.occurrences j i 0 j.length 1).isEmpty))) H))
    (h2 : ∀ {c x : Value} {xs : List PyData} {d : PyData} {as bs : List Addr} {Q : Value → Shared → Prop} {s : Shared}, Reads s.heap c (.list xs) as → Reads s.heap x d bs → PyData.plainAll xs = true → d.plain = true →
      X.A.units + 1 + min (PyData.depthAll xs) d.depth < cLine → Q (.bool (f (xs.any fun y => PyData.eqv y d))) s → wpAny (model X.prog X.w) X.A (compareOp op x c) Q X.xe s)
    (h3 : ∀ {c x : Value} {xs : List PyData} {d : PyData} {as bs : List Addr} {Q : Value → Shared → Prop} {s : Shared}, Reads s.heap c (.tuple xs) as → Reads s.heap x d bs → PyData.plainAll xs = true → d.plain = true →
      X.A.units + 1 + min (PyData.depthAll xs) d.depth < cLine → Q (.bool (f (xs.any fun y => PyData.eqv y d))) s → wpAny (model X.prog X.w) X.A (compareOp op x c) Q X.xe s) :
    OpR X (compareOp op) (rD G fun S d1 d2 => (isIn S d1 d2).map fun b => .bl (f b)) := by
  intro pins s σ H x y v u Q I rx ry ⟨m, S, d1, d2, c, r1, r2, p⟩
  obtain ⟨d, e, k⟩ := p.val
  obtain ⟨b, e0, rfl⟩ := some_map (show (isIn S d1 d2).map (fun b => D.bl (f b)) = some d from e)
  have seqs : (∀ i j, ¬ (d1 = .str i ∧ d2 = .str j)) → wpAny (model X.prog X.w) X.A (compareOp op v u) (EP X pins σ Q) X.xe s := fun no => by
    have e1 : ((asQ S d2).bind fun ds => (pd S d1).bind fun p => (pds S ds).bind fun qs => if p.depth ≤ 60 then some (qs.any fun q => q.eqv p) else none) = some b := by
      cases d1 <;> first
        | exact e0
        | (cases d2 <;> first
            | exact e0
            | exact absurd ⟨rfl, rfl⟩ (no _ _))
    obtain ⟨ds, q1, e1⟩ := some_bind e1
    obtain ⟨pv, q2, e1⟩ := some_bind e1
    obtain ⟨qs, q3, e1⟩ := some_bind e1
    obtain ⟨hd, e1⟩ := some_if e1
    subst e1
    obtain ⟨h5, bs, rb⟩ := reads_of hK I c r1 q2 rx
    obtain ⟨a, xs, rfl, hs, rs⟩ := VR.seq c r2 q1
    cases ry
    have hm : min (PyData.depthAll qs) pv.depth ≤ 60 := Nat.le_trans (Nat.min_le_right _ _) hd
    rcases hs with hs | hs
    · obtain ⟨its, rv, ⟨o, n, ho, hc, _, hd'⟩, _⟩ := I.list (hK ▸ hs)
      obtain ⟨h6, as, ra⟩ := readsAll_of hK I c rs q3 rv
      exact h2 (.list ho hc hd' ra) rb h6 h5 (by omega) ⟨.bl _, H, I, rfl, k _ m H c Stp.refl (.bl _)⟩
    · obtain ⟨its, rv, ⟨o, ho, hc, n, hd'⟩, _⟩ := I.tuple (hK ▸ hs)
      obtain ⟨h6, as, ra⟩ := readsAll_of hK I c rs q3 rv
      exact h3 (.tuple ho hc hd' ra) rb h6 h5 (by omega) ⟨.bl _, H, I, rfl, k _ m H c Stp.refl (.bl _)⟩
  cases r1 with
  | str i =>
    cases r2 with
    | str j =>
      cases e0
      exact h1 pins s σ H _ _ v u Q I rx ry ⟨_, _, rfl, rfl, k _ m H c Stp.refl (.bl _)⟩
    | _ => exact seqs fun _ _ z => nomatch z.2
  | _ => exact seqs fun _ _ z => nomatch z.1
theorem opD_in (hK : X.K = G.K) (hu : X.A.units + 64 < cLine) : OpR X (compareOp .In) (rD G fun S => cmpop S .isin) :=
  opD_in_of (f := fun b => b) hK hu op_in_str (fun a b c d e f => SeqAt.in_list_data a b c d e f) (fun a b c d e f => SeqAt.in_tuple_data a b c d e f)
theorem opD_nin (hK : X.K = G.K) (hu : X.A.units + 64 < cLine) : OpR X (compareOp .NotIn) (rD G fun S => cmpop S .nin) :=
  opD_in_of (f := fun b => !b) hK hu op_notin_str (fun a b c d e f => SeqAt.notIn_list_data a b c d e f) (fun a b c d e f => SeqAt.notIn_tuple_data a b c d e f)

/-! ### subscripts -/
theorem natIx_eq (n : Nat) (i : Int) : natIx n i = ixN n i := rfl
theorem ixD (hK : X.K = G.K) : IxR X (rD G sub) := by
  intro value slice pins s σ H x y v u Q I rx ry ⟨m, S, d1, d2, c, r1, r2, p⟩ hs
  obtain ⟨d, e, k⟩ := p.val
  cases r2 with
  | int i =>
    have seqs : (∀ z, d1 ≠ .str z) → wpAny (model X.prog X.w) X.A (subscriptTail value slice v u) (EP X pins σ Q) X.xe s := fun no => by
      have e1 : ((asQ S d1).bind fun ds => (natIx ds.length i).bind fun j => ds[j]?) = some d := by
        cases d1 <;> first | exact e | exact absurd rfl (no _)
      obtain ⟨ds, q1, e1⟩ := some_bind e1
      obtain ⟨j, q2, e1⟩ := some_bind e1
      obtain ⟨a, xs, rfl, hq, rs⟩ := VR.seq c r1 q1
      obtain ⟨z, hz, rz⟩ := rs.get e1
      have at' : atI xs i = some z := by
        unfold atI
        rw [rs.length, ← natIx_eq, q2]
        exact hz
      rcases hq with hq | hq
      · exact ix_list value slice pins s σ H _ _ v u Q I rx ry ⟨a, xs, i, z, rfl, rfl, hK ▸ hq, at', k _ m H c Stp.refl rz⟩ hs
      · exact ix_tup value slice pins s σ H _ _ v u Q I rx ry ⟨a, xs, i, z, rfl, rfl, hK ▸ hq, at', k _ m H c Stp.refl rz⟩ hs
    cases r1 with
    | str z =>
      obtain ⟨hl, e1⟩ := some_if' (show (if z.length ≤ LINE then (natIx z.length i).bind fun j => (z.cps[j]?).map fun c => D.str ⟨#[c]⟩ else none) = some d from e)
      obtain ⟨j, q2, e1⟩ := some_bind e1
      obtain ⟨cc, q3, rfl⟩ := some_map e1
      refine ix_str value slice pins s σ H _ _ v u Q I rx ry ⟨z, i, cc, rfl, rfl, by rw [← line_eq]; exact hl, ?_, k _ m H c Stp.refl (.str _)⟩ hs
      unfold atI
      rw [Array.length_toList]
      show (ixN z.length i).bind _ = _
      rw [← natIx_eq, q2]
      simpa using q3
    | _ => exact seqs fun _ z => nomatch z
  | _ => cases e
/-! ### slices -/
theorem cut_eq (xs : List V) (a b : Option Int) : cut xs a b = cutV xs a b := by
  have h : ∀ (n d : Nat) (o : Option Int), six n d o = HT.sIx n d o := fun n d o => by cases o <;> rfl
  unfold cut cutV
  rw [h, h]
theorem VRs.cut {xs : List V} {ds : List D} (r : VRs G m H xs ds) (a b : Option Int) : VRs G m H (RA.cut xs a b) (RA.cut ds a b) := by
  unfold RA.cut
  rw [r.length]
  exact (r.drop _).take _
/-- by values: a part of a slice -/
def partV (lo : Option Int) (d : D) : Prop := bound d = some lo
def rSD (G : Gd) : V → Option Int → Option Int → Hp → VK → Prop := fun x lo hi H Q => ∃ m S d1 d2 d3, Cf G m S H ∧ VR G m H x d1 ∧ bound d2 = some lo ∧ bound d3 = some hi ∧ Post G m H (lift S (slice S d1 d2 d3)) (VR G) Q fun _ _ _ => False
theorem slD (hK : X.K = G.K) : SlR X (rSD G) := by
  intro pins s σ H x v vl vu lo hi sl Q I rx hs pl pu ⟨m, S, d1, d2, d3, c, r1, b2, b3, p⟩
  obtain ⟨d, e, k⟩ := p.val
  have e1 : slice2 S d1 lo hi = some d := by
    unfold slice at e
    rw [b2, b3] at e
    exact e
  have lists : ∀ ds, asL S d1 = some ds → d = .vl (RA.cut ds lo hi) → ∃ T id, typeLookup (.type T) "__getitem__" = pure (some (.builtin id)) ∧ s.TypeIs v T ∧ wpAny (model X.prog X.w) X.A (getItem v (.ref sl)) (EP X pins σ Q) X.xe s := fun ds q1 q2 => by
    subst q2
    obtain ⟨a, xs, rfl, hq, rs⟩ := VR.lst c r1 q1
    refine sl_list pins s σ H _ v vl vu lo hi sl Q I rx hs pl pu ⟨a, xs, rfl, .of hq, fun p hp => ?_⟩
    rw [← cut_eq]
    obtain ⟨c', st, r⟩ := VR.newL c hp (rs.cut lo hi)
    exact k _ m _ c' st r
  cases r1 with
  | tup h q =>
    rename_i a xs ds
    cases e1
    refine sl_tupA pins s σ H _ v vl vu lo hi sl Q I rx hs pl pu ⟨a, xs, rfl, hK ▸ h, fun z => ?_, fun _ p hp => ?_⟩
    · have hq := q.cut lo hi
      have : RA.cut xs lo hi = xs := by
        rw [cut_eq]
        unfold cutV
        rw [z.1, z.2]
        simp
      rw [this] at hq
      exact k _ m H c Stp.refl (.tup h hq)
    · rw [← cut_eq]
      obtain ⟨c', st, r⟩ := VR.newT c hp (q.cut lo hi)
      exact k _ m _ c' st r
  | vl h hm q =>
    obtain ⟨ds, q1, q2⟩ := some_map (show (asL S (.vl _)).map (fun ds => D.vl (RA.cut ds lo hi)) = some d from e1)
    exact lists ds q1 q2.symm
  | ref h =>
    obtain ⟨ds, q1, q2⟩ := some_map (show (asL S (.ref _)).map (fun ds => D.vl (RA.cut ds lo hi)) = some d from e1)
    exact lists ds q1 q2.symm
  | _ => cases e1

/-! ### x[::-1] of a tuple, a list -/
theorem sliceApplied_rev {prog : Program} {w : World} {A : Around} {E : Value → Shared → Prop} {s : Shared} {sl : Addr} {t : Tok} {n : Nat} {Q : Int × Int × Nat → Shared → Prop} (hs : s.heap.IsSliceOf sl .none .none (.int (-1) t))
    (h : Q ((n : Int) - 1, -1, n) s) : wpAny (model prog w) A (Builtin.Slice.sliceApplied (.ref sl) (pure (n : Int))) Q E s := by
  obtain ⟨os, hos, hcs, hds⟩ := id hs
  unfold Builtin.Slice.sliceApplied Builtin.Slice.sliceFields
  refine wpAny_bind (wpAny_bind (wpAny_field hos hds (x := .none) rfl (wpAny_bind (wpAny_field hos hds (x := .none) rfl (wpAny_bind (wpAny_field hos hds (x := .int (-1) t) rfl (wpAny_pure ?_)))))))
  refine wpAny_bind (slicePart_int ?_)
  show wpAny _ _ (if ((-1 : Int) == 0) = true then _ else _) _ _ s
  rw [if_neg (by decide)]
  refine wpAny_bind (slicePart_none (wpAny_bind (slicePart_none (wpAny_bind (wpAny_pure ?_)))))
  show wpAny _ _ (match Builtin.Slice.sliceAdjust none none (-1) (n : Int) with | (lo, hi) => pure (lo, (-1 : Int), Builtin.Slice.slicePlaces lo hi (-1))) _ _ s
  have e1 : Builtin.Slice.sliceAdjust none none (-1) (n : Int) = ((n : Int) - 1, -1) := by
    unfold Builtin.Slice.sliceAdjust
    simp
  rw [e1]
  show wpAny _ _ (pure ((n : Int) - 1, (-1 : Int), Builtin.Slice.slicePlaces ((n : Int) - 1) (-1) (-1))) _ _ s
  have e2 : Builtin.Slice.slicePlaces ((n : Int) - 1) (-1) (-1) = n := by
    unfold Builtin.Slice.slicePlaces
    simp
    omega
  rw [e2]
  exact wpAny_pure h
theorem fm_congr {α β : Type} {f g : α → Option β} : ∀ l : List α, (∀ a ∈ l, f a = g a) → l.filterMap f = l.filterMap g
  | [], _ => rfl
  | a :: l, h => by rw [List.filterMap_cons, List.filterMap_cons, h a List.mem_cons_self, fm_congr l fun b hb => h b (List.mem_cons_of_mem _ hb)]
theorem pick_rev (xs : Array Value) : ((List.range xs.size).filterMap fun (m : Nat) => xs[((xs.size : Int) - 1 + (m : Int) * (-1)).toNat]?).toArray = xs.toList.reverse.toArray := by
  have h := PySem.W.krv_pick xs
  unfold slicePick at h
  rw [PySem.W.krv_bounds] at h
  have h' : ((sliceRange ((xs.size : Int) - 1) (-1) (-1)).filterMap (xs[·]?)).toArray = xs.toList.reverse.toArray := h
  rw [PySem.W.krv_sliceRange, List.filterMap_map] at h'
  rw [← h']
  congr 1
  refine fm_congr _ fun k hk => ?_
  have := List.mem_range.mp hk
  show xs[((xs.size : Int) - 1 + (k : Int) * (-1)).toNat]? = xs[xs.size - 1 - k]?
  congr 1
  omega
end
end RA

set_option Elab.async false
set_option linter.all false
set_option maxRecDepth 100000
set_option maxHeartbeats 4000000
set_option autoImplicit false
/-! B5: reversed slices, the built-in functions. -/
namespace RA
open PySem PySem.Spec PyProof.Rows L2
section
variable {G : Gd} {X : Cx} {m : Mm} {S : Store} {H : Hp} {pins : List (Addr × Obj)} {σ : L2.St} {s : Shared}
/-- t[::-1] -/
theorem getItem_tuple_rev {prog : Program} {w : World} {A : Around} {E : Value → Shared → Prop} {s : Shared} {t sl : Addr} {k : Tok} {items : Array Value} {Q : Value → Shared → Prop} (ht : IsTup s.heap t items) (hs : s.heap.IsSliceOf sl .none .none (.int (-1) k))
    (h : Q (.ref s.heap.objs.size) { s with heap := s.heap.push { cls := .type "tuple", data := .seq items.toList.reverse.toArray } })
    (hsz : items.size ≤ sizeLine) : wpAny (model prog w) A (getItem (.ref t) (.ref sl)) Q E s := by
  have htake : sizeOk (.seq items.toList.reverse.toArray) := by
    show items.toList.reverse.toArray.size ≤ sizeLine
    rw [List.size_toArray, List.length_reverse, Array.length_toList]
    exact hsz
  obtain ⟨os, hos, hcs, hds⟩ := id hs
  have hTs : s.TypeIs (.ref sl) "slice" := ⟨os, hos, hcs⟩
  unfold getItem
  try with_reducible refine wpAny_holding ?_
  first | refine wpAny_bind (wpAny_pure ?_) | skip
  refine wpAny_bind (wpAny_sequenceKey ht.typeIs (by decide) ?_)
  refine wpAny_bind (wpAny_callSpecial?_slot (name := Str.ofString "__getitem__") ht.typeIs PyProof.Rows.slot_tuple_getitem
    (wpAny_call_entry PyProof.Rows.slot_tuple_getitem ht.typeIs entry_tuple_getitem ?_ (args_tuple_getitem _ _)))
  show wpAny _ _ (Builtin.Tuple.tupleItemsOf (.ref t) >>= _) _ _ s
  refine wpAny_bind (tupleItemsOf_ ht ?_)
  refine wpAny_bind (wpAny_typeOf hTs ?_)
  rw [if_pos (by decide)]
  refine wpAny_bind (sliceApplied_rev hs ?_)
  have hno : ¬ ((((items.size : Int) - 1) == 0 && (-1 : Int) == 1 && items.size == items.size) = true) := by
    intro q
    rw [Bool.and_eq_true, Bool.and_eq_true] at q
    exact absurd q.1.2 (by decide)
  show wpAny _ _ (if (((items.size : Int) - 1) == 0 && (-1 : Int) == 1 && items.size == items.size) = true then _ else _) _ _ s
  rw [if_neg hno, pick_rev]
  first
    | exact wpAny_bind (m := Builtin.Tuple.tupleExact _) (wpAny_newObj_type (wpAny_pure ⟨_, rfl, wpAny_pure h⟩) htake)
    | exact wpAny_bind (m := Builtin.Tuple.tupleExact _) (wpAny_newObj_type (wpAny_bind (wpAny_pure (wpAny_pure ⟨_, rfl, wpAny_pure h⟩))) htake)
    | exact wpAny_bind (wpAny_bind (m := Builtin.Tuple.tupleExact _) (wpAny_newObj_type (wpAny_pure (wpAny_pure ⟨_, rfl, wpAny_pure h⟩)) htake))
    | exact wpAny_bind (wpAny_bind (m := Builtin.Tuple.tupleExact _) (wpAny_newObj_type (wpAny_pure ⟨_, rfl, wpAny_pure h⟩) htake))
def rRev (G : Gd) (x : V) (H : Hp) (Q : VK) : Prop := ∃ m S d, Cf G m S H ∧ VR G m H x d ∧ Post G m H (lift S (rev S d)) (VR G) Q fun _ _ _ => False
theorem pe_rev (hK : X.K = G.K) {e : Expr} {te : TE} {k : Nat} {p1 p2 p3 pos : Pos} (he : PE X e te) : PE X (.Subscript e (.Slice none none (some (.UnaryOp .USub (.Constant (.int 1) k p1) p2)) p3) pos) (fun σ H Q => te σ H fun x H1 => rRev G x H1 Q) := by
  refine ⟨fun pins s σ H Q I h => ?_⟩
  refine Subscript_ (thn (he.run pins s σ H _ I h) fun v s1 ⟨x, H1, I1, r1, q1⟩ => ?_)
  obtain ⟨m, S, d, c, r, p⟩ := q1
  obtain ⟨d', e', q⟩ := p.val
  have hst : PO X (some (.UnaryOp .USub (.Constant (.int 1) k p1) p2)) (tPart (tUn (rU fun i => .int (-i)) (tC (.int 1)))) := po_some (pe_un un_neg pe_int)
  refine wpAny_Slice (thn (po_none.run pins s1 σ H1 (fun o H2 => o = none ∧ H2 = H1) I1 ⟨rfl, rfl⟩) fun vl s2 ⟨l, H2, I2, pl, el, e2⟩ => ?_)
  subst el e2
  refine thn (po_none.run pins s2 σ H2 (fun o H3 => o = none ∧ H3 = H2) I2 ⟨rfl, rfl⟩) fun vu s3 ⟨u, H3, I3, pu, eu, e3⟩ => ?_
  subst eu e3
  refine thn (hst.run pins s3 σ H3 (fun o H4 => o = some (-1) ∧ H4 = H3) I3 ⟨1, rfl, -1, rfl, rfl, rfl⟩) fun vs s4 ⟨o, H4, I4, ps, eo, e4⟩ => ?_
  subst eo e4
  have I5 : Inv X pins σ H4 { s4 with heap := s4.heap.push { cls := .type "slice", data := .fields #[vl, vu, vs] } } := I4.kept (t' := s4.toks) fun b ob q => Heap.get?_push_of_some _ q
  have lists : ∀ ds, asL S d = some ds → d' = .vl ds.reverse → wpAny (model X.prog X.w) X.A (subscriptTail e (.Slice none none (some (.UnaryOp .USub (.Constant (.int 1) k p1) p2)) p3) v (.ref s4.heap.objs.size)) (EP X pins σ Q) X.xe { s4 with heap := s4.heap.push { cls := .type "slice", data := .fields #[vl, vu, vs] } } := fun ds q1 q2 => by
    subst q2
    obtain ⟨a, xs, rfl, hx, rs⟩ := VR.lst c r q1
    cases r1
    obtain ⟨its, rv, ht, hz⟩ := I5.list (.of hx)
    have hlen := rv.length
    refine tail_any (ops := [.ref a, .ref s4.heap.objs.size]) ht.isList.typeIs (PySem.slot_list_getitem.lookup) ?_ (by with_unfolding_all rfl)
    refine wpAny_getItem_list_slice ht.isList (Heap.IsSliceOf.new _ vl vu vs) pl pu ps (by decide) ?_ (by rw [List.size_toArray]; omega)
    rw [PySem.W.krv_pick]
    obtain ⟨c', st, rr⟩ := VR.newL c (I5.hok.fresh (Nat.le_refl _)) rs.reverse
    refine ⟨.ref _, _, I5.laid (t' := s4.toks) (o := .lst xs.reverse) (fun b ob q => Heap.get?_push_of_some _ q) (Nat.le_refl _) ?_, rfl, q _ m _ c' st rr⟩
    exact ⟨by rw [List.length_reverse]; exact hz, _, 0, rv.reverse, Heap.get?_push_size _ rfl⟩
  show wpAny (model X.prog X.w) X.A (subscriptTail e (.Slice none none (some (.UnaryOp .USub (.Constant (.int 1) k p1) p2)) p3) v (.ref s4.heap.objs.size)) (EP X pins σ Q) X.xe { s4 with heap := s4.heap.push { cls := .type "slice", data := .fields #[vl, vu, vs] } }
  cases r with
  | tup h rs =>
    rename_i a xs ds
    cases e'
    cases r1
    cases pl; cases pu
    obtain ⟨t, rfl⟩ : ∃ t, vs = .int (-1) t := by cases ps; exact ⟨_, rfl⟩
    obtain ⟨its, rv, ht, hz⟩ := I5.tuple (hK ▸ h)
    have hlen := rv.length
    refine tail_any (ops := [.ref a, .ref s4.heap.objs.size]) ht.typeIs PyProof.Rows.slot_tuple_getitem.lookup ?_ (by with_unfolding_all rfl)
    refine getItem_tuple_rev ht (Heap.IsSliceOf.new _ _ _ _) ?_ (by rw [List.size_toArray]; omega)
    obtain ⟨c', st, rr⟩ := VR.newT c (I5.hok.fresh (Nat.le_refl _)) rs.reverse
    refine ⟨.ref _, _, I5.laid (t' := s4.toks) (o := .tup xs.reverse) (fun b ob q => Heap.get?_push_of_some _ q) (Nat.le_refl _) ?_, rfl, q _ m _ c' st rr⟩
    exact ⟨by rw [List.length_reverse]; exact hz, its.reverse, rv.reverse, _, Heap.get?_push_size _ rfl, rfl, _, rfl⟩
  | vl h hm rs => cases e'; exact lists _ rfl rfl
  | ref h =>
    obtain ⟨ds, q1, q2⟩ := some_map (show (asL S (.ref _)).map (fun ds => D.vl ds.reverse) = some d' from e')
    exact lists ds q1 q2.symm
  | _ => cases e'

/-! ### built-in functions -/
def rB (G : Gd) (f : BF) : List V → Hp → VK → Prop := fun xs H Q => ∃ m S ds, Cf G m S H ∧ VRs G m H xs ds ∧ Post G m H (lift S (bcall S f ds)) (VR G) Q fun _ _ _ => False
theorem VRs.one {xs : List V} {ds : List D} {d : D} (r : VRs G m H xs ds) (e : ds = [d]) : ∃ x, xs = [x] ∧ VR G m H x d := by
  subst e
  cases r with
  | cons a b => cases b; exact ⟨_, rfl, a⟩
theorem VRs.two {xs : List V} {ds : List D} {d e' : D} (r : VRs G m H xs ds) (e : ds = [d, e']) : ∃ x y, xs = [x, y] ∧ VR G m H x d ∧ VR G m H y e' := by
  subst e
  cases r with
  | cons a b =>
    cases b with
    | cons b c => cases c; exact ⟨_, _, rfl, a, b⟩
theorem one_some {α : Type} {f : D → Option α} {ds : List D} {a : α} (e : one f ds = some a) : ∃ x, ds = [x] ∧ f x = some a := by
  match ds, e with
  | [x], e => exact ⟨x, rfl, e⟩
theorem two_some {α : Type} {f : D → D → Option α} {ds : List D} {a : α} (e : two f ds = some a) : ∃ x y, ds = [x, y] ∧ f x y = some a := by
  match ds, e with
  | [x, y], e => exact ⟨x, y, rfl, e⟩
theorem bD_abs : CallR X (.builtin "abs") (rB G .abs) := by
  intro pins s σ H xs us Q I rv ⟨m, S, ds, c, r, p⟩
  obtain ⟨d, e, k⟩ := p.val
  obtain ⟨x, rfl, e⟩ := one_some (show one absD ds = some d from e)
  obtain ⟨v, rfl, r1⟩ := r.one rfl
  cases r1 <;> cases e
  exact call_abs pins s σ H _ us Q I rv ⟨_, rfl, k _ m H c Stp.refl (.int _)⟩
theorem bD_int : CallR X (.type "int") (rB G .int) := by
  intro pins s σ H xs us Q I rv ⟨m, S, ds, c, r, p⟩
  obtain ⟨d, e, k⟩ := p.val
  obtain ⟨x, rfl, e⟩ := one_some (show one intD ds = some d from e)
  obtain ⟨v, rfl, r1⟩ := r.one rfl
  cases r1 <;> cases e
  · exact call_int1 pins s σ H _ us Q I rv (.inr ⟨_, rfl, k _ m H c Stp.refl (.int _)⟩)
  · exact call_int1 pins s σ H _ us Q I rv (.inl ⟨_, rfl, k _ m H c Stp.refl (.int _)⟩)
theorem bD_str : CallR X (.type "str") (rB G .str) := by
  intro pins s σ H xs us Q I rv ⟨m, S, ds, c, r, p⟩
  obtain ⟨d, e, k⟩ := p.val
  obtain ⟨x, rfl, e⟩ := one_some (show one strD ds = some d from e)
  obtain ⟨v, rfl, r1⟩ := r.one rfl
  cases r1 with
  | int i =>
    obtain ⟨h, rfl⟩ := some_if (show (if i.natAbs.log2 < 1920 then some (D.str (toString i)) else none) = some d from e)
    exact call_str_int pins s σ H _ us Q I rv ⟨i, rfl, h, k _ m H c Stp.refl (.str _)⟩
  | str i =>
    cases e
    exact SkE.call_str_str pins s σ H _ us Q I rv ⟨i, rfl, k _ m H c Stp.refl (.str _)⟩
  | _ => cases e
theorem bD_sum (hc : X.calm = true) : CallR X (.builtin "sum") (rB G .sum) := by
  intro pins s σ H xs us Q I rv ⟨m, S, ds, c, r, p⟩
  obtain ⟨d, e, k⟩ := p.val
  obtain ⟨x, rfl, e⟩ := one_some (show one (fun x => (asL S x).bind fun ds => (intsOf ds).map fun l => D.int l.sum) ds = some d from e)
  obtain ⟨v, rfl, r1⟩ := r.one rfl
  obtain ⟨ds, q1, e⟩ := some_bind e
  obtain ⟨l, q2, rfl⟩ := some_map e
  obtain ⟨a, xs, rfl, hx, rs⟩ := VR.lst c r1 q1
  have := rs.ints_of q2
  subst this
  exact cr_sum hc pins s σ H _ us Q I rv ⟨a, l, rfl, .of hx, k _ m H c Stp.refl (.int _)⟩
theorem bD_all (hc : X.calm = true) : CallR X (.builtin "all") (rB G .all) := by
  intro pins s σ H xs us Q I rv ⟨m, S, ds, c, r, p⟩
  obtain ⟨d, e, k⟩ := p.val
  obtain ⟨x, rfl, e⟩ := one_some (show one (fun x => (asL S x).bind fun ds => (boolsOf ds).map fun l => D.bl (l.all id)) ds = some d from e)
  obtain ⟨v, rfl, r1⟩ := r.one rfl
  obtain ⟨ds, q1, e⟩ := some_bind e
  obtain ⟨l, q2, rfl⟩ := some_map e
  obtain ⟨a, xs, rfl, hx, rs⟩ := VR.lst c r1 q1
  have := rs.bools_of q2
  subst this
  exact cr_all hc pins s σ H _ us Q I rv ⟨a, l, rfl, .of hx, k _ m H c Stp.refl (.bl _)⟩
theorem bD_any (hc : X.calm = true) : CallR X (.builtin "any") (rB G .any) := by
  intro pins s σ H xs us Q I rv ⟨m, S, ds, c, r, p⟩
  obtain ⟨d, e, k⟩ := p.val
  obtain ⟨x, rfl, e⟩ := one_some (show one (fun x => (asL S x).bind fun ds => (boolsOf ds).map fun l => D.bl (l.any id)) ds = some d from e)
  obtain ⟨v, rfl, r1⟩ := r.one rfl
  obtain ⟨ds, q1, e⟩ := some_bind e
  obtain ⟨l, q2, rfl⟩ := some_map e
  obtain ⟨a, xs, rfl, hx, rs⟩ := VR.lst c r1 q1
  have := rs.bools_of q2
  subst this
  exact cr_any hc pins s σ H _ us Q I rv ⟨a, l, rfl, .of hx, k _ m H c Stp.refl (.bl _)⟩
theorem bD_len (hK : X.K = G.K) : CallR X (.builtin "len") (rB G .len) := by
  intro pins s σ H xs us Q I rv ⟨m, S, ds, c, r, p⟩
  obtain ⟨d, e, k⟩ := p.val
  obtain ⟨x, rfl, e⟩ := one_some (show one (lenD S) ds = some d from e)
  obtain ⟨v, rfl, r1⟩ := r.one rfl
  have seqs : (∀ z, x ≠ .str z) → wpAny (model X.prog X.w) X.A (call (.builtin "len") us) (EP X pins σ Q) X.xe s := fun n1 => by
    have e1 : ((asQ S x).map fun ds => D.int ds.length) = some d := by
      cases x <;> first | exact e | exact absurd rfl (n1 _)
    obtain ⟨ds, q1, rfl⟩ := some_map e1
    obtain ⟨a, xs, rfl, hq, rs⟩ := VR.seq c r1 q1
    refine call_len_seq pins s σ H _ us Q I rv ⟨a, xs, rfl, ?_, ?_⟩
    · rcases hq with hq | hq
      · exact .inl (hK ▸ hq)
      · exact .inr (hK ▸ hq)
    · rw [rs.length]; exact k _ m H c Stp.refl (.int _)
  cases r1 with
  | str z =>
    obtain ⟨h, rfl⟩ := some_if (show (if z.length ≤ LINE then some (D.int z.length) else none) = some d from e)
    exact call_len_str pins s σ H _ us Q I rv ⟨z, rfl, by rw [← line_eq]; exact h, k _ m H c Stp.refl (.int _)⟩
  | _ => exact seqs (fun _ z => by cases z)
theorem bD_tuple (hK : X.K = G.K) : CallR X (.type "tuple") (rB G .tuple) := by
  intro pins s σ H xs us Q I rv ⟨m, S, ds, c, r, p⟩
  obtain ⟨d, e, k⟩ := p.val
  obtain ⟨x, rfl, e⟩ := one_some (show one (fun x => (asQ S x).map D.tup) ds = some d from e)
  obtain ⟨v, rfl, r1⟩ := r.one rfl
  obtain ⟨ds, q1, rfl⟩ := some_map e
  obtain ⟨a, xs, rfl, hq, rs⟩ := VR.seq c r1 q1
  refine call_tuple_of pins s σ H _ us Q I rv ⟨a, xs, rfl, ?_⟩
  rcases hq with hq | hq
  · refine .inl ⟨hK ▸ hq, fun l hl => ?_⟩
    obtain ⟨c', st, rr⟩ := VR.newT c hl rs
    exact k _ m _ c' st rr
  · exact .inr ⟨hK ▸ hq, k _ m H c Stp.refl (.tup hq rs)⟩
/-- a built-in that makes a new list -/
def rBF (G : Gd) (f : BF) : List V → Hp → VK → Prop := fun xs H Q => ∃ m S ds es, Cf G m S H ∧ VRs G m H xs ds ∧ bcall S f ds = some (.vl es) ∧ ∀ p ys, H p = none → VRs G m H ys es → Q (.ref p) (upd H p (.lst ys))
theorem bD_listF (hK : X.K = G.K) : CallR X (.type "list") (rBF G .list) := by
  intro pins s σ H xs us Q I rv ⟨m, S, ds, es, c, r, e, k⟩
  obtain ⟨x, rfl, e⟩ := one_some (show one (fun x => (asQ S x).map D.vl) ds = some (.vl es) from e)
  obtain ⟨v, rfl, r1⟩ := r.one rfl
  obtain ⟨ds, q1, e⟩ := some_map e
  cases e
  obtain ⟨a, xs, rfl, hq, rs⟩ := VR.seq c r1 q1
  refine call_list_of pins s σ H _ us Q I rv ⟨a, xs, rfl, ?_, fun l hl => k l _ hl rs⟩
  rcases hq with hq | hq
  · exact .inl (hK ▸ hq)
  · exact .inr (hK ▸ hq)
/-- a rule for a new list is a rule for a list's value -/
theorem bD_ofF {f : BF} {fv : Value} (h : CallR X fv (rBF G f)) (hf : ∀ S ds d, bcall S f ds = some d → ∃ es, d = .vl es) : CallR X fv (rB G f) := by
  intro pins s σ H xs us Q I rv ⟨m, S, ds, c, r, p⟩
  obtain ⟨d, e, k⟩ := p.val
  obtain ⟨es, rfl⟩ := hf S ds d e
  exact h pins s σ H xs us Q I rv ⟨m, S, ds, es, c, r, e, fun p ys hp ry => by
    obtain ⟨c', st, rr⟩ := VR.newL c hp ry
    exact k _ m _ c' st rr⟩
theorem bD_list (hK : X.K = G.K) : CallR X (.type "list") (rB G .list) := bD_ofF (bD_listF hK) fun S ds d e => by
  obtain ⟨x, rfl, e⟩ := one_some (show one (fun x => (asQ S x).map D.vl) ds = some d from e)
  obtain ⟨ds, q1, rfl⟩ := some_map e
  exact ⟨_, rfl⟩
theorem known_cases {t : String} (h : known t = true) : t = "int" ∨ t = "str" ∨ t = "bool" ∨ t = "tuple" ∨ t = "list" ∨ t = "dict" := by
  unfold known at h
  simp only [Bool.or_eq_true, beq_iff_eq] at h
  rcases h with ((((h | h) | h) | h) | h) | h
  · exact .inl h
  · exact .inr (.inl h)
  · exact .inr (.inr (.inl h))
  · exact .inr (.inr (.inr (.inl h)))
  · exact .inr (.inr (.inr (.inr (.inl h))))
  · exact .inr (.inr (.inr (.inr (.inr h))))
theorem kit_known {a t : String} (ha : a = "NoneType" ∨ a = "bool" ∨ a = "int" ∨ a = "str" ∨ a = "tuple" ∨ a = "list" ∨ a = "dict") (h : known t = true) : kitB a t = some (a == t || (a == "bool" && t == "int")) := by
  rcases ha with rfl | rfl | rfl | rfl | rfl | rfl | rfl <;> rcases known_cases h with rfl | rfl | rfl | rfl | rfl | rfl <;> decide +kernel
theorem VR.tyX (c : Cf G m S H) {v : V} {d : D} {a : String} (r : VR G m H v d) (e : tyOf d = some a) : TyX G.K H v (.type a) ∧ (a = "NoneType" ∨ a = "bool" ∨ a = "int" ∨ a = "str" ∨ a = "tuple" ∨ a = "list" ∨ a = "dict") := by
  cases r with
  | non => cases e; exact ⟨.base .non, by simp⟩
  | bl b => cases e; exact ⟨.base (.bl b), by simp⟩
  | int b => cases e; exact ⟨.base (.int b), by simp⟩
  | str b => cases e; exact ⟨.base (.str b), by simp⟩
  | tup h q =>
    cases e
    refine ⟨?_, by simp⟩
    rcases h with (h | ⟨o, h⟩) | ⟨o, its, n, h, hc, _⟩
    · exact .base (.tup h)
    · exact .fTuple h
    · exact .kTuple h hc
  | vl h _ q => cases e; exact ⟨.base (.lst h), by simp⟩
  | ro h q =>
    cases e
    refine ⟨?_, by simp⟩
    rcases h with ⟨h | ⟨o, h⟩, _⟩ | ⟨o, its, n, h, hc, _⟩
    · exact .base (.lst h)
    · exact .base (.frz h)
    · exact .kList h hc
  | vd h _ q q2 =>
    cases e
    refine ⟨?_, by simp⟩
    rcases h with h | ⟨o, h⟩
    · exact .base (.dK h)
    · exact .fDict h
  | _ => cases e
theorem bD_isinst (hK : X.K = G.K) : CallR X (.builtin "isinstance") (rB G .isinst) := by
  intro pins s σ H xs us Q I rv ⟨m, S, ds, c, r, p⟩
  obtain ⟨d, e, k⟩ := p.val
  obtain ⟨x, y, rfl, e⟩ := two_some (show two (isinstD S) ds = some d from e)
  obtain ⟨v, w, rfl, r1, r2⟩ := r.two rfl
  have fin : ∀ (v : V) (x : D) (t : String), (isTy x t).map D.bl = some d → w = .ty t → (∀ a, tyOf x = some a → TyX G.K H v (.type a) ∧ (a = "NoneType" ∨ a = "bool" ∨ a = "int" ∨ a = "str" ∨ a = "tuple" ∨ a = "list" ∨ a = "dict")) → Vals [v, w] us → wpAny (model X.prog X.w) X.A (call (.builtin "isinstance") us) (EP X pins σ Q) X.xe s := fun v x t e hw ht rv => by
    obtain ⟨b, e1, rfl⟩ := some_map e
    obtain ⟨hk, e1⟩ := some_if' (show (if known t = true then (tyOf x).map fun a => a == t || (a == "bool" && t == "int") else none) = some b from e1)
    obtain ⟨a, ea, rfl⟩ := some_map e1
    obtain ⟨h1, h2⟩ := ht a ea
    subst hw
    exact call_isi pins s σ H _ us Q I rv ⟨v, .ty t, .type a, .type t, _, rfl, .ty t, hK ▸ h1, kit_ty (kit_known h2 hk), k _ m H c Stp.refl (.bl _)⟩
  have bad : ∀ (x : D) (t : String), (isTy x t).map D.bl = some d → tyOf x = Option.none → wpAny (model X.prog X.w) X.A (call (.builtin "isinstance") us) (EP X pins σ Q) X.xe s := fun x t e h0 => by
    obtain ⟨b, e1, _⟩ := some_map e
    obtain ⟨_, e2⟩ := some_if' (show (if known t = true then (tyOf x).map fun a => a == t || (a == "bool" && t == "int") else Option.none) = some b from e1)
    rw [h0] at e2; cases e2
  cases r2 with
  | ty t =>
    cases r1 with
    | @ref n a h =>
      have e1 : (match S[n]? with | some (.lst _) => (isTy (.vl []) t).map D.bl | none => none) = some d := e
      cases q : S[n]? with
      | none => rw [q] at e1; cases e1
      | some o =>
        cases o with
        | lst es =>
          rw [q] at e1
          obtain ⟨b, xs, h1, h2, h3⟩ := c.at_ n _ q
          rw [h] at h1; cases h1
          exact fin _ (.vl []) t e1 rfl (fun a' ea => by cases ea; exact ⟨.base (.lst h2), by simp⟩) rv
    | fn h => exact bad (.fn _) t e rfl
    | non => exact fin _ _ t e rfl (fun a ea => VR.tyX c .non ea) rv
    | bl b => exact fin _ _ t e rfl (fun a ea => VR.tyX c (.bl b) ea) rv
    | int b => exact fin _ _ t e rfl (fun a ea => VR.tyX c (.int b) ea) rv
    | str b => exact fin _ _ t e rfl (fun a ea => VR.tyX c (.str b) ea) rv
    | tup h q => exact fin _ _ t e rfl (fun a ea => VR.tyX c (.tup h q) ea) rv
    | vl h h2 q => exact fin _ _ t e rfl (fun a ea => VR.tyX c (.vl h h2 q) ea) rv
    | ro h q => exact fin _ _ t e rfl (fun a ea => VR.tyX c (.ro h q) ea) rv
    | vd h h2 q q2 => exact fin _ _ t e rfl (fun a ea => VR.tyX c (.vd h h2 q q2) ea) rv
    | ty n => exact bad (.ty _) t e rfl
  | _ => cases r1 <;> cases e
theorem noDict_of_plain : ∀ p : PyData, p.plain = true → p.hasDict = false
  | .none, _ => rfl
  | .bool _, _ => rfl
  | .int _, _ => rfl
  | .str _, _ => rfl
  | .list xs, h => by simp only [PyData.hasDict]; exact go xs (by simpa [PyData.plain] using h)
  | .tuple xs, h => by simp only [PyData.hasDict]; exact go xs (by simpa [PyData.plain] using h)
  | .dict _, h => nomatch h
where go : ∀ xs : List PyData, PyData.plainAll xs = true → PyData.hasDictAll xs = false
  | [], _ => rfl
  | x :: xs, h => by
    have h' : x.plain = true ∧ PyData.plainAll xs = true := by simpa [PyData.plainAll] using h
    simp only [PyData.hasDictAll, noDict_of_plain x h'.1, go xs h'.2, Bool.or_self]
theorem bD_repr (hK : X.K = G.K) (hu : X.A.units + 64 < cLine) (hg : X.A.guards = some []) : CallR X (.builtin "repr") (rB G .repr) := by
  intro pins s σ H xs us Q I rv ⟨m, S, ds, c, r, p⟩
  obtain ⟨d, e, k⟩ := p.val
  obtain ⟨x, rfl, e⟩ := one_some (show one (reprD S) ds = some d from e)
  obtain ⟨v, rfl, r1⟩ := r.one rfl
  obtain ⟨pv, q1, e⟩ := some_bind (show ((pd S x).bind fun p => if p.showable = true ∧ p.depth ≤ 60 ∧ p.shown.length + 64 ≤ LINE then some (D.str p.shown) else none) = some d from e)
  obtain ⟨⟨h1, h2, h3⟩, rfl⟩ := some_if e
  obtain ⟨u, rfl, ru⟩ := vals1 rv
  rw [line_eq] at h3
  obtain ⟨hp, as, rd⟩ := reads_of hK I c r1 q1 ru
  have done : ∀ h' tk u, (∀ b o, s.heap.get? b = some o → h'.get? b = some o) → EP X pins σ Q (.str pv.shown u) { s with heap := h', toks := tk } := fun h' tk u hk => ⟨.str pv.shown, H, I.kept (t' := tk) hk, ⟨u, rfl⟩, k _ m H c Stp.refl (.str _)⟩
  cases rd with
  | none => exact P.repr_of_none (done s.heap _ _ fun _ _ e => e)
  | bool b => exact P.repr_of_bool (by simpa [PyData.shown] using done s.heap (s.toks + 1) s.toks fun _ _ e => e)
  | int i t => exact P.repr_of_int (by simpa [PyData.showable] using h1) (by simpa [PyData.shown] using done s.heap (s.toks + 1) s.toks fun _ _ e => e)
  | str z t => exact P.repr_of_str (by simpa [PyData.shown] using done s.heap (s.toks + 1) s.toks fun _ _ e => e) (hsz := by simp only [PyData.shown] at h3; omega)
  | list a b c' d' => exact repr_of_reads' (.list a b c' d') h1 (PyData.noDict_hsm (noDict_of_plain _ hp)) hg (by omega) (fun _ _ e => e) (fun h' u tk hk => done h' tk u hk) (by omega)
  | tuple a b c' d' => exact repr_of_reads' (.tuple a b c' d') h1 (PyData.noDict_hsm (noDict_of_plain _ hp)) hg (by omega) (fun _ _ e => e) (fun h' u tk hk => done h' tk u hk) (by omega)
  | dict a b c' d' e' => exact nomatch hp
/-! min, max -/
theorem depthAll_mem : ∀ {ps : List PyData} {p : PyData}, p ∈ ps → p.depth ≤ PyData.depthAll ps
  | x :: xs, p, h => by
    rw [PyData.depthAll]
    rcases List.mem_cons.mp h with rfl | h
    · exact Nat.le_max_left _ _
    · exact Nat.le_trans (depthAll_mem h) (Nat.le_max_right _ _)
theorem alikes_all {ps : List PyData} (h : alikes ps = true) : ∀ p ∈ ps, ∀ q ∈ ps, PySem.W.alike p q = true := fun p hp q hq =>
  List.all_eq_true.mp (List.all_eq_true.mp h p hp) q hq
theorem leastBy_zip {α β : Type} (f : α × β → α × β → Bool) (g : β → β → Bool) (hf : ∀ a b, f a b = g a.2 b.2) : ∀ (l : List (α × β)) (x : α × β), (leastBy f x l).2 = (l.map (·.2)).foldl (fun a y => if g y a then y else a) x.2 ∧ leastBy f x l ∈ x :: l
  | [], x => ⟨rfl, by simp [leastBy]⟩
  | y :: l, x => by
    have hg : f y x = g y.2 x.2 := hf _ _
    unfold leastBy
    rw [List.map_cons, List.foldl_cons]
    by_cases c : g y.2 x.2 = true
    · rw [if_pos c, if_pos (by rw [hg]; exact c)]
      obtain ⟨h1, h2⟩ := leastBy_zip f g hf l y
      exact ⟨h1, List.mem_cons_of_mem _ h2⟩
    · rw [if_neg c, if_neg (by rw [hg]; exact c)]
      obtain ⟨h1, h2⟩ := leastBy_zip f g hf l x
      refine ⟨h1, ?_⟩
      rcases List.mem_cons.mp h2 with e | h
      · rw [e]; exact List.mem_cons_self
      · exact List.mem_cons_of_mem _ (List.mem_cons_of_mem _ h)
mutual
theorem pure_inj {r : Nat → Option PyData} : ∀ {d e : D} {p : PyData}, pureD d = true → pureD e = true → toP r d = some p → toP r e = some p → d = e
  | .non, e, p, _, h, a, b => by cases a; cases e <;> first | rfl | (cases h; done) | (simp [toP] at b; done)
  | .bl x, e, p, _, h, a, b => by cases a; cases e <;> first | (cases h; done) | (cases b; rfl) | (simp [toP] at b; done)
  | .int x, e, p, _, h, a, b => by cases a; cases e <;> first | (cases h; done) | (cases b; rfl) | (simp [toP] at b; done)
  | .str x, e, p, _, h, a, b => by cases a; cases e <;> first | (cases h; done) | (cases b; rfl) | (simp [toP] at b; done)
  | .tup ds, e, p, h1, h, a, b => by
    simp only [toP] at a
    obtain ⟨ps, q1, rfl⟩ := some_map a
    cases e with
    | tup es =>
      simp only [toP] at b
      obtain ⟨qs, q2, b⟩ := some_map b
      cases b
      rw [pures_inj (by simpa only [pureD] using h1) (by simpa only [pureD] using h) q1 q2]
    | non => cases b
    | bl _ => cases b
    | int _ => cases b
    | str _ => cases b
    | _ => cases h
  | .vl _, _, _, h, _, _, _ => by cases h
  | .ro _, _, _, h, _, _, _ => by cases h
  | .vd _ _, _, _, h, _, _, _ => by cases h
  | .ref _, _, _, h, _, _, _ => by cases h
  | .fn _, _, _, h, _, _, _ => by cases h
  | .ty _, _, _, h, _, _, _ => by cases h
theorem pures_inj {r : Nat → Option PyData} : ∀ {ds es : List D} {ps : List PyData}, pureDs ds = true → pureDs es = true → toPs r ds = some ps → toPs r es = some ps → ds = es
  | [], es, ps, _, _, a, b => by
    cases a
    cases es with
    | nil => rfl
    | cons d ds => unfold toPs at b; obtain ⟨_, _, b⟩ := some_bind b; obtain ⟨_, _, b⟩ := some_map b; cases b
  | d :: ds, es, ps, h1, h2, a, b => by
    unfold toPs at a
    obtain ⟨x, q1, a⟩ := some_bind a
    obtain ⟨xs, q2, rfl⟩ := some_map a
    cases es with
    | nil => cases b
    | cons e es =>
      unfold toPs at b
      obtain ⟨y, q3, b⟩ := some_bind b
      obtain ⟨ys, q4, b⟩ := some_map b
      injection b with e1 e2
      subst e1; subst e2
      have h1' : pureD d = true ∧ pureDs ds = true := by simpa [pureDs] using h1
      have h2' : pureD e = true ∧ pureDs es = true := by simpa [pureDs] using h2
      rw [pure_inj h1'.1 h2'.1 q1 q3, pures_inj h1'.2 h2'.2 q2 q4]
end
theorem toPs_at {r : Nat → Option PyData} : ∀ {ds : List D} {ps : List PyData} {i : Nat} {d : D}, toPs r ds = some ps → ds[i]? = some d → ∃ p, ps[i]? = some p ∧ toP r d = some p ∧ (d, p) ∈ ds.zip ps
  | d :: ds, ps, i, d', e, h => by
    unfold toPs at e
    obtain ⟨x, q1, e⟩ := some_bind e
    obtain ⟨xs, q2, rfl⟩ := some_map e
    cases i with
    | zero => cases h; exact ⟨x, rfl, q1, List.mem_cons_self⟩
    | succ i =>
      obtain ⟨p, a, b, c⟩ := toPs_at (i := i) q2 (by simpa using h)
      exact ⟨p, by simpa using a, b, List.mem_cons_of_mem _ c⟩
theorem zip_toP {r : Nat → Option PyData} : ∀ {ds : List D} {ps : List PyData} {z : D × PyData}, toPs r ds = some ps → z ∈ ds.zip ps → z.1 ∈ ds ∧ toP r z.1 = some z.2 ∧ z.2 ∈ ps
  | d :: ds, ps, z, e, h => by
    unfold toPs at e
    obtain ⟨x, q1, e⟩ := some_bind e
    obtain ⟨xs, q2, rfl⟩ := some_map e
    rcases List.mem_cons.mp h with rfl | h
    · exact ⟨List.mem_cons_self, q1, List.mem_cons_self⟩
    · obtain ⟨a, b, c⟩ := zip_toP q2 h
      exact ⟨List.mem_cons_of_mem _ a, b, List.mem_cons_of_mem _ c⟩
theorem pures_mem : ∀ {ds : List D} {d : D}, pureDs ds = true → d ∈ ds → pureD d = true
  | x :: xs, d, h, hm => by
    have h' : pureD x = true ∧ pureDs xs = true := by simpa [pureDs] using h
    rcases List.mem_cons.mp hm with rfl | hm
    · exact h'.1
    · exact pures_mem h'.2 hm
/-- what min, max of data leave -/
theorem best_done (hK : X.K = G.K) (I : Inv X pins σ H s) (c : Cf G m S H) {gt : Bool} {ds : List D} {xs : List V} {its : List Value} {d : D} (rs : VRs G m H xs ds) (rv : Vals xs its) (e : best S gt ds = some d) :
    ∃ x r as, pds S ds = some (x :: r) ∧ ReadsAll s.heap its (x :: r) as ∧ PySem.W.AlikeAll (x :: r) ∧ PyData.depthAll (x :: r) ≤ 60 ∧
      ∀ (i : Nat) (v : Value) (h' : Heap) (bs : List Addr), its.toArray[i]? = some v → Reads h' v (r.foldl (fun a y => if (if gt then PySem.W.dataLt a y else PySem.W.dataLt y a) then y else a) x) bs → (∀ b o, s.heap.get? b = some o → h'.get? b = some o) → ∃ u, RelV u v ∧ VR G m H u d := by
  obtain ⟨ps, q1, e⟩ := some_bind e
  have hl := toPs_len _ q1
  cases hz : ds.zip ps with
  | nil => rw [hz] at e; cases e
  | cons z zs =>
    rw [hz] at e
    obtain ⟨⟨h1, h2, h3, h4⟩, rfl⟩ := some_if (show (if alikes ps = true ∧ PyData.depthAll ps ≤ 60 ∧ pureDs ds = true ∧ (ps.all fun p => match p with | .none => false | _ => true) = true then some (leastBy (fun a b => if gt then PySem.W.dataLt b.2 a.2 else PySem.W.dataLt a.2 b.2) z zs).1 else Option.none) = some d from e)
    obtain ⟨as, ra⟩ := (readsAll_of hK I c rs q1 rv).2
    have hp : ps = z.2 :: zs.map (·.2) := by
      have : (ds.zip ps).map (·.2) = ps := by rw [List.map_snd_zip]; omega
      rw [hz] at this
      exact this.symm
    refine ⟨z.2, zs.map (·.2), as, hp ▸ q1, hp ▸ ra, hp ▸ ⟨fun x hx y hy => alikes_all h1 x hx y hy, fun x hx ex => by subst ex; have := List.all_eq_true.mp h4 _ hx; cases this⟩, hp ▸ h2, fun i v h' bs hi rd hk => ?_⟩
    obtain ⟨e1, e2⟩ := leastBy_zip (fun a b : D × PyData => if gt then PySem.W.dataLt b.2 a.2 else PySem.W.dataLt a.2 b.2) (fun y a => if gt then PySem.W.dataLt a y else PySem.W.dataLt y a) (fun _ _ => rfl) zs z
    rw [← hz] at e2
    obtain ⟨m1, m2, m3⟩ := zip_toP q1 e2
    -- the value at i
    have hi' : its[i]? = some v := by simpa using hi
    obtain ⟨j1, j2⟩ := List.getElem?_eq_some_iff.mp hi'
    have hix : i < xs.length := by rw [rv.length]; exact j1
    have hid : i < ds.length := by rw [← rs.length]; exact hix
    obtain ⟨u, hu, ru⟩ := rs.get (List.getElem?_eq_getElem hid)
    obtain ⟨w, hw, rw'⟩ := Vals.get rv hu
    rw [hi'] at hw; cases hw
    obtain ⟨p, hp1, hp2, hp3⟩ := toPs_at q1 (List.getElem?_eq_getElem hid)
    obtain ⟨pl, bs', rb⟩ := reads_of hK I c ru hp2 rw'
    have same : p = (leastBy (fun a b : D × PyData => if gt then PySem.W.dataLt b.2 a.2 else PySem.W.dataLt a.2 b.2) z zs).2 := by
      rw [e1]
      exact SeqAt.plain_unique _ _ _ _ _ pl (PyProof.Rows.Reads.keeps hk rb) rd
    have : ds[i] = (leastBy (fun a b : D × PyData => if gt then PySem.W.dataLt b.2 a.2 else PySem.W.dataLt a.2 b.2) z zs).1 :=
      pure_inj (pures_mem h3 (List.getElem_mem hid)) (pures_mem h3 m1) (same ▸ hp2) m2
    exact ⟨u, rw', this ▸ ru⟩
theorem bD_min (hK : X.K = G.K) (hu : X.A.units + 64 < cLine) (hc : X.calm = true) (hh : X.A.handled = none) : CallR X (.builtin "min") (rB G .min) := by
  intro pins s σ H xs us Q I rv ⟨m, S, ds, c, r, p⟩
  obtain ⟨d, e, k⟩ := p.val
  have pair : two min2 ds = some d → wpAny (model X.prog X.w) X.A (call (.builtin "min") us) (EP X pins σ Q) X.xe s := fun e => by
    obtain ⟨x, y, rfl, e⟩ := two_some e
    obtain ⟨v, w, rfl, r1, r2⟩ := r.two rfl
    cases r1 <;> cases r2 <;> cases e
    exact call_min2 hc pins s σ H _ us Q I rv ⟨_, _, rfl, k _ m H c Stp.refl (.int _)⟩
  match ds, r, e, pair with
  | [x], .cons r1 .nil, e, _ =>
    obtain ⟨ds, q1, e⟩ := some_bind (show (asQ S x).bind (best S false) = some d from e)
    obtain ⟨a, xs, rfl, hq, rs⟩ := VR.seq c r1 q1
    obtain ⟨u, rfl, ru⟩ := vals1 rv
    cases ru
    rcases hq with hq | hq
    · obtain ⟨its, rv', pl, _⟩ := I.list (hK ▸ hq)
      obtain ⟨x, r, as, z1, z2, z3, z4, z5⟩ := best_done hK I c rs rv' e
      refine PySem.W.min_list_data hh pl.isList z2 z3 (by omega) fun i v h' tk bs a1 a2 a3 => ?_
      obtain ⟨u, ru, vr⟩ := z5 i v h' bs a1 a2 a3
      exact ⟨u, H, I.kept (t' := tk) a3, ru, k _ m H c Stp.refl vr⟩
    · obtain ⟨its, rv', pl, _⟩ := I.tuple (hK ▸ hq)
      obtain ⟨x, r, as, z1, z2, z3, z4, z5⟩ := best_done hK I c rs rv' e
      refine PySem.W.min_tuple_data hh pl z2 z3 (by omega) fun i v h' tk bs a1 a2 a3 => ?_
      obtain ⟨u, ru, vr⟩ := z5 i v h' bs a1 a2 a3
      exact ⟨u, H, I.kept (t' := tk) a3, ru, k _ m H c Stp.refl vr⟩
  | [], _, e, pair => exact pair e
  | _ :: _ :: _, _, e, pair => exact pair e
theorem bD_max (hK : X.K = G.K) (hu : X.A.units + 64 < cLine) (hc : X.calm = true) (hh : X.A.handled = none) : CallR X (.builtin "max") (rB G .max) := by
  intro pins s σ H xs us Q I rv ⟨m, S, ds, c, r, p⟩
  obtain ⟨d, e, k⟩ := p.val
  have pair : two max2 ds = some d → wpAny (model X.prog X.w) X.A (call (.builtin "max") us) (EP X pins σ Q) X.xe s := fun e => by
    obtain ⟨x, y, rfl, e⟩ := two_some e
    obtain ⟨v, w, rfl, r1, r2⟩ := r.two rfl
    cases r1 <;> cases r2 <;> cases e
    exact call_max2 hc pins s σ H _ us Q I rv ⟨_, _, rfl, k _ m H c Stp.refl (.int _)⟩
  match ds, r, e, pair with
  | [x], .cons r1 .nil, e, _ =>
    obtain ⟨ds, q1, e⟩ := some_bind (show (asQ S x).bind (best S true) = some d from e)
    obtain ⟨a, xs, rfl, hq, rs⟩ := VR.seq c r1 q1
    obtain ⟨u, rfl, ru⟩ := vals1 rv
    cases ru
    rcases hq with hq | hq
    · obtain ⟨its, rv', pl, _⟩ := I.list (hK ▸ hq)
      obtain ⟨x, r, as, z1, z2, z3, z4, z5⟩ := best_done hK I c rs rv' e
      refine PySem.W.max_list_data hh pl.isList z2 z3 (by omega) fun i v h' tk bs a1 a2 a3 => ?_
      obtain ⟨u, ru, vr⟩ := z5 i v h' bs a1 a2 a3
      exact ⟨u, H, I.kept (t' := tk) a3, ru, k _ m H c Stp.refl vr⟩
    · obtain ⟨its, rv', pl, _⟩ := I.tuple (hK ▸ hq)
      obtain ⟨x, r, as, z1, z2, z3, z4, z5⟩ := best_done hK I c rs rv' e
      refine PySem.W.max_tuple_data hh pl z2 z3 (by omega) fun i v h' tk bs a1 a2 a3 => ?_
      obtain ⟨u, ru, vr⟩ := z5 i v h' bs a1 a2 a3
      exact ⟨u, H, I.kept (t' := tk) a3, ru, k _ m H c Stp.refl vr⟩
  | [], _, e, pair => exact pair e
  | _ :: _ :: _, _, e, pair => exact pair e
end
end RA

set_option Elab.async false
set_option linter.all false
set_option maxRecDepth 100000
set_option maxHeartbeats 4000000
set_option autoImplicit false
/-! B6: expressions, construct by construct. -/
namespace RA
open PySem PySem.Spec PyProof.Rows L2
section
variable {G : Gd} {X : Cx} {W : WX}
theorem Post.anyE {m : Mm} {H : Hp} {S : Store} {α β : Type} {o : Option α} {R : Mm → Hp → β → α → Prop} {Q : β → Hp → Prop} {E E' : Value → Option Addr → Hp → Prop} (p : Post G m H (RA.lift S o) R Q E) : Post G m H (RA.lift S o) R Q E' := by
  cases o with
  | some a => exact p
  | none => exact p
theorem e_var {i : Nat} {x : Str} {pos : Pos} (hN : X.N[i]? = some x) (hv : Vis X.env.scope x) (hd : (x == ("__debug__" : Str)) = false) (hcd : (x == ("__classdict__" : Str)) = false) :
    EOk G X W (.Name x pos) fun τ S => match τ[i]? with | some (some d) => .ok d S | _ => .bad :=
  PE.weak (pe_var hN hv hd hcd) fun σ H Q ⟨m, S, τ, c, sr, p⟩ => by
    cases e : τ[i]? with
    | none => simp only [e] at p; exact p.elim
    | some o =>
      cases o with
      | none => simp only [e] at p; exact p.elim
      | some d =>
        simp only [e] at p
        obtain ⟨v, hv, r⟩ := sr.at_ i d e
        exact ⟨v, hv, Post.ok c r p⟩
theorem e_con {e : Expr} {v : V} {d : D} (h : PE X e (tC v)) (r : ∀ m H, VR G m H v d) : EOk G X W e fun _ S => .ok d S :=
  PE.weak h fun σ H Q ⟨m, S, τ, c, sr, p⟩ => Post.ok c (r m H) p
theorem e_bin {op : Operator} {f : Store → D → D → Option D} {a b : Expr} {ea eb : Ev D} {pos : Pos} (ho : OpR X (binaryOp op) (rD G f)) (ha : EOk G X W a ea) (hb : EOk G X W b eb) :
    EOk G X W (.BinOp a op b pos) fun τ S => (ea τ S).bind fun x S => (eb τ S).bind fun y S => lift S (f S x y) :=
  PE.weak (pe_op ho ha hb) fun σ H Q ⟨m, S, τ, c, sr, p⟩ => rdE.seq c sr p fun v d1 S1 m1 H1 c1 st r1 p1 => rdE.seq c1 (sr.step c st) p1 fun u d2 S2 m2 H2 c2 st2 r2 p2 =>
    ⟨m2, S2, d1, d2, c2, r1.step c1 st2, r2, p2.anyE⟩
theorem e_cmp {op : CmpOp} {f : Store → D → D → Option D} {a b : Expr} {ea eb : Ev D} {pos : Pos} (ho : OpR X (compareOp op) (rD G f)) (ha : EOk G X W a ea) (hb : EOk G X W b eb) (hm : behindInMarks op b = false) :
    EOk G X W (.Compare a [op] [b] pos) fun τ S => (ea τ S).bind fun x S => (eb τ S).bind fun y S => lift S (f S x y) :=
  PE.weak (pe_cmpR ho ha hb hm) fun σ H Q ⟨m, S, τ, c, sr, p⟩ => rdE.seq c sr p fun v d1 S1 m1 H1 c1 st r1 p1 => rdE.seq c1 (sr.step c st) p1 fun u d2 S2 m2 H2 c2 st2 r2 p2 =>
    ⟨m2, S2, d1, d2, c2, r1.step c1 st2, r2, p2.anyE⟩
theorem t_cmp {op : CmpOp} {f : Store → D → D → Option D} {a b : Expr} {ea eb : Ev D} {pos : Pos} (ho : OpR X (compareOp op) (rD G f)) (ha : EOk G X W a ea) (hb : EOk G X W b eb) (hm : behindInMarks op b = false)
    (hf : ∀ S x y d, f S x y = some d → ∃ k, d = .bl k) :
    TOk G X W (.Compare a [op] [b] pos) fun τ S => (ea τ S).bind fun x S => (eb τ S).bind fun y S => lift S (f S x y) :=
  PT.weak (pt_cmpR ho ha hb hm) fun σ H Q ⟨m, S, τ, c, sr, p⟩ => by
    simp only [bind_assoc] at p
    refine rdE.seq c sr p fun v d1 S1 m1 H1 c1 st r1 p1 => rdE.seq c1 (sr.step c st) p1 fun u d2 S2 m2 H2 c2 st2 r2 p2 => ?_
    refine ⟨m2, S2, d1, d2, c2, r1.step c1 st2, r2, ?_⟩
    cases e : f S2 d1 d2 with
    | none => simp only [e] at p2; exact p2.elim
    | some d =>
      obtain ⟨k, rfl⟩ := hf _ _ _ _ e
      simp only [e] at p2
      intro v m' H' c' st' r'
      cases r'
      exact ⟨k, rfl, p2 k m' H' c' st' rfl⟩
theorem e_chain {o1 o2 : CmpOp} {f g : Store → D → D → Option D} {a b e : Expr} {ea eb ec : Ev D} {pos : Pos} (h1 : OpR X (compareOp o1) (rD G f)) (h2 : OpR X (compareOp o2) (rD G g)) (ha : EOk G X W a ea) (hb : EOk G X W b eb) (hc : EOk G X W e ec) (hm : lastMarks [o1, o2] [b, e] = false)
    (hf : ∀ S x y d, f S x y = some d → ∃ k, d = .bl k) :
    EOk G X W (.Compare a [o1, o2] [b, e] pos) fun τ S => (ea τ S).bind fun x S => (eb τ S).bind fun y S => (lift S (f S x y)).bind fun k S => match k with
      | .bl true => (ec τ S).bind fun z S => lift S (g S y z)
      | .bl false => .ok (.bl false) S
      | _ => .bad :=
  PE.weak (pe_chain h1 h2 ha hb hc hm) fun σ H Q ⟨m, S, τ, c, sr, p⟩ => rdE.seq c sr p fun v d1 S1 m1 H1 c1 st r1 p1 => rdE.seq c1 (sr.step c st) p1 fun u d2 S2 m2 H2 c2 st2 r2 p2 => by
    refine ⟨m2, S2, d1, d2, c2, r1.step c1 st2, r2, ?_⟩
    cases e : f S2 d1 d2 with
    | none => simp only [e] at p2; exact p2.elim
    | some d =>
      obtain ⟨k, rfl⟩ := hf _ _ _ _ e
      simp only [e] at p2
      intro v m' H' c' st' r'
      cases r'
      refine ⟨k, rfl, ?_⟩
      cases k with
      | true =>
        rw [if_pos rfl]
        refine rdE.seq c' (((sr.step c st).step c1 st2).step c2 st') (Post.later st' p2) fun z d3 S3 m3 H3 c3 st3 r3 p3 => ?_
        exact ⟨m3, S3, d2, d3, c3, (r2.step c2 st').step c' st3, r3, p3.anyE⟩
      | false =>
        rw [if_neg Bool.false_ne_true]
        exact p2 _ m' H' c' st' (.bl false)
theorem e_neg {a : Expr} {ea : Ev D} {pos : Pos} (ha : EOk G X W a ea) : EOk G X W (.UnaryOp .USub a pos) fun τ S => (ea τ S).bind fun x S => match x with | .int i => .ok (.int (-i)) S | _ => .bad :=
  PE.weak (pe_un un_neg ha) fun σ H Q ⟨m, S, τ, c, sr, p⟩ => rdE.seq c sr p fun v d S1 m1 H1 c1 st r p1 => by
    cases r with
    | int i => exact ⟨i, rfl, Post.ok c1 (.int _) p1⟩
    | _ => exact p1.elim
theorem e_not (hK : X.K = G.K) {a : Expr} {ea : Ev D} {pos : Pos} (ha : EOk G X W a ea) : EOk G X W (.UnaryOp .Not a pos) fun τ S => (ea τ S).bind fun x S => lift S ((truth S x).map fun b => .bl (!b)) :=
  PE.weak (pe_notT ha) fun σ H Q ⟨m, S, τ, c, sr, p⟩ => rdE.seq c sr p fun v d S1 m1 H1 c1 st r p1 => by
    obtain ⟨d', e, q⟩ := p1.val
    obtain ⟨k, e1, rfl⟩ := some_map e
    exact ⟨k, hK ▸ tru_of c1 r e1, q _ m1 H1 c1 Stp.refl (.bl _)⟩
theorem e_one {op : BoolOp} {a : Expr} {ea : Ev D} {pos : Pos} (ha : EOk G X W a ea) : EOk G X W (.BoolOp op [a] pos) ea := pe_one ha
theorem e_and (hK : X.K = G.K) {a b : Expr} {rest : List Expr} {ea eb : Ev D} {pos : Pos} (ha : EOk G X W a ea) (hb : EOk G X W (.BoolOp .And (b :: rest) pos) eb) :
    EOk G X W (.BoolOp .And (a :: b :: rest) pos) fun τ S => (ea τ S).bind fun x S => (lift S (truth S x)).bind fun k S => if k then eb τ S else .ok x S :=
  PE.weak (pe_andT ha hb) fun σ H Q ⟨m, S, τ, c, sr, p⟩ => rdE.seq c sr p fun v d S1 m1 H1 c1 st r p1 => by
    cases e : truth S1 d with
    | none => simp only [e] at p1; exact p1.elim
    | some k =>
      simp only [e] at p1
      refine ⟨k, hK ▸ tru_of c1 r e, ?_⟩
      cases k with
      | true => exact ⟨m1, S1, τ, c1, sr.step c st, p1⟩
      | false => exact Post.ok c1 r p1
theorem e_or (hK : X.K = G.K) {a b : Expr} {rest : List Expr} {ea eb : Ev D} {pos : Pos} (ha : EOk G X W a ea) (hb : EOk G X W (.BoolOp .Or (b :: rest) pos) eb) :
    EOk G X W (.BoolOp .Or (a :: b :: rest) pos) fun τ S => (ea τ S).bind fun x S => (lift S (truth S x)).bind fun k S => if k then .ok x S else eb τ S :=
  PE.weak (pe_orT ha hb) fun σ H Q ⟨m, S, τ, c, sr, p⟩ => rdE.seq c sr p fun v d S1 m1 H1 c1 st r p1 => by
    cases e : truth S1 d with
    | none => simp only [e] at p1; exact p1.elim
    | some k =>
      simp only [e] at p1
      refine ⟨k, hK ▸ tru_of c1 r e, ?_⟩
      cases k with
      | true => exact Post.ok c1 r p1
      | false => exact ⟨m1, S1, τ, c1, sr.step c st, p1⟩
/-! tests -/
/-- a test whose value's truth is asked -/
theorem t_val (hK : X.K = G.K) {a : Expr} {ea : Ev D} (ha : EOk G X W a ea) (he : ∀ whole, isTrue a X.env whole = (do let v ← whole; standAt a.pos; holding [v] (truthy v))) : TOk G X W a ea :=
  PT.weak (pt_truth ha he) fun σ H Q ⟨m, S, τ, c, sr, p⟩ => rdE.seq c sr p fun v d S1 m1 H1 c1 st r p1 => by
    obtain ⟨k, e, q⟩ := Post.lift p1
    exact ⟨k, hK ▸ tru_of c1 r e, q k m1 H1 c1 Stp.refl rfl⟩
theorem t_not {a : Expr} {ea : Ev D} {pos : Pos} (ha : TOk G X W a ea) : TOk G X W (.UnaryOp .Not a pos) fun τ S => (ea τ S).bind fun x S => lift S ((truth S x).map fun b => .bl (!b)) :=
  PT.weak (pt_not ha) fun σ H Q ⟨m, S, τ, c, sr, p⟩ => by
    have : (fun a S => (Res.bind (lift S ((truth S a).map fun b => D.bl (!b))) fun x S => lift S (truth S x))) = fun x S => (lift S (truth S x)).bind fun k S => Res.ok (!k) S := by
      funext x S
      cases truth S x <;> rfl
    simp only [bind_assoc] at p
    rw [this] at p
    exact rdB.seq (f := fun k S => .ok (!k) S) c sr p fun k S1 m1 H1 c1 st p1 => p1 _ m1 H1 c1 Stp.refl rfl
theorem t_and1 {a : Expr} {ea : Ev D} {pos : Pos} (ha : TOk G X W a ea) : PW X (.BoolOp .And [a] pos) (rdB G W ea) := pw_and1 ha
theorem t_or1 {a : Expr} {ea : Ev D} {pos : Pos} (ha : TOk G X W a ea) : PW X (.BoolOp .Or [a] pos) (rdB G W ea) := pw_or1 ha
theorem t_and {a b : Expr} {rest : List Expr} {ea eb : Ev D} {pos : Pos} (ha : TOk G X W a ea) (hb : PW X (.BoolOp .And (b :: rest) pos) (rdB G W eb)) :
    PW X (.BoolOp .And (a :: b :: rest) pos) (rdB G W fun τ S => (ea τ S).bind fun x S => (lift S (truth S x)).bind fun k S => if k then eb τ S else .ok x S) :=
  PW.weak (pw_and ha hb) fun σ H Q ⟨m, S, τ, c, sr, p⟩ => by
    have : (fun a S => (Res.bind ((lift S (truth S a)).bind fun k S => if k = true then eb τ S else Res.ok a S) fun x S => lift S (truth S x))) =
        fun x S => (lift S (truth S x)).bind fun k S => if k = true then (eb τ S).bind fun x S => lift S (truth S x) else .ok false S := by
      funext x S
      cases e : truth S x with
      | none => rfl
      | some k =>
        cases k with
        | true => rfl
        | false => show Res.bind (.ok x S) _ = _; show lift S (truth S x) = _; rw [e]; rfl
    have p' : Post G m H ((ea τ S).bind fun a S => (Res.bind ((lift S (truth S a)).bind fun k S => if k = true then eb τ S else Res.ok a S) fun x S => lift S (truth S x))) (fun _ _ b k => b = k) Q fun c d H' => W c d σ H' := by
      rw [← bind_assoc]; exact p
    rw [this] at p'
    refine rdB.seq (f := fun k S => if k then (eb τ S).bind fun x S => lift S (truth S x) else .ok false S) c sr p' fun k S1 m1 H1 c1 st p1 => ?_
    cases k with
    | true => exact ⟨m1, S1, τ, c1, sr.step c st, p1⟩
    | false => exact p1 false m1 H1 c1 Stp.refl rfl
theorem t_or {a b : Expr} {rest : List Expr} {ea eb : Ev D} {pos : Pos} (ha : TOk G X W a ea) (hb : PW X (.BoolOp .Or (b :: rest) pos) (rdB G W eb)) :
    PW X (.BoolOp .Or (a :: b :: rest) pos) (rdB G W fun τ S => (ea τ S).bind fun x S => (lift S (truth S x)).bind fun k S => if k then .ok x S else eb τ S) :=
  PW.weak (pw_or ha hb) fun σ H Q ⟨m, S, τ, c, sr, p⟩ => by
    have : (fun a S => (Res.bind ((lift S (truth S a)).bind fun k S => if k = true then Res.ok a S else eb τ S) fun x S => lift S (truth S x))) =
        fun x S => (lift S (truth S x)).bind fun k S => if k = true then .ok true S else (eb τ S).bind fun x S => lift S (truth S x) := by
      funext x S
      cases e : truth S x with
      | none => rfl
      | some k =>
        cases k with
        | false => rfl
        | true => show Res.bind (.ok x S) _ = _; show lift S (truth S x) = _; rw [e]; rfl
    have p' : Post G m H ((ea τ S).bind fun a S => (Res.bind ((lift S (truth S a)).bind fun k S => if k = true then Res.ok a S else eb τ S) fun x S => lift S (truth S x))) (fun _ _ b k => b = k) Q fun c d H' => W c d σ H' := by
      rw [← bind_assoc]; exact p
    rw [this] at p'
    refine rdB.seq (f := fun k S => if k then .ok true S else (eb τ S).bind fun x S => lift S (truth S x)) c sr p' fun k S1 m1 H1 c1 st p1 => ?_
    cases k with
    | false => exact ⟨m1, S1, τ, c1, sr.step c st, p1⟩
    | true => exact p1 true m1 H1 c1 Stp.refl rfl
theorem e_ife {e a b : Expr} {ec ea eb : Ev D} {pos : Pos} (hc : TOk G X W e ec) (ha : EOk G X W a ea) (hb : EOk G X W b eb) :
    EOk G X W (.IfExp e a b pos) fun τ S => (ec τ S).bind fun x S => (lift S (truth S x)).bind fun k S => if k then ea τ S else eb τ S :=
  PE.weak (pe_ifExp hc ha hb) fun σ H Q ⟨m, S, τ, c, sr, p⟩ => rdB.seq c sr p fun k S1 m1 H1 c1 st p1 => by
    cases k with
    | true => exact ⟨m1, S1, τ, c1, sr.step c st, p1⟩
    | false => exact ⟨m1, S1, τ, c1, sr.step c st, p1⟩
/-! arguments, displays -/
theorem a_nil : AOk G X W [] fun _ S => .ok [] S := PA.weak pa_nil fun σ H Q ⟨m, S, τ, c, sr, p⟩ => p [] m H c Stp.refl .nil
theorem a_cons {e : Expr} {es : List Expr} {ee : Ev D} {ees : Ev (List D)} (he : EOk G X W e ee) (hes : AOk G X W es ees) (hs : starEach (e :: es) X.env = (false, eval e X.env) :: starEach es X.env) :
    AOk G X W (e :: es) fun τ S => (ee τ S).bind fun d S => (ees τ S).bind fun ds S => .ok (d :: ds) S :=
  PA.weak (pa_cons he hes hs) fun σ H Q ⟨m, S, τ, c, sr, p⟩ => rdE.seq c sr p fun v d S1 m1 H1 c1 st r p1 => rdA.seq c1 (sr.step c st) p1 fun vs ds S2 m2 H2 c2 st2 rs p2 =>
    p2 _ m2 H2 c2 Stp.refl (.cons (r.step c1 st2) rs)
theorem e_tup {es : List Expr} {ees : Ev (List D)} {x1 : Nat} {pos : Pos} (hes : AOk G X W es ees) (hl : es.length ≤ LINE) (hlen : ∀ τ S ds S', ees τ S = .ok ds S' → ds.length = es.length) : EOk G X W (.Tuple es x1 pos) fun τ S => (ees τ S).bind fun ds S => .ok (.tup ds) S :=
  PE.weak (pe_tup hes) fun σ H Q ⟨m, S, τ, c, sr, p⟩ => by
    dsimp only at p
    refine ⟨m, S, τ, c, sr, ?_⟩
    cases e : ees τ S with
    | bad => rw [e] at p; exact p.elim
    | exc x S' => rw [e] at p; exact p
    | ok ds S' =>
      rw [e] at p
      intro vs m1 H1 c1 st rs
      refine ⟨by rw [rs.length, ← line_eq, hlen τ S ds S' e]; exact hl, fun q hq => ?_⟩
      obtain ⟨c', st', r'⟩ := VR.newT c1 hq rs
      exact p _ _ _ c' (st.trans st') r'
theorem f_lst {es : List Expr} {ees : Ev (List D)} {pos : Pos} (hes : AOk G X W es ees) (hl : es.length ≤ LINE) (hlen : ∀ τ S ds S', ees τ S = .ok ds S' → ds.length = es.length) : FOk G X W (.List es pos) fun τ S => (ees τ S).bind fun ds S => .ok (.vl ds) S :=
  PE.weak (pe_lst hes) fun σ H Q ⟨m, S, τ, c, sr, p⟩ => by
    dsimp only at p
    refine ⟨m, S, τ, c, sr, ?_⟩
    cases e : ees τ S with
    | bad => rw [e] at p; exact p.elim
    | exc x S' => rw [e] at p; exact p
    | ok ds S' =>
      rw [e] at p
      intro vs m1 H1 c1 st rs
      refine ⟨by rw [rs.length, ← line_eq, hlen τ S ds S' e]; exact hl, fun q hq => ?_⟩
      exact p q vs m1 _ (c1.start hq) (st.trans (Stp.new hq)) (st.there _ (.of hq)) upd_same (c1.notin hq) (rs.start hq)
/-- ev gives lists alone -/
def Lists (ev : Ev D) : Prop := ∀ τ S d S', ev τ S = .ok d S' → ∃ ds, d = .vl ds
theorem new_out {m m1 : Mm} {S : Store} {H H1 : Hp} {q : Addr} (c : Cf G m S H) (st : Stp m H m1 H1) (h0 : Fr H q) (hm : q ∉ m1.l) : m1.out q := ⟨hm, fun z => by
  rw [st.ban] at z
  obtain ⟨ys, e3⟩ := c.bn q z
  exact h0.no e3 NoTbl.lst⟩
/-- a new list is a list -/
theorem e_ofF {e : Expr} {ev : Ev D} (h : FOk G X W e ev) (hv : Lists ev) : EOk G X W e ev :=
  PE.weak h fun σ H Q ⟨m, S, τ, c, sr, p⟩ => ⟨m, S, τ, c, sr, by
    cases e : ev τ S with
    | bad => rw [e] at p; exact p.elim
    | exc x S' => rw [e] at p; exact p
    | ok d S' =>
      obtain ⟨ds, rfl⟩ := hv _ _ _ _ e
      rw [e] at p
      intro q xs m1 H1 c1 st h0 h1 hm rs
      exact p _ m1 H1 c1.unban st (.vl h1 (new_out c st h0 hm) rs.unban)⟩
/-- .. put into the store -/
theorem e_new {e : Expr} {ev : Ev D} (h : FOk G X W e ev) : EOk G X W e fun τ S => (ev τ S).bind fun d S => match d with | .vl ds => .ok (.ref S.length) (S ++ [.lst ds]) | _ => .bad :=
  PE.weak h fun σ H Q ⟨m, S, τ, c, sr, p⟩ => ⟨m, S, τ, c, sr, by
    dsimp only at p
    cases e : ev τ S with
    | bad => rw [e] at p; exact p.elim
    | exc x S' => rw [e] at p; exact p
    | ok d S' =>
      rw [e] at p
      cases d with
      | vl ds =>
        intro q xs m1 H1 c1 st h0 h1 hm rs
        refine p _ (m1.put q) H1 (c1.put h1 hm rs) ⟨?_, st.ban, st.keep, st.there⟩ (.ref ?_)
        · obtain ⟨t, e1, e2⟩ := st.more
          refine ⟨t ++ [q], by show m1.l ++ [q] = _; rw [e1, List.append_assoc], fun a ha => ?_⟩
          rcases List.mem_append.mp ha with z | z
          · exact e2 a z
          · have : a = q := by simpa using z
            subst this; exact h0
        · show (m1.l ++ [q])[_]? = _
          have hl : m1.l.length = S'.length := c1.len
          rw [List.getElem?_append_right (by omega), ← hl]
          simp
      | _ => exact p.elim⟩
/-- a + b, a * b of lists -/
theorem f_bin {op : Operator} {f : Store → D → D → Option D} {a b : Expr} {ea eb : Ev D} {pos : Pos} (ho : OpR X (binaryOp op) (rDF G f)) (ha : EOk G X W a ea) (hb : EOk G X W b eb) :
    FOk G X W (.BinOp a op b pos) fun τ S => (ea τ S).bind fun x S => (eb τ S).bind fun y S => (lift S (f S x y)).bind fun d S => match d with | .vl ds => .ok (.vl ds) S | _ => .bad :=
  PE.weak (pe_op ho ha hb) fun σ H Q ⟨m, S, τ, c, sr, p⟩ => by
    dsimp only at p
    refine ⟨m, S, τ, c, sr, ?_⟩
    cases e : ea τ S with
    | bad => rw [e] at p; exact p.elim
    | exc x S' => rw [e] at p; exact p
    | ok d1 S1 =>
      rw [e] at p
      intro v m1 H1 c1 st r1
      refine ⟨m1, S1, τ, c1, sr.step c st, ?_⟩
      cases e2 : eb τ S1 with
      | bad => simp only [Res.bind, e2] at p; exact p.elim
      | exc x S' => simp only [Res.bind, e2] at p; exact fun cc d m' H' cf s q => p cc d m' H' cf (st.trans s) q
      | ok d2 S2 =>
        simp only [Res.bind, e2] at p
        intro u m2 H2 c2 st2 r2
        cases e3 : f S2 d1 d2 with
        | none => simp only [e3] at p; exact p.elim
        | some d =>
          simp only [e3] at p
          cases d with
          | vl ds =>
            refine ⟨m2, S2, d1, d2, ds, c2, r1.step c1 st2, r2, e3, fun q xs hq rs => ?_⟩
            have s12 := st.trans st2
            exact p q xs m2 _ (c2.start hq) (s12.trans (Stp.new hq)) (s12.there _ (.of hq)) upd_same (c2.notin hq) (rs.start hq)
          | _ => exact p.elim
/-! subscripts, slices -/
theorem e_sub (hK : X.K = G.K) {a b : Expr} {ea eb : Ev D} {pos : Pos} (ha : EOk G X W a ea) (hb : EOk G X W b eb) (hs : PlainIx b) :
    EOk G X W (.Subscript a b pos) fun τ S => (ea τ S).bind fun x S => (eb τ S).bind fun y S => lift S (sub S x y) :=
  PE.weak (pe_ix (ixD hK) ha hb hs) fun σ H Q ⟨m, S, τ, c, sr, p⟩ => rdE.seq c sr p fun v d1 S1 m1 H1 c1 st r1 p1 => rdE.seq c1 (sr.step c st) p1 fun u d2 S2 m2 H2 c2 st2 r2 p2 =>
    ⟨m2, S2, d1, d2, c2, r1.step c1 st2, r2, p2.anyE⟩
/-- a part of a slice -/
def OOk (G : Gd) (X : Cx) (W : WX) (e : Option Expr) (ev : Ev D) : Prop := ∃ t, PO X e t ∧ ∀ σ H (Q : Option Int → Hp → Prop), (∃ m S τ, Cf G m S H ∧ SR G m H σ τ ∧ Post G m H (ev τ S) (fun m' H' o d => bound d = some o) Q fun c d H' => W c d σ H') → t σ H Q
theorem o_none : OOk G X W none fun _ S => .ok .non S := ⟨_, po_none, fun σ H Q ⟨m, S, τ, c, sr, p⟩ => p none m H c Stp.refl rfl⟩
theorem o_some {e : Expr} {ev : Ev D} (h : EOk G X W e ev) : OOk G X W (some e) fun τ S => (ev τ S).bind fun d S => match d with | .int i => .ok (.int i) S | _ => .bad := ⟨_, po_some h, fun σ H Q ⟨m, S, τ, c, sr, p⟩ =>
  rdE.seq c sr p fun v d S1 m1 H1 c1 st r p1 => by
    cases r with
    | int i => exact ⟨i, rfl, p1 (some i) m1 H1 c1 Stp.refl rfl⟩
    | _ => exact p1.elim⟩
theorem e_slice (hK : X.K = G.K) {a : Expr} {lo hi : Option Expr} {ea el eh : Ev D} {p2 pos : Pos} (ha : EOk G X W a ea) (hl : OOk G X W lo el) (hh : OOk G X W hi eh) :
    EOk G X W (.Subscript a (.Slice lo hi none p2) pos) fun τ S => (ea τ S).bind fun x S => (el τ S).bind fun y S => (eh τ S).bind fun z S => lift S (slice S x y z) := by
  obtain ⟨tl, pl, wl⟩ := hl
  obtain ⟨th, ph, wh⟩ := hh
  refine PE.weak (pe_slice (slD hK) ha pl ph) fun σ H Q ⟨m, S, τ, c, sr, p⟩ => rdE.seq c sr p fun v d1 S1 m1 H1 c1 st r1 p1 => ?_
  refine wl σ H1 _ ⟨m1, S1, τ, c1, sr.step c st, Post.bind p1 fun o d2 S2 m2 H2 c2 st2 b2 p2 => ?_⟩
  refine wh σ H2 _ ⟨m2, S2, τ, c2, (sr.step c st).step c1 st2, Post.bind p2 fun o' d3 S3 m3 H3 c3 st3 b3 p3 => ?_⟩
  exact ⟨m3, S3, d1, d2, d3, c3, (r1.step c1 st2).step c2 st3, b2, b3, p3.anyE⟩
theorem e_rev (hK : X.K = G.K) {a : Expr} {ea : Ev D} {k : Nat} {p1 p2 p3 pos : Pos} (ha : EOk G X W a ea) :
    EOk G X W (.Subscript a (.Slice none none (some (.UnaryOp .USub (.Constant (.int 1) k p1) p2)) p3) pos) fun τ S => (ea τ S).bind fun x S => lift S (rev S x) :=
  PE.weak (pe_rev hK ha) fun σ H Q ⟨m, S, τ, c, sr, p⟩ => rdE.seq c sr p fun v d1 S1 m1 H1 c1 st r1 p1 => ⟨m1, S1, d1, c1, r1, p1.anyE⟩
/-! built-in functions -/
theorem e_blt {e : Expr} {es : List Expr} {ees : Ev (List D)} {id : String} {f : BF} {x : Str} {p pos : Pos} (hc : CallR X (.builtin id) (rB G f)) (hg : Gl X x) (hm : X.mg x = none) (hv : bootBuiltins x = some (.builtin id)) (ha : AOk G X W (e :: es) ees)
    (hn : x ≠ "__name__") (hdb : (x == ("__debug__" : Str)) = false) (he : starEach (e :: es) X.env = (false, eval e X.env) :: starEach es X.env) (hpl : (backTo pos (starEach es X.env)).any (·.1) = false) :
    EOk G X W (.Call (.Name x p) (e :: es) [] pos) fun τ S => (ees τ S).bind fun ds S => lift S (bcall S f ds) :=
  PE.weak (pe_callB hc hg hm hv ha hn hdb he hpl) fun σ H Q ⟨m, S, τ, c, sr, p⟩ => rdA.seq c sr p fun vs ds S1 m1 H1 c1 st r1 p1 => ⟨m1, S1, ds, c1, r1, p1.anyE⟩
theorem e_bty {e : Expr} {es : List Expr} {ees : Ev (List D)} {id : String} {f : BF} {x : Str} {p pos : Pos} (hc : CallR X (.type id) (rB G f)) (hg : Gl X x) (hm : X.mg x = none) (hv : bootBuiltins x = some (.type id)) (ha : AOk G X W (e :: es) ees)
    (hn : x ≠ "__name__") (hdb : (x == ("__debug__" : Str)) = false) (he : starEach (e :: es) X.env = (false, eval e X.env) :: starEach es X.env) (hpl : (backTo pos (starEach es X.env)).any (·.1) = false) :
    EOk G X W (.Call (.Name x p) (e :: es) [] pos) fun τ S => (ees τ S).bind fun ds S => lift S (bcall S f ds) :=
  PE.weak (pe_callTy hc hg hm hv ha hn hdb he hpl) fun σ H Q ⟨m, S, τ, c, sr, p⟩ => rdA.seq c sr p fun vs ds S1 m1 H1 c1 st r1 p1 => ⟨m1, S1, ds, c1, r1, p1.anyE⟩
end
end RA

set_option Elab.async false
set_option linter.all false
set_option maxRecDepth 100000
set_option maxHeartbeats 4000000
set_option autoImplicit false
/-! B7: methods of lists, calls of defs, what is walked, comprehensions. -/
namespace RA
open PySem PySem.Spec PyProof.Rows L2
section
variable {G : Gd} {X : Cx} {W : WX}
/-! ### methods -/
theorem VR.isL {m : Mm} {S : Store} {H : Hp} {v : V} {n : Nat} (c : Cf G m S H) (r : VR G m H v (.ref n)) : ∃ a xs ds, v = .ref a ∧ m.l[n]? = some a ∧ S[n]? = some (.lst ds) ∧ H a = some (.lst xs) ∧ VRs G m H xs ds := by
  cases r with
  | @ref n a h =>
    have hn : n < S.length := by rw [← c.len]; exact (List.getElem?_eq_some_iff.mp h).1
    cases q : S[n] with
    | lst ds =>
      have hs : S[n]? = some (.lst ds) := by rw [List.getElem?_eq_getElem hn, q]
      obtain ⟨b, xs, e1, e2, e3⟩ := c.at_ n ds hs
      rw [h] at e1; cases e1
      exact ⟨a, xs, ds, rfl, h, hs, e2, e3⟩
theorem e_append (hK : X.K = G.K) {o e : Expr} {eo ee : Ev D} {apos cpos : Pos} (ho : EOk G X W o eo) (he : EOk G X W e ee)
    (hbase : attributeBase o "append" X.env (eval o X.env) = eval o X.env)
    (hfew : ((backTo cpos (starEach [e] X.env)).all (fun x => !x.1) && (backToKw cpos (keywordEach [] X.env)).all (fun x => x.1.isSome)
      && decide ([e].length + ([] : List Keyword).length + (if ([] : List Keyword).isEmpty then 0 else 1) < 30)) = true)
    (hline : (apos.endLine == cpos.line) = true) (hs : starEach [e] X.env = (false, eval e X.env) :: starEach [] X.env) (hplain : (backTo cpos (starEach [] X.env)).any (·.1) = false) :
    EOk G X W (.Call (.Attribute o "append" apos) [e] [] cpos) fun τ S => (eo τ S).bind fun x S => match x with
      | .ref n => (ee τ S).bind fun y S => match S[n]? with
        | some (.lst ds) => if ds.length < LINE then .ok .non (S.set n (.lst (ds ++ [y]))) else .bad
        | none => .bad
      | _ => .bad :=
  PE.weak (pe_bm PySem.F.plainAttrs_list PySem.F.slot_list_append PySem.F.type_list_append mt_append ho (pa_cons he pa_nil hs) hbase hfew hline hs hplain) fun σ H Q ⟨m, S, τ, c, sr, p⟩ =>
    rdE.seq c sr p fun v d S1 m1 H1 c1 st r p1 => by
      cases d with
      | ref n =>
        obtain ⟨a, xs, ds, rfl, h1, h2, h3, h4⟩ := VR.isL c1 r
        refine ⟨.inl ⟨rfl, xs, .of h3⟩, rdE.seq c1 (sr.step c st) p1 fun u d2 S2 m2 H2 c2 st2 r2 p2 => ?_⟩
        obtain ⟨a', xs', ds', e1, h1', h2', h3', h4'⟩ := VR.isL c2 (r.step c1 st2)
        cases e1
        simp only [h2'] at p2
        by_cases hl : ds'.length < LINE
        · rw [if_pos hl] at p2
          obtain ⟨c3, st3⟩ := c2.write h1' h2' h3' (h4'.append (.cons r2 .nil))
          exact ⟨a, xs', u, rfl, rfl, h3', by rw [h4'.length, ← line_eq]; exact hl, p2 _ m2 _ c3 st3 .non⟩
        · rw [if_neg hl] at p2; exact p2.elim
      | _ => exact p1.elim
theorem natIx_seq {n : Nat} {i : Int} {j : Nat} (h : natIx n i = some j) : seqIndex? i n = some j ∧ j < n ∧ -(n : Int) ≤ i ∧ i < n := ixN_seq (by rw [← natIx_eq]; exact h)
theorem e_pop (hK : X.K = G.K) {o e : Expr} {eo ee : Ev D} {apos cpos : Pos} (ho : EOk G X W o eo) (he : EOk G X W e ee)
    (hbase : attributeBase o "pop" X.env (eval o X.env) = eval o X.env)
    (hfew : ((backTo cpos (starEach [e] X.env)).all (fun x => !x.1) && (backToKw cpos (keywordEach [] X.env)).all (fun x => x.1.isSome)
      && decide ([e].length + ([] : List Keyword).length + (if ([] : List Keyword).isEmpty then 0 else 1) < 30)) = true)
    (hline : (apos.endLine == cpos.line) = true) (hs : starEach [e] X.env = (false, eval e X.env) :: starEach [] X.env) (hplain : (backTo cpos (starEach [] X.env)).any (·.1) = false) :
    EOk G X W (.Call (.Attribute o "pop" apos) [e] [] cpos) fun τ S => (eo τ S).bind fun x S => match x with
      | .ref n => (ee τ S).bind fun y S => match y with
        | .int k => if -(2 ^ 62) ≤ k ∧ k < 2 ^ 62 then (match S[n]? with
          | some (.lst ds) => match natIx ds.length k with
            | some j => match ds[j]? with
              | some d => .ok d (S.set n (.lst (ds.eraseIdx j)))
              | none => .bad
            | none => .bad
          | none => .bad) else .bad
        | _ => .bad
      | _ => .bad :=
  PE.weak (pe_bm PySem.F.plainAttrs_list PySem.F.slot_list_pop PySem.F.type_list_pop mt_popAt ho (pa_cons he pa_nil hs) hbase hfew hline hs hplain) fun σ H Q ⟨m, S, τ, c, sr, p⟩ =>
    rdE.seq c sr p fun v d S1 m1 H1 c1 st r p1 => by
      cases d with
      | ref n =>
        obtain ⟨a, xs, ds, rfl, h1, h2, h3, h4⟩ := VR.isL c1 r
        refine ⟨.inl ⟨rfl, xs, .of h3⟩, rdE.seq c1 (sr.step c st) p1 fun u d2 S2 m2 H2 c2 st2 r2 p2 => ?_⟩
        obtain ⟨a', xs', ds', e1, h1', h2', h3', h4'⟩ := VR.isL c2 (r.step c1 st2)
        cases e1
        cases r2 with
        | int k =>
          by_cases hk : -(2 ^ 62) ≤ k ∧ k < 2 ^ 62
          case neg => simp only [if_neg hk] at p2; exact p2.elim
          simp only [if_pos hk, h2'] at p2
          cases e2 : natIx ds'.length k with
          | none => simp only [e2] at p2; exact p2.elim
          | some j =>
            simp only [e2] at p2
            cases e3 : ds'[j]? with
            | none => simp only [e3] at p2; exact p2.elim
            | some d =>
              simp only [e3] at p2
              obtain ⟨z, hz, rz⟩ := h4'.get e3
              obtain ⟨q1, q2, q3, q4⟩ := natIx_seq e2
              obtain ⟨c3, st3⟩ := c2.write h1' h2' h3' (h4'.eraseIdx j)
              exact ⟨a, xs', k, j, z, rfl, rfl, h3', by omega, by omega, by rw [h4'.length]; exact q1, hz, p2 _ m2 _ c3 st3 (rz.step c2 st3)⟩
        | _ => exact p2.elim
      | _ => exact p1.elim
/-! ### calls of defs -/
structure RoomG (k : Nat) (A : Around) : Prop where
  room : Room k A
  gd : A.guards = some []
theorem RoomG.mono {j k : Nat} {A : Around} (r : RoomG k A) (h : j ≤ k) : RoomG j A := ⟨r.room.mono h, r.gd⟩
theorem RoomG.deeper {k : Nat} {A : Around} (r : RoomG (k + 1) A) (env : Env) : RoomG k (A.deeper env) := ⟨r.room.deeper env, r.gd⟩
/-- the def at f keeps its promise, by k levels -/
structure Prom (P : Program) (w : World) (K : PySem.W.Frag) (mg : Str → Option Value) (base : Heap) (k : Nat) (f : Addr) (sp : Sp) : Prop where
  kp : PySem.W.keepIn K (.ref f) = true
  run : ∀ (A : Around) (outer : List Env) (s : Shared) (H : Hp) (us : List Value) (vs : List V) (Q : VK) (E : XK), RoomG k A → Env0 P w K mg base A outer s H → Vals vs us → sp vs H Q E →
    codeAny (model P w) A (.call (.ref f) ⟨us, []⟩) (CR (L2.CX P w) outer P w H s Q E) s
/-- what ev gives -/
def spI (G : Gd) (ev : List D → Store → Res D) : Sp := fun vs H Q E => ∃ m S ds, Cf G m S H ∧ VRs G m H vs ds ∧ Post G m H (ev ds S) (VR G) Q E
theorem run_prom {pins : List (Addr × Obj)} {σ : L2.St} {H : Hp} {s : Shared} {Q : VK} {us : List Value} {vs : List V} {k : Nat} {f : Addr} {sp : Sp} (F : Prom X.prog X.w X.K X.mg X.base k f sp) (hr : RoomG k X.A) (tk : Takes X W)
    (I : Inv X pins σ H s) (r : Vals vs us) (h : sp vs H Q (WE W σ)) : wpAny (model X.prog X.w) X.A (call (.ref f) us) (EP X pins σ Q) X.xe s := by
  refine wpAny_call (codeAny_mono (F.run X.A X.stack s H us vs Q (WE W σ) hr I.env0 r h) fun res s' hq => ?_)
  cases res with
  | error e => exact passAt tk σ pins H s e s' I hq
  | ok fl =>
    cases fl with
    | ret u => exact I.after hq
    | next => exact False.elim hq
    | brk => exact False.elim hq
    | cont => exact False.elim hq
theorem e_call {k : Nat} {f : Addr} {ev : List D → Store → Res D} {x : Str} {e : Expr} {es : List Expr} {ees : Ev (List D)} {p pos : Pos} (F : Prom X.prog X.w X.K X.mg X.base k f (spI G ev)) (hr : RoomG k X.A) (tk : Takes X W)
    (hg : Gl X x) (hm : X.mg x = some (.ref f)) (ha : AOk G X W (e :: es) ees) (hdb : (x == ("__debug__" : Str)) = false)
    (he : starEach (e :: es) X.env = (false, eval e X.env) :: starEach es X.env) (hpl : (backTo pos (starEach es X.env)).any (·.1) = false) :
    EOk G X W (.Call (.Name x p) (e :: es) [] pos) fun τ S => (ees τ S).bind fun ds S => ev ds S := by
  refine ⟨fun pins s σ H Q I ⟨m, S, τ, c, sr, pp⟩ => ?_⟩
  refine wpAny_Call_Name_kw (ld_glob I hg hm ?_ hdb)
  refine PySem.W.callWith_K (h₀ := X.base) I.ok.mod.kin F.kp (thn (ha.run pos pins s σ H _ I (rdA.seq (K := fun vs H1 => spI G ev vs H1 Q (WE W σ)) c sr pp fun vs ds S1 m1 H1 c1 st rs p1 => ⟨m1, S1, ds, c1, rs, p1⟩)) fun us s1 ⟨vs, H1, I1, r, q⟩ => ⟨I1.kIn, ?_⟩) he hpl
  exact run_prom F hr tk I1 r q
theorem e_callv {k i : Nat} {fn : Nat → List D → Store → Res D} {x : Str} {e : Expr} {es : List Expr} {ees : Ev (List D)} {p pos : Pos} (F : ∀ j f, G.FA j = some f → Prom X.prog X.w X.K X.mg X.base k f (spI G (fn j))) (hr : RoomG k X.A) (tk : Takes X W)
    (hN : X.N[i]? = some x) (hv : Vis X.env.scope x) (ha : AOk G X W (e :: es) ees) (hdb : (x == ("__debug__" : Str)) = false) (hcd : (x == ("__classdict__" : Str)) = false)
    (he : starEach (e :: es) X.env = (false, eval e X.env) :: starEach es X.env) (hpl : (backTo pos (starEach es X.env)).any (·.1) = false) :
    EOk G X W (.Call (.Name x p) (e :: es) [] pos) fun τ S => (match τ[i]? with | some (some d) => Res.ok d S | _ => .bad).bind fun x S => match x with
      | .fn j => (ees τ S).bind fun ds S => fn j ds S
      | _ => .bad := by
  refine ⟨fun pins s σ H Q I ⟨m, S, τ, c, sr, pp⟩ => ?_⟩
  cases e1 : τ[i]? with
  | none => simp only [e1] at pp; exact pp.elim
  | some o =>
    cases o with
    | none => simp only [e1] at pp; exact pp.elim
    | some d =>
      simp only [e1, Res.bind] at pp
      obtain ⟨v, hv', rv⟩ := sr.at_ i d e1
      cases rv with
      | @fn j f hf =>
        refine wpAny_Call_Name_kw (thn ((pe_var (pos := p) hN hv hdb hcd).run pins s σ H (fun v H1 => v = .ref f ∧ H1 = H) I ⟨.ref f, hv', rfl, rfl⟩) fun u s1 ⟨v, H1, I1, r1, q1⟩ => ?_)
        obtain ⟨rfl, rfl⟩ := q1
        cases r1
        refine PySem.W.callWith_K (h₀ := X.base) I.ok.mod.kin (F j f hf).kp (thn (ha.run pos pins s1 σ _ _ I1 (rdA.seq (K := fun vs H1 => spI G (fn j) vs H1 Q (WE W σ)) c sr pp fun vs ds S1 m1 H1 c1 st rs p1 => ⟨m1, S1, ds, c1, rs, p1⟩)) fun us s2 ⟨vs, H2, I2, r, q⟩ => ⟨I2.kIn, ?_⟩) he hpl
        exact run_prom (F j f hf) hr tk I2 r q
      | _ => exact pp.elim

/-! ### what is walked -/
/-- what is known at m0, H0 holds at m, H -/
structure Tr (G : Gd) (m0 : Mm) (H0 : Hp) (m : Mm) (H : Hp) : Prop where
  val : ∀ v d, VR G m0 H0 v d → VR G m H v d
  tup : ∀ a xs, SqT G.K H0 a xs → SqT G.K H a xs
  lst : ∀ a xs, H0 a = some (.lst xs) → m0.out a → H a = some (.lst xs)
  ro : ∀ a xs, Rd H0 a (.lst xs) → m0.out a → Rd H a (.lst xs)
  at_ : ∀ (n : Nat) a, m0.l[n]? = some a → m.l[n]? = some a
theorem Tr.of_stp {m m' : Mm} {S : Store} {H H' : Hp} (c : Cf G m S H) (st : Stp m H m' H') : Tr G m H m' H' := ⟨fun _ _ r => r.step c st, fun _ _ h => SqT.step c st h, fun _ _ h hm => st.keep _ _ h NoTbl.lst hm.1, fun _ _ h hm => Rd.step st h NoTbl.lst hm.1, fun _ _ h => st.at_ h⟩
theorem Tr.trans {m0 m1 m2 : Mm} {H0 H1 H2 : Hp} (a : Tr G m0 H0 m1 H1) (ha : ∀ b, m0.out b → (∃ o, H0 b = some o) → m1.out b) (b : Tr G m1 H1 m2 H2) : Tr G m0 H0 m2 H2 := ⟨fun _ _ r => b.val _ _ (a.val _ _ r), fun _ _ h => b.tup _ _ (a.tup _ _ h),
  fun _ _ h hm => b.lst _ _ (a.lst _ _ h hm) (ha _ hm ⟨_, h⟩), fun _ _ h hm => b.ro _ _ (a.ro _ _ h hm) (ha _ hm (by rcases h with h | ⟨u, h⟩ <;> exact ⟨_, h⟩)), fun _ _ h => b.at_ _ _ (a.at_ _ _ h)⟩
/-- J yields the items -/
structure Yields (G : Gd) (m0 : Mm) (H0 : Hp) (J : It) (it : List D × Option Nat) : Prop where
  go : ∀ m S H i, Cf G m S H → Tr G m0 H0 m H → still S it = true → i < it.1.length → J.go i H
  stop : ∀ m S H, Cf G m S H → Tr G m0 H0 m H → still S it = true → J.stop it.1.length H
  yld : ∀ m S H i v H', Cf G m S H → Tr G m0 H0 m H → still S it = true → i < it.1.length → J.yld i H v H' → ∃ d, it.1[i]? = some d ∧ Cf G m S H' ∧ Stp m H m H' ∧ VR G m H' v d ∧ ∀ a o, H a = some o → H' a = some o
/-- what is walked gives the items that ev tells -/
def IOk (G : Gd) (X : Cx) (W : WX) (tg e : Expr) (ev : Ev (List D × Option Nat)) : Prop :=
  ∃ wi, PI X tg e wi ∧ ∀ σ H (R : It → Hp → Prop), (∃ m S τ, Cf G m S H ∧ SR G m H σ τ ∧ Post G m H (ev τ S) (fun m' H' J it => Yields G m' H' J it) R fun c d H' => W c d σ H') → wi σ H R
mutual
theorem D.beq_eq : ∀ {a b : D}, D.beq a b = true → a = b
  | .non, b, h => by cases b with
    | non => rfl
    | _ => cases h
  | .bl x, b, h => by cases b with
    | bl y => rw [show x = y from by simpa [D.beq] using h]
    | _ => cases h
  | .int x, b, h => by cases b with
    | int y => rw [show x = y from by simpa [D.beq] using h]
    | _ => cases h
  | .str x, b, h => by cases b with
    | str y => rw [show x = y from by simpa [D.beq] using h]
    | _ => cases h
  | .tup x, b, h => by cases b with
    | tup y => rw [D.beqs_eq (a := x) (b := y) (by simpa [D.beq] using h)]
    | _ => cases h
  | .vl x, b, h => by cases b with
    | vl y => rw [D.beqs_eq (a := x) (b := y) (by simpa [D.beq] using h)]
    | _ => cases h
  | .ro x, b, h => by cases b with
    | ro y => rw [D.beqs_eq (a := x) (b := y) (by simpa [D.beq] using h)]
    | _ => cases h
  | .vd x y, b, h => by cases b with
    | vd z w =>
      have h' : D.beqs x z = true ∧ D.beqs y w = true := by simpa [D.beq] using h
      rw [D.beqs_eq h'.1, D.beqs_eq h'.2]
    | _ => cases h
  | .ref x, b, h => by cases b with
    | ref y => rw [show x = y from by simpa [D.beq] using h]
    | _ => cases h
  | .fn x, b, h => by cases b with
    | fn y => rw [show x = y from by simpa [D.beq] using h]
    | _ => cases h
  | .ty x, b, h => by cases b with
    | ty y => rw [show x = y from by simpa [D.beq] using h]
    | _ => cases h
theorem D.beqs_eq : ∀ {a b : List D}, D.beqs a b = true → a = b
  | [], b, h => by cases b with
    | nil => rfl
    | cons y ys => cases h
  | x :: xs, b, h => by
    cases b with
    | nil => cases h
    | cons y ys =>
      have h' : D.beq x y = true ∧ D.beqs xs ys = true := by simpa [D.beqs] using h
      rw [D.beq_eq h'.1, D.beqs_eq h'.2]
end
theorem get_of_lt {α : Type} {l : List α} {i : Nat} (h : i < l.length) : ∃ d, l[i]? = some d := ⟨l[i], List.getElem?_eq_getElem h⟩
/-- a list that does not change, a tuple -/
theorem yields_tup {m0 : Mm} {H0 : Hp} {a : Addr} {xs : List V} {ds : List D} (h : SqT G.K H0 a xs) (rs : VRs G m0 H0 xs ds) : Yields G m0 H0 (Itt G.K a) (ds, none) where
  go := fun m S H i c st _ hi => by
    obtain ⟨d, hd⟩ := get_of_lt (show i < ds.length from hi)
    obtain ⟨v, hv, _⟩ := rs.get hd
    exact ⟨xs, v, st.tup _ _ h, hv⟩
  stop := fun m S H c st _ => ⟨xs, st.tup _ _ h, Nat.le_of_eq rs.length⟩
  yld := fun m S H i v H' c st _ hi hy => by
    obtain ⟨e, hy⟩ := hy
    subst e
    obtain ⟨d, hd⟩ := get_of_lt (show i < ds.length from hi)
    obtain ⟨u, hu, ru⟩ := rs.get hd
    have := hy xs (st.tup _ _ h)
    rw [hu] at this
    cases this
    exact ⟨d, hd, c, Stp.refl, st.val _ _ ru, fun _ _ e => e⟩
theorem yields_lst {m0 : Mm} {H0 : Hp} {a : Addr} {xs : List V} {ds : List D} (h : ∀ m H, Tr G m0 H0 m H → SqL G.K H a xs) (rs : VRs G m0 H0 xs ds) : Yields G m0 H0 (Itl G.K a) (ds, none) where
  go := fun m S H i c st _ hi => by
    obtain ⟨d, hd⟩ := get_of_lt (show i < ds.length from hi)
    obtain ⟨v, hv, _⟩ := rs.get hd
    exact ⟨xs, v, h m H st, hv⟩
  stop := fun m S H c st _ => ⟨xs, h m H st, Nat.le_of_eq rs.length⟩
  yld := fun m S H i v H' c st _ hi hy => by
    obtain ⟨e, hy⟩ := hy
    subst e
    obtain ⟨d, hd⟩ := get_of_lt (show i < ds.length from hi)
    obtain ⟨u, hu, ru⟩ := rs.get hd
    have := hy xs (h m _ st)
    rw [hu] at this
    cases this
    exact ⟨d, hd, c, Stp.refl, st.val _ _ ru, fun _ _ e => e⟩
/-- a list of the store -/
theorem yields_ref {m0 : Mm} {H0 : Hp} {a : Addr} {n : Nat} {ds : List D} (h : m0.l[n]? = some a) : Yields G m0 H0 (Itl G.K a) (ds, some n) := by
  have look : ∀ m S H, Cf G m S H → Tr G m0 H0 m H → still S (ds, some n) = true → ∃ xs, H a = some (.lst xs) ∧ VRs G m H xs ds := fun m S H c st hs => by
    have hs' : (match S[n]? with | some (.lst es) => D.beqs ds es | none => false) = true := hs
    cases e : S[n]? with
    | none => rw [e] at hs'; cases hs'
    | some o =>
      cases o with
      | lst es =>
        rw [e] at hs'
        have : ds = es := D.beqs_eq hs'
        subst this
        obtain ⟨b, xs, e1, e2, e3⟩ := c.at_ n ds e
        rw [st.at_ _ _ h] at e1; cases e1
        exact ⟨xs, e2, e3⟩
  refine ⟨fun m S H i c st hs hi => ?_, fun m S H c st hs => ?_, fun m S H i v H' c st hs hi hy => ?_⟩
  · obtain ⟨xs, h1, rs⟩ := look m S H c st hs
    obtain ⟨d, hd⟩ := get_of_lt (show i < ds.length from hi)
    obtain ⟨v, hv, _⟩ := rs.get hd
    exact ⟨xs, v, .of h1, hv⟩
  · obtain ⟨xs, h1, rs⟩ := look m S H c st hs
    exact ⟨xs, .of h1, Nat.le_of_eq rs.length⟩
  · obtain ⟨e, hy⟩ := hy
    subst e
    obtain ⟨xs, h1, rs⟩ := look m S _ c st hs
    obtain ⟨d, hd⟩ := get_of_lt (show i < ds.length from hi)
    obtain ⟨u, hu, ru⟩ := rs.get hd
    have := hy xs (.of h1)
    rw [hu] at this
    cases this
    exact ⟨d, hd, c, Stp.refl, ru, fun _ _ e => e⟩
theorem yields_str {m0 : Mm} {H0 : Hp} {z : Str} : Yields G m0 H0 (Its z) (chars z, none) where
  go := fun m S H i c st _ hi => by
    have : i < (chars z).length := hi
    unfold chars at this
    rw [List.length_map, Array.length_toList] at this
    exact this
  stop := fun m S H c st _ => by
    show z.cps.size ≤ (chars z).length
    unfold chars
    rw [List.length_map, Array.length_toList]
    exact Nat.le_refl _
  yld := fun m S H i v H' c st _ hi hy => by
    obtain ⟨e, cc, h1, h2⟩ := hy
    subst e; subst h2
    refine ⟨.str ⟨#[cc]⟩, ?_, c, Stp.refl, .str _, fun _ _ e => e⟩
    show (chars z)[i]? = _
    unfold chars
    rw [List.getElem?_map, Array.getElem?_toList, h1]
    rfl
theorem yields_rng {m0 : Mm} {H0 : Hp} {lo : Int} {n : Nat} : Yields G m0 H0 (Itr lo n) ((List.range n).map fun i => D.int (lo + (i : Nat)), none) where
  go := fun m S H i c st _ hi => by
    have hi' : i < n := by simpa using hi
    exact hi'
  stop := fun m S H c st _ => by
    show n ≤ ((List.range n).map fun i => D.int (lo + (i : Nat))).length
    rw [List.length_map, List.length_range]
    exact Nat.le_refl _
  yld := fun m S H i v H' c st _ hi hy => by
    obtain ⟨e, h2⟩ := hy
    subst e; subst h2
    refine ⟨.int (lo + (i : Nat)), ?_, c, Stp.refl, .int _, fun _ _ e => e⟩
    have hi' : i < n := by simpa using hi
    show ((List.range n).map fun i => D.int (lo + (i : Nat)))[i]? = _
    rw [List.getElem?_map, List.getElem?_range hi']
    rfl
theorem pi_val {tg e : Expr} {te : TE} (he : PE X e te) : PI X tg e fun σ H R => te σ H fun x H1 =>
    (∃ a, x = .ref a ∧ (∃ xs, SqL X.K H1 a xs) ∧ R (Itl X.K a) H1) ∨ (∃ a, x = .ref a ∧ (∃ xs, SqT X.K H1 a xs) ∧ R (Itt X.K a) H1) ∨ ∃ z, x = .str z ∧ R (Its z) H1 := by
  refine ⟨fun pins s σ H R I h => thn (he.run pins s σ H _ I h) fun v s1 ⟨x, H1, I1, r1, q1⟩ => ?_⟩
  have fresh : ∀ b ∈ [s1.heap.objs.size], FpOk X pins H1 b := fun b hb => by
    have e : b = s1.heap.objs.size := by simpa using hb
    rw [e]
    exact I1.fpOk (Nat.le_refl _) (I1.hok.fresh (Nat.le_refl _))
  rcases q1 with ⟨a, rfl, ⟨xs, hq⟩, q⟩ | ⟨a, rfl, ⟨xs, hq⟩, q⟩ | ⟨z, rfl, q⟩
  · cases r1
    obtain ⟨its, rv, pl, hz⟩ := I1.list hq
    exact wpAny_pyIter_list pl.isList ⟨s1.heap.objs.size, [s1.heap.objs.size], _, _, H1, rfl, I1.kept (t' := s1.toks) fun b o e => Heap.get?_push_of_some _ e, turn_list a _, ⟨_, Heap.get?_push_size _ rfl, rfl, rfl⟩, fresh, q⟩
  · cases r1
    obtain ⟨its, rv, pl, hz⟩ := I1.tuple hq
    exact wpAny_pyIter_tuple (show s1.heap.IsTuple a its.toArray from pl) ⟨s1.heap.objs.size, [s1.heap.objs.size], _, _, H1, rfl, I1.kept (t' := s1.toks) fun b o e => Heap.get?_push_of_some _ e, turn_tuple a _, ⟨_, Heap.get?_push_size _ rfl, rfl, rfl⟩, fresh, q⟩
  · obtain ⟨t, rfl⟩ := r1
    cases ha : z.cps.all (· < 128)
    · exact wpAny_pyIter_wide ha (pi_one (tk := s1.toks) I1 _ (turn_str _ z t "str_iterator" (.inr rfl)) ⟨_, Heap.get?_push_size _ rfl, rfl, rfl⟩ q)
    · exact wpAny_pyIter_ascii ha (pi_one (tk := s1.toks) I1 _ (turn_str _ z t "str_ascii_iterator" (.inl rfl)) ⟨_, Heap.get?_push_size _ rfl, rfl, rfl⟩ q)
theorem i_val (hK : X.K = G.K) {tg e : Expr} {ee : Ev D} (he : EOk G X W e ee) : IOk G X W tg e fun τ S => (ee τ S).bind fun d S => lift S (srcOf S .val [d]) := by
  refine ⟨_, pi_val he, fun σ H R ⟨m, S, τ, c, sr, p⟩ => rdE.seq c sr p fun v d S1 m1 H1 c1 st r p1 => ?_⟩
  cases r with
  | str z => exact .inr (.inr ⟨z, rfl, p1 _ m1 H1 c1 Stp.refl yields_str⟩)
  | tup h q => exact .inr (.inl ⟨_, rfl, ⟨_, hK ▸ h⟩, hK ▸ p1 _ m1 H1 c1 Stp.refl (yields_tup h q)⟩)
  | vl h hm q => exact .inl ⟨_, rfl, ⟨_, .of h⟩, hK ▸ p1 _ m1 H1 c1 Stp.refl (yields_lst (fun m' H' st' => .of (st'.lst _ _ h hm)) q)⟩
  | ro h q =>
    have hs : ∀ m' H', Tr G m1 H1 m' H' → SqL G.K H' _ _ := fun m' H' st' => by
      rcases h with ⟨h, hm⟩ | h
      · exact .inl (st'.ro _ _ h hm)
      · exact .inr h
    exact .inl ⟨_, rfl, ⟨_, hK ▸ hs m1 H1 (Tr.of_stp c1 Stp.refl)⟩, hK ▸ p1 _ m1 H1 c1 Stp.refl (yields_lst hs q)⟩
  | @ref n a h =>
    obtain ⟨a', xs, ds, e1, h1, h2, h3, h4⟩ := VR.isL c1 (.ref h)
    cases e1
    have p2 : Post G m1 H1 (RA.lift S1 (some (ds, some n))) (fun m' H' J it => Yields G m' H' J it) R fun c d H' => W c d σ H' := by
      have : srcOf S1 .val [D.ref n] = some (ds, some n) := by
        show (match S1[n]? with | some (.lst ds) => some (ds, some n) | none => none) = _
        rw [h2]
      rw [← this]; exact p1
    exact .inl ⟨a, rfl, ⟨_, .of h3⟩, hK ▸ p2 _ m1 H1 c1 Stp.refl (yields_ref h)⟩
  | _ => exact p1.elim
theorem i_rng1 {tg e : Expr} {p pos : Pos} {ees : Ev (List D)} (hg : Gl X "range") (hm : X.mg "range" = none) (ha : AOk G X W [e] ees) (hs : starEach [e] X.env = [(false, eval e X.env)]) :
    IOk G X W tg (.Call (.Name "range" p) [e] [] pos) fun τ S => (ees τ S).bind fun ds S => lift S (srcOf S .rng1 ds) := by
  refine ⟨_, pi_range1 hg hm ha hs, fun σ H R ⟨m, S, τ, c, sr, p⟩ => rdA.seq c sr p fun vs ds S1 m1 H1 c1 st r p1 => ?_⟩
  obtain ⟨it, e1, k⟩ := Post.lift p1
  match ds, r, e1 with
  | [.int j], .cons (.int _) .nil, e1 =>
    obtain ⟨⟨h1, h2⟩, rfl⟩ := some_if (show (if -(2 ^ 62) ≤ j ∧ j < 2 ^ 62 then some ((List.range j.toNat).map fun i => D.int (0 + (i : Nat)), Option.none) else Option.none) = some it from e1)
    exact ⟨j, rfl, h1, h2, k _ m1 H1 c1 Stp.refl yields_rng⟩
theorem i_rng2 {tg a b : Expr} {p pos : Pos} {ees : Ev (List D)} (hg : Gl X "range") (hm : X.mg "range" = none) (ha : AOk G X W [a, b] ees) (hs : starEach [a, b] X.env = [(false, eval a X.env), (false, eval b X.env)]) (hs2 : starEach [b] X.env = [(false, eval b X.env)]) :
    IOk G X W tg (.Call (.Name "range" p) [a, b] [] pos) fun τ S => (ees τ S).bind fun ds S => lift S (srcOf S .rng2 ds) := by
  refine ⟨_, pi_range2 hg hm ha hs hs2, fun σ H R ⟨m, S, τ, c, sr, p⟩ => rdA.seq c sr p fun vs ds S1 m1 H1 c1 st r p1 => ?_⟩
  obtain ⟨it, e1, k⟩ := Post.lift p1
  match ds, r, e1 with
  | [.int i, .int j], .cons (.int _) (.cons (.int _) .nil), e1 =>
    obtain ⟨⟨h1, h2, h3, h4⟩, rfl⟩ := some_if (show (if -(2 ^ 62) ≤ i ∧ i < 2 ^ 62 ∧ -(2 ^ 62) ≤ j ∧ j < 2 ^ 62 then some ((List.range (j - i).toNat).map fun k => D.int (i + (k : Nat)), Option.none) else Option.none) = some it from e1)
    exact ⟨i, j, rfl, ⟨h1, h2, h3, h4⟩, k _ m1 H1 c1 Stp.refl yields_rng⟩
end
end RA

set_option Elab.async false
set_option linter.all false
set_option maxRecDepth 100000
set_option maxHeartbeats 4000000
set_option autoImplicit false
/-! B7z: zip and enumerate over lists and tuples, in any mixture. -/
namespace RA
open PySem PySem.Spec PyProof.Rows L2
/-- a list's iterator, a tuple's -/
def itK (k : Bool) (h : Heap) (it a : Addr) (i : Nat) : Prop := match k with
  | true => h.IsListIter it a i
  | false => h.IsTupleIter it a i
def sqK (k : Bool) (h : Heap) (a : Addr) (its : Array Value) : Prop := match k with
  | true => h.IsList a its
  | false => h.IsTuple a its
def SqG (K : PySem.W.Frag) (k : Bool) (H : Hp) (a : Addr) (xs : List V) : Prop := match k with
  | true => SqL K H a xs
  | false => SqT K H a xs
theorem sqG_at {X : Cx} {pins : List (Addr × Obj)} {σ : L2.St} {H : Hp} {s : Shared} (I : Inv X pins σ H s) {k : Bool} {a : Addr} {xs : List V} (h : SqG X.K k H a xs) : ∃ its, Vals xs its ∧ sqK k s.heap a its.toArray ∧ a < s.heap.objs.size := by
  cases k with
  | true =>
    obtain ⟨its, r, p, _⟩ := I.list h
    exact ⟨its, r, p.isList, p.lt⟩
  | false =>
    obtain ⟨its, r, p, _⟩ := I.tuple h
    obtain ⟨o, ho, _⟩ := id p
    exact ⟨its, r, p, Heap.lt_size ho⟩
theorem sqG_inj {X : Cx} {pins : List (Addr × Obj)} {σ : L2.St} {H : Hp} {s : Shared} (I : Inv X pins σ H s) {k : Bool} {a : Addr} {xs ys : List V} (h : SqG X.K k H a xs) (g : SqG X.K k H a ys) : xs = ys := by
  cases k with
  | true => exact I.list_inj h g
  | false => exact I.tuple_inj h g
theorem itK_obj {k : Bool} {h : Heap} {it a : Addr} {i : Nat} (q : itK k h it a i) : ∃ o, h.get? it = some o ∧ ∀ v, o.data ≠ .cell v := by
  cases k <;> (
    obtain ⟨o, e, _, d⟩ := q
    exact ⟨o, e, fun v z => by rw [d] at z; cases z⟩)
theorem itK_at {k : Bool} {h h' : Heap} {it a : Addr} {i : Nat} (q : itK k h it a i) (m : ∀ o, h.get? it = some o → h'.get? it = some o) : itK k h' it a i := by
  cases k with
  | true => exact Heap.IsListIter.at (show h.IsListIter it a i from q) m
  | false => exact Heap.IsTupleIter.at (show h.IsTupleIter it a i from q) m
theorem itK_lt {k : Bool} {h : Heap} {it a : Addr} {i : Nat} (q : itK k h it a i) : it < h.objs.size := by
  obtain ⟨o, e, _⟩ := itK_obj q
  exact Heap.lt_size e
theorem drawsK {P : Program} {w : World} {A : Around} (hh : A.handled = none) (k : Bool) (it a : Addr) (hne : a ≠ it) (its : Array Value) : Draws P w A it [it, a] its.size (fun i v => its[i]? = some v) (fun i h => itK k h it a i ∧ sqK k h a its) := by
  cases k with
  | true => exact Draws.list hh it a hne its
  | false => exact Draws.tuple hh it a hne its
/-- a fresh iterator -/
def itO (k : Bool) (a : Addr) : Obj := match k with
  | true => { cls := .type "list_iterator", data := .fields #[.ref a, .int 0 0] }
  | false => { cls := .type "tuple_iterator", data := .fields #[.ref a, .int 0 0] }
theorem beginsK (k : Bool) (a : Addr) (its : Array Value) : Begins (.ref a) (itO k a) fun h => sqK k h a its := by
  cases k with
  | true => exact begins_list a its
  | false => exact begins_tuple a its
theorem itK_new {k : Bool} {h : Heap} {it a : Addr} (e : h.get? it = some (itO k a)) : itK k h it a 0 := by
  cases k <;> exact ⟨_, e, rfl, rfl⟩
/-! ### zip -/
def ItzG (K : PySem.W.Frag) (k1 k2 : Bool) (a b : Addr) : It where
  go := fun i H => ∃ (xs ys : List V) (x y : V), SqG K k1 H a xs ∧ SqG K k2 H b ys ∧ xs[i]? = some x ∧ ys[i]? = some y
  yld := fun i H v H' => ∃ (T : Addr) (x y : V), v = .ref T ∧ H T = none ∧ H' = upd H T (.tup [x, y]) ∧ (∀ l, SqG K k1 H a l → l[i]? = some x) ∧ ∀ l, SqG K k2 H b l → l[i]? = some y
  stop := fun i H => ∃ xs ys : List V, SqG K k1 H a xs ∧ SqG K k2 H b ys ∧ i = min xs.length ys.length
theorem turn_zipG {P : Program} {w : World} {K : PySem.W.Frag} {elts : List Expr} {kk : Nat} {tpos : Pos} {a b z TI TO i1 i2 : Addr} (k1 k2 : Bool) (Z : ZipSep2 z TI TO i1 i2 [i1, a] [i2, b]) (n1 : a ≠ i1) (n2 : b ≠ i2) :
    Turn P w K (.Tuple elts kk tpos) (ItzG K k1 k2 a b) [z, TI, TO, i1, i2] z
      (fun i h => IsZip h z TI TO .none ∧ IsTupOf2 h TI (.ref i1) (.ref i2) ∧ (∃ x y, IsTupOf2 h TO x y) ∧ itK k1 h i1 a i ∧ itK k2 h i2 b i) where
  mem := List.mem_cons_self
  obj := fun i h st c hc => by
    obtain ⟨hz, hI, ⟨x, y, hO⟩, q1, q2⟩ := st
    simp only [List.mem_cons, List.not_mem_nil, or_false] at hc
    rcases hc with rfl | rfl | rfl | rfl | rfl
    · exact ⟨_, hz, fun v q => nomatch q⟩
    · exact ⟨_, hI, fun v q => nomatch q⟩
    · exact ⟨_, hO, fun v q => nomatch q⟩
    · exact itK_obj q1
    · exact itK_obj q2
  keep := fun i h h' st m => by
    obtain ⟨hz, hI, ⟨x, y, hO⟩, q1, q2⟩ := st
    refine ⟨m z ?_ _ hz, m TI ?_ _ hI, ⟨x, y, m TO ?_ _ hO⟩, itK_at q1 (m i1 ?_), itK_at q2 (m i2 ?_)⟩ <;> simp
  item := by
    intro X hP hw hK hc i pins s σ H E I hf st hg
    subst hP hw hK
    obtain ⟨hz, hI, ⟨x0, y0, hO⟩, q1, q2⟩ := st
    obtain ⟨xs, ys, x, y, gx, gy, hx, hy⟩ := hg
    obtain ⟨its1, r1, p1, _⟩ := sqG_at I gx
    obtain ⟨its2, r2, p2, _⟩ := sqG_at I gy
    obtain ⟨u1, e1, v1⟩ := r1.get hx
    obtain ⟨u2, e2, v2⟩ := r2.get hy
    have hh : X.A.in1.handled = none := I.ok.hd hc
    have l1 : i < its1.toArray.size := by
      have := (List.getElem?_eq_some_iff.mp e1).1
      simpa using this
    have l2 : i < its2.toArray.size := by
      have := (List.getElem?_eq_some_iff.mp e2).1
      simpa using this
    have lz : z < s.heap.objs.size := Heap.lt_size hz
    have old : ∀ c ∈ [z, TI, TO, i1, i2], c < s.heap.objs.size := fun c hc => by
      simp only [List.mem_cons, List.not_mem_nil, or_false] at hc
      rcases hc with rfl | rfl | rfl | rfl | rfl
      · exact lz
      · exact Heap.lt_size hI
      · exact Heap.lt_size hO
      · exact itK_lt q1
      · exact itK_lt q2
    refine wpAny_pyNext_zipD2_item Z (drawsK hh k1 i1 a n1 its1.toArray) (drawsK hh k2 i2 b n2 its2.toArray) hz hI hO ⟨q1, p1⟩ ⟨q2, p2⟩ l1 l2 ?_
    intro w1 w2 h' tk f1 f2 z' O' st1 st2 hT _ hk
    have ew1 : w1 = u1 := by
      have f : its1.toArray[i]? = some w1 := f1
      rw [List.getElem?_toArray, e1] at f
      exact (Option.some.inj f).symm
    have ew2 : w2 = u2 := by
      have f : its2.toArray[i]? = some w2 := f2
      rw [List.getElem?_toArray, e2] at f
      exact (Option.some.inj f).symm
    subst ew1 ew2
    refine ⟨_, rfl, wpAny_letOwnedTupleGo_zip (s := { s with heap := h', toks := tk }) z' fun h2 z2 sb => ?_⟩
    have nT : s.heap.objs.size ≠ z := Nat.ne_of_gt lz
    have hT2 := (sb.2 s.heap.objs.size nT).trans hT
    have new : ObjOk X.prog X.w (upd H s.heap.objs.size (.tup [x, y])) h2 s.heap.objs.size (.tup [x, y]) := ⟨(by decide : 2 ≤ sizeLine), [w1, w2], .cons v1 (.cons v2 .nil), _, hT2, rfl, _, rfl⟩
    have keep : ∀ c o, c ∉ [z, TI, TO, i1, i2] → s.heap.get? c = some o → h2.get? c = some o := fun c o nc q => by
      simp only [List.mem_cons, List.not_mem_nil, or_false, not_or] at nc
      exact (sb.2 c nc.1).trans (hk c o nc.1 nc.2.2.1 nc.2.2.2.1 nc.2.2.2.2 q)
    have I2 := I.turnedNew (t' := tk) keep hf (Nat.le_refl _) new
    refine ⟨V.ref s.heap.objs.size, upd H s.heap.objs.size (.tup [x, y]), I2, rfl, ?_, ?_, fun c hcm => ?_⟩
    · exact ⟨_, x, y, rfl, I.hok.fresh (Nat.le_refl _), rfl, fun l hl => by rw [sqG_inj I hl gx]; exact hx, fun l hl => by rw [sqG_inj I hl gy]; exact hy⟩
    · exact ⟨z2, (sb.2 TI Z.TIz).trans (hk _ _ Z.TIz Z.TITO Z.TIi1 Z.TIi2 hI), ⟨w1, w2, (sb.2 TO Z.TOz).trans O'⟩, itK_at st1.1 (fun o q => (sb.2 i1 (Ne.symm Z.zi1)).trans q), itK_at st2.1 (fun o q => (sb.2 i2 (Ne.symm Z.zi2)).trans q)⟩
    · rw [upd_ne (Nat.ne_of_lt (old c hcm))]
      exact (hf c hcm).1
  done := by
    intro X hP hw hK hc i pins s σ H E I hf st hg
    subst hP hw hK
    obtain ⟨hz, hI, ⟨x0, y0, hO⟩, q1, q2⟩ := st
    obtain ⟨xs, ys, gx, gy, he⟩ := hg
    obtain ⟨its1, r1, p1, _⟩ := sqG_at I gx
    obtain ⟨its2, r2, p2, _⟩ := sqG_at I gy
    have m1 := r1.length
    have m2 := r2.length
    have hh : X.A.in1.handled = none := I.ok.hd hc
    have s1 : its1.toArray.size = xs.length := by simp [m1]
    have s2 : its2.toArray.size = ys.length := by simp [m2]
    refine wpAny_pyNext_zipD2_end Z (drawsK hh k1 i1 a n1 its1.toArray) (drawsK hh k2 i2 b n2 its2.toArray) hz hI hO ⟨q1, p1⟩ ⟨q2, p2⟩ (by omega) (by omega) (by omega) fun h' tk hk => ⟨rfl, ?_⟩
    refine I.turnedL (t' := tk) (fun c o nc q => ?_) hf
    simp only [List.mem_cons, List.not_mem_nil, or_false, not_or] at nc
    exact hk c o nc.1 nc.2.2.1 nc.2.2.2.1 nc.2.2.2.2 q
  self := fun A i s Q E st h => wpAny_pyIter_zip st.1 h
def iZipG (K : PySem.W.Frag) (ta : TA) : TI := fun σ H R => ta σ H fun vs H1 => ∃ (k1 k2 : Bool) (a b : Addr) (xs ys : List V), vs = [.ref a, .ref b] ∧ SqG K k1 H1 a xs ∧ SqG K k2 H1 b ys ∧ R (ItzG K k1 k2 a b) H1
theorem pi_zipG {X : Cx} {e1 e2 : Expr} {ta : TA} {p pos tpos : Pos} {elts : List Expr} {kk : Nat} (hg : Gl X "zip") (hm : X.mg "zip" = none) (ha : PA X [e1, e2] ta)
    (hs : starEach [e1, e2] X.env = (false, eval e1 X.env) :: starEach [e2] X.env) (hpl : (backTo pos (starEach [e2] X.env)).any (·.1) = false) :
    PI X (.Tuple elts kk tpos) (.Call (.Name "zip" p) [e1, e2] [] pos) (iZipG X.K ta) := by
  refine ⟨fun pins s σ H R I h => Call_ (ld_blt I hg hm PyProof.Rows.boot_zip (PyProof.Rows.callWith_type1 (thn (ha.run pos pins s σ H _ I h) ?_) hs hpl))⟩
  rintro us t ⟨vs, H1, I1, rv, k1, k2, a, b, xs, ys, rfl, gx, gy, q⟩
  obtain ⟨its1, r1, p1, la⟩ := sqG_at I1 gx
  obtain ⟨its2, r2, p2, lb⟩ := sqG_at I1 gy
  match us, rv with
  | [_, _], .cons ra (.cons rb .nil) =>
    cases ra
    cases rb
    refine zip_begins2 (beginsK k1 a its1.toArray) (beginsK k2 b its2.toArray) p1 p2 fun h' hz hI hO g1 g2 hsz hk => wpAny_pyIter_zip hz ?_
    have sep := zip_sep2 (N := t.heap.objs.size) (fp1 := [a]) (fp2 := [b]) (fun c hc => by rw [List.mem_singleton.mp hc]; exact la) (fun c hc => by rw [List.mem_singleton.mp hc]; exact lb)
    refine ⟨_, _, _, _, H1, rfl, I1.kept (t' := t.toks) hk, turn_zipG k1 k2 sep (Nat.ne_of_lt la) (Nat.ne_of_lt (Nat.lt_succ_of_lt lb)), ⟨hz, hI, ⟨_, _, hO⟩, itK_new g1, itK_new g2⟩, fun c hcm => ?_, q⟩
    have hle : t.heap.objs.size ≤ c := by
      simp only [List.mem_cons, List.not_mem_nil, or_false] at hcm
      rcases hcm with rfl | rfl | rfl | rfl | rfl
      · exact Nat.le_add_right _ 4
      · exact Nat.le_add_right _ 2
      · exact Nat.le_add_right _ 3
      · exact Nat.le_refl _
      · exact Nat.le_add_right _ 1
    exact I1.fpOk hle (I1.hok.fresh hle)
end RA

set_option Elab.async false
set_option linter.all false
set_option maxRecDepth 100000
set_option maxHeartbeats 4000000
set_option autoImplicit false
/-! B7e: enumerate over lists and tuples; what zip and enumerate yield. -/
namespace RA
open PySem PySem.Spec PyProof.Rows L2
/-! ### enumerate -/
set_option maxHeartbeats 4000000 in
theorem enum_meets {v : Value} {o : Obj} {P : Heap → Prop} (B : Begins v o P) :
    Meets (Builtin.«enumerate.__new__» ⟨[.type "enumerate", v], []⟩) (fun _ R s => P s.heap ∧
      R (.ok (.ret (.ref (s.heap.push o).objs.size)))
        { s with heap := (s.heap.push o).push { cls := .type "enumerate", data := .fields #[.none, .bool false, .ref s.heap.objs.size, rawInt 0, .none, .none] } }) :=
  .of_wp fun prog w A R s h => by
    obtain ⟨hp, g, d, tk, os⟩ := s
    obtain ⟨h1, h2⟩ := h
    have sub := sub_enumerate
    have go : ∀ {A' : Around} {E : Value → Shared → Prop} {Q : Value → Shared → Prop}, Q (.ref hp.objs.size) ⟨hp.push o, g, d, tk, os⟩ → wpAny (model prog w) A' (pyIter v) Q E ⟨hp, g, d, tk, os⟩ := fun q => B.iter prog w _ _ ⟨hp, g, d, tk, os⟩ _ h1 q
    wp_walk using go
    refine wpAny_stack_any fun st => wpAny_pure ?_
    split
    · rename_i c _ _ _ _ _
      cases (c == Value.type "enumerate") <;> (
        wp_walk using go
        exact ⟨_, rfl, h2⟩)
    · wp_walk using go
      exact ⟨_, rfl, h2⟩
theorem enum_call {prog : Program} {w : World} {A : Around} {E : Value → Shared → Prop} {s : Shared} {v : Value} {o : Obj} {P : Heap → Prop} {Q : Value → Shared → Prop} (B : Begins v o P) (h1 : P s.heap)
    (h : ∀ h', IsEnum h' (s.heap.objs.size + 1) s.heap.objs.size 0 .none → h'.get? s.heap.objs.size = some o → (∀ b o, s.heap.get? b = some o → h'.get? b = some o) → Q (.ref (s.heap.objs.size + 1)) { s with heap := h' }) :
    wpAny (model prog w) A (call (.type "enumerate") [v]) Q E s := by
  refine callType_new F.called_enumerate (by decide) (F.typeCall_enumerate_1 _) (F.newCall_enumerate_1 _) (fun obj => F.args_object_init_2 obj _) F.entry_enumerate_new (enum_meets B) ⟨h1, ?_⟩
  have hz : (s.heap.push o).objs.size = s.heap.objs.size + 1 := Heap.size_push ..
  show _ ∧ _
  rw [hz]
  have he := Heap.get?_push_size (s.heap.push o) (o := { cls := .type "enumerate", data := .fields #[.none, .bool false, .ref s.heap.objs.size, rawInt 0, .none, .none] }) rfl
  rw [hz] at he
  exact ⟨⟨_, he, rfl⟩, h _ he (Heap.get?_push_of_some _ (Heap.get?_push_size _ B.free)) fun b u q => Heap.get?_push_of_some _ (Heap.get?_push_of_some _ q)⟩
def IteG (K : PySem.W.Frag) (k : Bool) (a : Addr) : It where
  go := fun i H => ∃ (xs : List V) (x : V), SqG K k H a xs ∧ xs[i]? = some x
  yld := fun i H v H' => ∃ (T : Addr) (x : V), v = .ref T ∧ H T = none ∧ H' = upd H T (.tup [.int (i : Nat), x]) ∧ ∀ l, SqG K k H a l → l[i]? = some x
  stop := fun i H => ∃ xs : List V, SqG K k H a xs ∧ i = xs.length
theorem turn_enumG {P : Program} {w : World} {K : PySem.W.Frag} {elts : List Expr} {kk : Nat} {tpos : Pos} {a e it : Addr} (k : Bool) (n1 : a ≠ it) (n2 : e ≠ it) (n3 : e ≠ a) :
    Turn P w K (.Tuple elts kk tpos) (IteG K k a) [e, it] e (fun i h => (∃ old, IsEnum h e it ((i : Nat) : Int) old) ∧ itK k h it a i) where
  mem := List.mem_cons_self
  obj := fun i h st c hc => by
    obtain ⟨⟨old, he⟩, q⟩ := st
    simp only [List.mem_cons, List.not_mem_nil, or_false] at hc
    rcases hc with rfl | rfl
    · exact ⟨_, he, fun v q => nomatch q⟩
    · exact itK_obj q
  keep := fun i h h' st m => by
    obtain ⟨⟨old, he⟩, q⟩ := st
    refine ⟨⟨old, m e ?_ _ he⟩, itK_at q (m it ?_)⟩ <;> simp
  item := by
    intro X hP hw hK hc i pins s σ H E I hf st hg
    subst hP hw hK
    obtain ⟨⟨old, he⟩, q⟩ := st
    obtain ⟨xs, x, gx, hx⟩ := hg
    obtain ⟨its, r, p, _⟩ := sqG_at I gx
    obtain ⟨u, e1, v1⟩ := r.get hx
    have hh : X.A.in1.handled = none := I.ok.hd hc
    have l1 : i < its.toArray.size := by
      have := (List.getElem?_eq_some_iff.mp e1).1
      simpa using this
    have le : e < s.heap.objs.size := Heap.lt_size he
    have old' : ∀ c ∈ [e, it], c < s.heap.objs.size := fun c hc => by
      simp only [List.mem_cons, List.not_mem_nil, or_false] at hc
      rcases hc with rfl | rfl
      · exact le
      · exact itK_lt q
    refine wpAny_pyNext_enum_itemD (drawsK hh k it a n1 its.toArray) he ⟨q, p⟩ l1 n2 (by simp [n2, n3]) ?_
    intro w1 h' tk f1 e' st1 hT _ hk
    have ew : w1 = u := by
      have f : its.toArray[i]? = some w1 := f1
      rw [List.getElem?_toArray, e1] at f
      exact (Option.some.inj f).symm
    subst ew
    refine ⟨_, rfl, wpAny_letOwnedTupleGo_enum (s := { s with heap := h', toks := tk + 1 }) e' fun h2 e2 sb => ?_⟩
    have nT : s.heap.objs.size ≠ e := Nat.ne_of_gt le
    have hT2 := (sb.2 s.heap.objs.size nT).trans hT
    have new : ObjOk X.prog X.w (upd H s.heap.objs.size (.tup [.int (i : Nat), x])) h2 s.heap.objs.size (.tup [.int (i : Nat), x]) := ⟨(by decide : 2 ≤ sizeLine), [.int i tk, w1], .cons ⟨_, rfl⟩ (.cons v1 .nil), _, hT2, rfl, _, rfl⟩
    have keep : ∀ c o, c ∉ [e, it] → s.heap.get? c = some o → h2.get? c = some o := fun c o nc z => by
      simp only [List.mem_cons, List.not_mem_nil, or_false, not_or] at nc
      exact (sb.2 c nc.1).trans (hk c o nc.1 nc.2 z)
    have I2 := I.turnedNew (t' := tk + 1) keep hf (Nat.le_refl _) new
    refine ⟨V.ref s.heap.objs.size, upd H s.heap.objs.size (.tup [.int (i : Nat), x]), I2, rfl, ?_, ?_, fun c hcm => ?_⟩
    · exact ⟨_, x, rfl, I.hok.fresh (Nat.le_refl _), rfl, fun l hl => by rw [sqG_inj I hl gx]; exact hx⟩
    · refine ⟨⟨w1, ?_⟩, itK_at st1.1 (fun o z => (sb.2 it (Ne.symm n2)).trans z)⟩
      have ei : ((i + 1 : Nat) : Int) = (i : Int) + 1 := by omega
      rw [ei]; exact e2
    · rw [upd_ne (Nat.ne_of_lt (old' c hcm))]
      exact (hf c hcm).1
  done := by
    intro X hP hw hK hc i pins s σ H E I hf st hg
    subst hP hw hK
    obtain ⟨⟨old, he⟩, q⟩ := st
    obtain ⟨xs, gx, rfl⟩ := hg
    obtain ⟨its, r, p, _⟩ := sqG_at I gx
    have m1 := r.length
    have hh : X.A.in1.handled = none := I.ok.hd hc
    have s1 : its.toArray.size = xs.length := by simp [m1]
    refine wpAny_pyNext_enum_endD (drawsK hh k it a n1 its.toArray) he (by rw [s1]; exact ⟨q, p⟩) fun h' eb => ⟨rfl, ?_⟩
    refine I.turnedL (t' := s.toks) (fun c o nc z => ?_) hf
    simp only [List.mem_cons, List.not_mem_nil, or_false, not_or] at nc
    exact eb c o nc.2 z
  self := fun A i s Q E st h => by
    obtain ⟨⟨_, he⟩, _⟩ := st
    exact wpAny_pyIter_enum he h
def iEnumG (K : PySem.W.Frag) (ta : TA) : TI := fun σ H R => ta σ H fun vs H1 => ∃ (k : Bool) (a : Addr) (xs : List V), vs = [.ref a] ∧ SqG K k H1 a xs ∧ R (IteG K k a) H1
theorem pi_enumG {X : Cx} {e1 : Expr} {ta : TA} {p pos tpos : Pos} {elts : List Expr} {kk : Nat} (hg : Gl X "enumerate") (hm : X.mg "enumerate" = none) (ha : PA X [e1] ta) (hs : starEach [e1] X.env = [(false, eval e1 X.env)]) :
    PI X (.Tuple elts kk tpos) (.Call (.Name "enumerate" p) [e1] [] pos) (iEnumG X.K ta) := by
  refine ⟨fun pins s σ H R I h => Call_ (ld_blt I hg hm boot_enumerate (PyProof.Rows.callWith_type1 (thn (ha.run pos pins s σ H _ I h) ?_) hs rfl))⟩
  rintro us t ⟨vs, H1, I1, rv, k, a, xs, rfl, gx, q⟩
  obtain ⟨its1, r1, p1, la⟩ := sqG_at I1 gx
  match us, rv with
  | [_], .cons ra .nil =>
    cases ra
    refine enum_call (beginsK k a its1.toArray) p1 fun h' he g1 hk => wpAny_pyIter_enum he ?_
    have la1 : a < t.heap.objs.size + 1 := Nat.lt_succ_of_lt la
    refine ⟨_, _, _, _, H1, rfl, I1.kept (t' := t.toks) hk, turn_enumG k (Nat.ne_of_lt la) (Nat.succ_ne_self _) (Ne.symm (Nat.ne_of_lt la1)), ⟨⟨_, he⟩, itK_new g1⟩, fun c hcm => ?_, q⟩
    have hle : t.heap.objs.size ≤ c := by
      simp only [List.mem_cons, List.not_mem_nil, or_false] at hcm
      rcases hcm with rfl | rfl
      · exact Nat.le_add_right _ 1
      · exact Nat.le_refl _
    exact I1.fpOk hle (I1.hok.fresh hle)
/-! ### what they yield -/
section
variable {G : Gd} {X : Cx} {W : WX}
/-- a list that does not change, a tuple -/
theorem VR.sqG {m : Mm} {S : Store} {H : Hp} {v : V} {d : D} {ds : List D} (c : Cf G m S H) (r : VR G m H v d) (he : seqD d = some ds) :
    ∃ k a xs, v = .ref a ∧ (∀ m' H', Tr G m H m' H' → SqG G.K k H' a xs) ∧ VRs G m H xs ds := by
  cases r with
  | tup h q => cases he; exact ⟨false, _, _, rfl, fun m' H' t => t.tup _ _ h, q⟩
  | vl h hm q => cases he; exact ⟨true, _, _, rfl, fun m' H' t => .of (t.lst _ _ h hm), q⟩
  | ro h q =>
    cases he
    refine ⟨true, _, _, rfl, fun m' H' t => ?_, q⟩
    rcases h with ⟨h, hm⟩ | h
    · exact .inl (t.ro _ _ h hm)
    · exact .inr h
  | _ => cases he
/-- a pair that is made at each turn -/
theorem new_pair {m : Mm} {S : Store} {H : Hp} {T : Addr} {x y : V} {d e : D} (c : Cf G m S H) (hT : H T = none) (r : VR G m H x d) (q : VR G m H y e) :
    Cf G m S (upd H T (.tup [x, y])) ∧ Stp m H m (upd H T (.tup [x, y])) ∧ VR G m (upd H T (.tup [x, y])) (.ref T) (.tup [d, e]) ∧ ∀ a o, H a = some o → upd H T (.tup [x, y]) a = some o := by
  have st : Stp m H m (upd H T (.tup [x, y])) := Stp.new hT
  exact ⟨c.new hT, st, .tup (.inl (.inl upd_same)) (.cons (r.step c st) (.cons (q.step c st) .nil)), fun a o e => by rw [upd_ne (ne_of_none e hT)]; exact e⟩
theorem yields_zip {m0 : Mm} {H0 : Hp} {k1 k2 : Bool} {a b : Addr} {xs ys : List V} {ds es : List D} (h1 : ∀ m H, Tr G m0 H0 m H → SqG G.K k1 H a xs) (h2 : ∀ m H, Tr G m0 H0 m H → SqG G.K k2 H b ys) (r1 : VRs G m0 H0 xs ds) (r2 : VRs G m0 H0 ys es) :
    Yields G m0 H0 (ItzG G.K k1 k2 a b) ((ds.zip es).map fun p => .tup [p.1, p.2], none) := by
  have len : ((ds.zip es).map fun p => D.tup [p.1, p.2]).length = min xs.length ys.length := by
    rw [List.length_map, List.length_zip, r1.length, r2.length]
  refine ⟨fun m S H i c t _ hi => ?_, fun m S H c t _ => ⟨xs, ys, h1 m H t, h2 m H t, len⟩, fun m S H i v H' c t _ hi hy => ?_⟩
  · have hi' : i < min xs.length ys.length := by rw [← len]; exact hi
    exact ⟨xs, ys, _, _, h1 m H t, h2 m H t, List.getElem?_eq_getElem (by omega), List.getElem?_eq_getElem (by omega)⟩
  · have hi' : i < min xs.length ys.length := by rw [← len]; exact hi
    obtain ⟨T, x, y, rfl, hT, rfl, f1, f2⟩ := hy
    obtain ⟨d, hd⟩ := get_of_lt (show i < ds.length by rw [← r1.length]; omega)
    obtain ⟨e, he⟩ := get_of_lt (show i < es.length by rw [← r2.length]; omega)
    obtain ⟨v1, g1, w1⟩ := r1.get hd
    obtain ⟨v2, g2, w2⟩ := r2.get he
    have z1 := f1 xs (h1 m H t)
    have z2 := f2 ys (h2 m H t)
    rw [g1] at z1
    rw [g2] at z2
    cases z1
    cases z2
    obtain ⟨c', st', r', k'⟩ := new_pair c hT (t.val _ _ w1) (t.val _ _ w2)
    refine ⟨.tup [d, e], ?_, c', st', r', k'⟩
    show ((ds.zip es).map fun p => D.tup [p.1, p.2])[i]? = _
    rw [List.getElem?_map, List.getElem?_zip_eq_some (z := (d, e)) |>.mpr ⟨hd, he⟩]
    rfl
theorem yields_enum {m0 : Mm} {H0 : Hp} {k : Bool} {a : Addr} {xs : List V} {ds : List D} (h1 : ∀ m H, Tr G m0 H0 m H → SqG G.K k H a xs) (r1 : VRs G m0 H0 xs ds) :
    Yields G m0 H0 (IteG G.K k a) (ds.zipIdx.map fun p => .tup [.int (p.2 : Nat), p.1], none) := by
  have len : (ds.zipIdx.map fun p => D.tup [.int (p.2 : Nat), p.1]).length = xs.length := by
    rw [List.length_map, List.length_zipIdx, r1.length]
  refine ⟨fun m S H i c t _ hi => ?_, fun m S H c t _ => ⟨xs, h1 m H t, len⟩, fun m S H i v H' c t _ hi hy => ?_⟩
  · have hi' : i < xs.length := by rw [← len]; exact hi
    exact ⟨xs, _, h1 m H t, List.getElem?_eq_getElem hi'⟩
  · have hi' : i < xs.length := by rw [← len]; exact hi
    obtain ⟨T, x, rfl, hT, rfl, f1⟩ := hy
    obtain ⟨d, hd⟩ := get_of_lt (show i < ds.length by rw [← r1.length]; exact hi')
    obtain ⟨v1, g1, w1⟩ := r1.get hd
    have z1 := f1 xs (h1 m H t)
    rw [g1] at z1
    cases z1
    obtain ⟨c', st', r', k'⟩ := new_pair c hT (.int (i : Nat)) (t.val _ _ w1)
    refine ⟨.tup [.int (i : Nat), d], ?_, c', st', r', k'⟩
    show (ds.zipIdx.map fun p => D.tup [.int (p.2 : Nat), p.1])[i]? = _
    rw [List.getElem?_map, List.getElem?_zipIdx, hd]
    simp
theorem i_zip (hK : X.K = G.K) {elts : List Expr} {kk : Nat} {tpos : Pos} {a b : Expr} {p pos : Pos} {ees : Ev (List D)} (hg : Gl X "zip") (hm : X.mg "zip" = none) (ha : AOk G X W [a, b] ees)
    (hs : starEach [a, b] X.env = (false, eval a X.env) :: starEach [b] X.env) (hpl : (backTo pos (starEach [b] X.env)).any (·.1) = false) :
    IOk G X W (.Tuple elts kk tpos) (.Call (.Name "zip" p) [a, b] [] pos) fun τ S => (ees τ S).bind fun ds S => lift S (srcOf S .zip ds) := by
  refine ⟨_, pi_zipG hg hm ha hs hpl, fun σ H R ⟨m, S, τ, c, sr, p⟩ => rdA.seq c sr p fun vs ds S1 m1 H1 c1 st r p1 => ?_⟩
  obtain ⟨it, e1, q⟩ := Post.lift p1
  match ds, r, e1 with
  | [x, y], .cons rx (.cons ry .nil), e1 =>
    obtain ⟨a1, f1, e2⟩ := Option.bind_eq_some_iff.mp (show ((seqD x).bind fun a => (seqD y).map fun b => ((a.zip b).map fun p => D.tup [p.1, p.2], (none : Option Nat))) = some it from e1)
    obtain ⟨b1, f2, e3⟩ := Option.map_eq_some_iff.mp e2
    subst e3
    obtain ⟨k1, aa, xs, rfl, g1, q1⟩ := VR.sqG c1 rx f1
    obtain ⟨k2, bb, ys, rfl, g2, q2⟩ := VR.sqG c1 ry f2
    have t0 := Tr.of_stp (G := G) c1 (Stp.refl (m := m1) (H := H1))
    refine ⟨k1, k2, aa, bb, xs, ys, rfl, hK ▸ g1 _ _ t0, hK ▸ g2 _ _ t0, hK ▸ q _ m1 H1 c1 Stp.refl (yields_zip g1 g2 q1 q2)⟩
theorem i_enum (hK : X.K = G.K) {elts : List Expr} {kk : Nat} {tpos : Pos} {a : Expr} {p pos : Pos} {ees : Ev (List D)} (hg : Gl X "enumerate") (hm : X.mg "enumerate" = none) (ha : AOk G X W [a] ees) (hs : starEach [a] X.env = [(false, eval a X.env)]) :
    IOk G X W (.Tuple elts kk tpos) (.Call (.Name "enumerate" p) [a] [] pos) fun τ S => (ees τ S).bind fun ds S => lift S (srcOf S .enum ds) := by
  refine ⟨_, pi_enumG hg hm ha hs, fun σ H R ⟨m, S, τ, c, sr, p⟩ => rdA.seq c sr p fun vs ds S1 m1 H1 c1 st r p1 => ?_⟩
  obtain ⟨it, e1, q⟩ := Post.lift p1
  match ds, r, e1 with
  | [x], .cons rx .nil, e1 =>
    obtain ⟨a1, f1, e3⟩ := Option.map_eq_some_iff.mp (show ((seqD x).map fun ds => (ds.zipIdx.map fun p => D.tup [.int (p.2 : Nat), p.1], (none : Option Nat))) = some it from e1)
    subst e3
    obtain ⟨k1, aa, xs, rfl, g1, q1⟩ := VR.sqG c1 rx f1
    exact ⟨k1, aa, xs, rfl, hK ▸ g1 _ _ (Tr.of_stp (G := G) c1 (Stp.refl (m := m1) (H := H1))), hK ▸ q _ m1 H1 c1 Stp.refl (yields_enum g1 q1)⟩
end
end RA

set_option Elab.async false
set_option linter.all false
set_option maxRecDepth 100000
set_option maxHeartbeats 4000000
set_option autoImplicit false
/-! B7s: sorted(x, key=f), f a def. -/
namespace RA
section
open PySem PySem.W PySem.Calls PyProof.Rows
variable {prog : Program} {w : World} {A : Around} {E : Value → Shared → Prop} {s : Shared} {a kS : Addr} {keys : Array Value} {e e1 : Nat} {P : PySem.Fin → Shared → Prop} {vs : List Value}
/-- the end of the sort: what it writes -/
def SrtEnd (s : Shared) (a kS : Addr) (out : List Value) (P : PySem.Fin → Shared → Prop) : Prop :=
  ∀ h' tk c, (∀ b o, b ∉ [kS, a] → s.heap.get? b = some o → h'.get? b = some o) → h'.get? a = some (seqObj "list" out.toArray c) → P (.done (.ret .none)) { s with heap := h', toks := tk }
theorem srt_tail {st : SortSt} {out : List Value} (nk : s.heap.get? kS = some (seqObj "list" keys e)) (na : s.heap.get? a = some (seqObj "list" #[] e1)) (hka : kS ≠ a) (hsz : keys.size ≤ sizeLine) (hz : out.length ≤ sizeLine) (hfl : failedOf st = none)
    (ho : (arrOf st).map (·.2) = out.toArray) (h : SrtEnd s a kS out P) : wpAny (model prog w) A (ksk_tail a false e1 (.ref kS) st) P E s := by
  have u1 := Heap.SameBut.update s.heap kS (Obj.mapSeq fun _ => (#[] : Array Value))
  have na1 := (u1.2 a hka.symm).trans na
  have u2 := Heap.SameBut.update (s.heap.update kS (Obj.mapSeq fun _ => (#[] : Array Value))) a (Obj.mapSeq fun _ => out.toArray)
  have at2 := get?_update_seq na1 fun _ => out.toArray
  unfold ksk_tail
  dsimp only
  rw [ho]
  refine wpAny_bind (listUpdate_at nk rfl (wpAny_bind (wpAny_letGo (wpAny_bind (seqEpoch_at na1 rfl (wpAny_bind (listUpdate_at na1 rfl ?_ (Nat.zero_le _) ?_)))))) hsz (Nat.zero_le _))
  · rw [hfl]
    simp only [bne_self_eq_false, Bool.false_eq_true, if_false]
    refine wpAny_pure (h _ _ _ (fun b o hb q => ?_) at2)
    simp only [List.mem_cons, List.not_mem_nil, or_false, not_or] at hb
    exact (u2.2 b hb.2).trans ((u1.2 b hb.1).trans q)
  · show out.toArray.size ≤ sizeLine + 1
    rw [List.size_toArray]
    exact Nat.le_succ_of_le hz
theorem srt_end {κ : PyProof.Rows.KeyKind} (nk : s.heap.get? kS = some (seqObj "list" keys e)) (na : s.heap.get? a = some (seqObj "list" #[] e1)) (hka : kS ≠ a) (T : SortsAt prog w A s κ keys.toList) (hsz : keys.size = vs.length) (hZ : vs.length ≤ sizeLine)
    (h : SrtEnd s a kS (sortVals κ false keys.toList vs) P) : wpAny (model prog w) A (ksk_end a false vs.toArray e1 (.ref kS) keys) P E s := by
  obtain ⟨kd, t1, t2⟩ := T.kind
  have kl : keys.toList.length = vs.length := by rw [Array.length_toList, hsz]
  have kz : PyProof.Rows.KeysOf κ (keys.zip vs.toArray) := keysOf_zip T.keys
  have ol : (sortVals κ false keys.toList vs).length = vs.length := sortVals_length false kl
  have zs : (keys.zip vs.toArray).size = vs.length := by rw [Array.size_zip, hsz, List.size_toArray, Nat.min_self]
  have fin : ∀ st' : SortSt, (arrOf st').Perm (keys.zip vs.toArray) → SortedToK κ (arrOf st') (keys.zip vs.toArray).size → Stable κ (arrOf st') (keys.zip vs.toArray) → (arrOf st').map (·.2) = (sortVals κ false keys.toList vs).toArray := fun st' a1 a2 a3 => by
    have q := sort_out (rev := false) (keys := keys) (items := vs.toArray) (xs := arrOf st') (κ := κ) kz a1 a2 a3
    have q2 := congrArg List.toArray q
    rw [Array.toArray_toList] at q2
    exact q2
  have kle : keys.size ≤ sizeLine := by rw [hsz]; exact hZ
  have ole : (sortVals κ false keys.toList vs).length ≤ sizeLine := by rw [ol]; exact hZ
  unfold ksk_end
  dsimp only
  rw [if_neg (by decide)]
  by_cases small : vs.toArray.size < 2
  · rw [if_pos small, if_pos small]
    refine wpAny_bind (wpAny_pure ?_)
    rw [StateT.run_pure]
    refine wpAny_bind (wpAny_pure ?_)
    refine srt_tail nk na hka kle ole rfl (fin _ (Array.Perm.refl _) (fun i j hij hj => ?_) (Stable.refl _)) h
    rw [zs] at hj
    rw [List.size_toArray] at small
    obtain rfl : i = j := by omega
    exact KeyOrd.kle_refl _
  · rw [if_neg small, if_neg small]
    rw [List.size_toArray] at small
    refine wpAny_bind (t2 (by omega) _ (wpAny_bind (wpAny_mono (H.wpS_sortRunsSt (κ := κ) (kd := kd) (a₀ := keys.zip vs.toArray) (st := SortSt.mk' kd (keys.zip vs.toArray) #[] 7 none)
      (Q := fun _ st' => failedOf st' = none ∧ (arrOf st').map (·.2) = (sortVals κ false keys.toList vs).toArray) t1 kz ⟨Array.Perm.refl _, rfl, rfl⟩ rfl (Stable.refl _) (by rw [zs]; omega) fun st' b1 b2 b3 b4 => ⟨b2, fin st' b1 b3 b4⟩) ?_ fun _ _ q => q)))
    rintro ⟨⟨⟩, st'⟩ s' ⟨rfl, q1, q2⟩
    exact srt_tail nk na hka kle ole q1 q2 h
end
section
open PySem L2
variable {X : Cx} {pins : List (Addr × Obj)} {σ : L2.St} {H : Hp} {s : Shared} {h' : Heap}
/-- own records have turned, and one of them is tracked from now on -/
theorem inv_track {t' : Nat} {ch : List Addr} {T : Addr} {ob : HO} (I : Inv X pins σ H s) (k : ∀ b o, b ∉ ch → s.heap.get? b = some o → h'.get? b = some o) (hf : ∀ b ∈ ch, FpOk X pins H b) (hT : T ∈ ch)
    (new : ObjOk X.prog X.w (upd H T ob) h' T ob) : Inv X pins σ (upd H T ob) { s with heap := h', toks := t' } := by
  have hn : H T = none := (hf T hT).1
  have nit : ∀ b u, H b = some u → b ∉ ch := fun b u e z => by
    rw [(hf b z).1] at e; cases e
  have nT : ∀ b, b ∉ ch → b ≠ T := fun b hb z => hb (z ▸ hT)
  refine I.step (g' := s.gens) (d' := s.drawn) (ch := ch) (fun b hb => ⟨(hf b hb).2.2.2.1, (hf b hb).2.1, (hf b hb).2.2.2.2.1, (hf b hb).2.2.2.2.2⟩) (fun b o _ _ hc e _ => k b o hc e) (fun b o _ _ hc e _ => ⟨o.slots, k b o hc e⟩)
    (fun b o hc _ n => by rw [upd_ne (nT b hc)]; exact n) (fun b o hc e => ⟨o, k b o hc e⟩) (fun b xs e => by rw [upd_ne (nT b (nit b _ e))]; exact e) (fun b o u e => by rw [upd_ne (nT b (nit b _ e))]; exact e)
    (fun b ps e => ⟨#[], by rw [upd_ne (nT b (nit b _ e)), e]; simp⟩) (fun m hm => ?_) (fun b u e => ?_) I.bare
  · obtain ⟨o, es, ep, ho, r⟩ := hm
    exact ⟨o, es, ep, k _ o (fun z => (hf _ z).2.1 rfl) ho, r⟩
  · by_cases hb : b = T
    · subst hb
      rw [upd_same] at e
      cases e
      exact new
    · rw [upd_ne hb] at e
      refine (I.hok b u e).stay (fun c v hc q => k c v ?_ q) (fun c q => by rw [upd_ne (ne_of_none q hn)]; exact q) fun c xs q => by rw [upd_ne (ne_of_none q hn)]; exact q
      rcases hc with z | z
      · rw [z]; exact nit b u e
      · exact nit c _ z
theorem fp_other {H' : Hp} {b : Addr} (f : FpOk X pins H b) (h : H' b = none) : FpOk X pins H' b := ⟨h, f.2⟩
end
end RA

set_option Elab.async false
set_option linter.all false
set_option maxRecDepth 100000
set_option maxHeartbeats 4000000
set_option autoImplicit false
/-! B8: targets; comprehensions. -/
namespace RA
open PySem PySem.Spec PyProof.Rows L2
section
variable {G : Gd} {X : Cx} {W : WX} {m m' m0 m1 : Mm} {S : Store} {H H' H0 H1 : Hp} {σ : L2.St} {τ : Sig}
/-! ### targets -/
theorem SR.set {i : Nat} {v : V} {d : D} (r : SR G m H σ τ) (q : VR G m H v d) : SR G m H (σ.set i (some v)) (τ.set i (some d)) := ⟨by rw [List.length_set, List.length_set, r.len], fun j e h => by
  rw [List.getElem?_set] at h
  rw [List.getElem?_set]
  by_cases hj : i = j
  · subst hj
    rw [if_pos rfl] at h ⊢
    by_cases hl : i < τ.length
    · rw [if_pos hl] at h
      cases h
      rw [if_pos (by rw [r.len]; exact hl)]
      exact ⟨v, rfl, q⟩
    · rw [if_neg hl] at h; cases h
  · rw [if_neg hj] at h ⊢
    exact r.at_ j e h⟩
/-- what a target does -/
def GW (G : Gd) (g : TG) (tup : Bool) (is : List Nat) : Prop :=
  ∀ m S H (σ : L2.St) τ v d τ2 (K : L2.St → Hp → Prop), Cf G m S H → SR G m H σ τ → VR G m H v d → target τ tup is d = some τ2 →
    (∀ σ2, SR G m H σ2 τ2 → σ2.length = σ.length → (∀ j, j ∉ is → σ2[j]? = σ[j]?) → K σ2 H) → g v σ H K
theorem gw_name (i : Nat) : GW G (gName i) false [i] := fun m S H σ τ v d τ2 K c sr r e k => by
  have e' : some (τ.set i (some d)) = some τ2 := e
  cases e'
  refine k _ (sr.set r) (List.length_set) fun j hj => ?_
  rw [List.getElem?_set_ne]
  intro z
  exact hj (by rw [z]; exact List.mem_singleton_self _)
def gNames : List Nat → TGs
  | [] => gNil
  | i :: r => gCons (gName i) (gNames r)
theorem gws_names : ∀ (is : List Nat) {m : Mm} {H : Hp} {σ : L2.St} {τ τ2 : Sig} {vs : List V} {ds : List D} {K : L2.St → Hp → Prop}, SR G m H σ τ → VRs G m H vs ds → setAll τ is ds = some τ2 →
    (∀ σ2, SR G m H σ2 τ2 → σ2.length = σ.length → (∀ j, j ∉ is → σ2[j]? = σ[j]?) → K σ2 H) → gNames is vs σ H K
  | [], m, H, σ, τ, τ2, vs, ds, K, sr, rs, e, k => by
    cases rs with
    | nil => cases e; exact ⟨rfl, k _ sr rfl fun _ _ => rfl⟩
    | cons a b => cases e
  | i :: is, m, H, σ, τ, τ2, vs, ds, K, sr, rs, e, k => by
    cases rs with
    | nil => cases e
    | cons a b =>
      refine ⟨_, _, rfl, gws_names is (sr.set a) b e fun σ2 s2 l2 h2 => k σ2 s2 (by rw [l2, List.length_set]) fun j hj => ?_⟩
      rw [List.mem_cons, not_or] at hj
      rw [h2 j hj.2, List.getElem?_set_ne (Ne.symm hj.1)]
theorem setAll_len : ∀ {is : List Nat} {τ τ2 : Sig} {ds : List D}, setAll τ is ds = some τ2 → ds.length = is.length
  | [], τ, τ2, ds, e => by
    cases ds with
    | nil => rfl
    | cons a b => cases e
  | i :: is, τ, τ2, ds, e => by
    cases ds with
    | nil => cases e
    | cons a b => rw [List.length_cons, List.length_cons, setAll_len (is := is) e]
theorem gw_tup {K : PySem.W.Frag} (hK : K = G.K) {n : Nat} (is : List Nat) (hn : is.length = n) : GW G (gTup K n (gNames is)) true is := fun m S H σ τ v d τ2 Q c sr r e k => by
  cases r with
  | tup h q => exact ⟨_, _, rfl, hK ▸ h, by rw [q.length, setAll_len e, hn], gws_names is sr q e k⟩
  | _ => cases e

theorem r_ok {α β : Type} (a : α) (S : Store) (f : α → Store → Res β) : (Res.ok a S).bind f = f a S := rfl
theorem n_ok {α : Type} (a : α) (S : Store) : (Res.ok a S).noexc = .ok a S := rfl
theorem l_ok {α : Type} (a : α) (S : Store) : RA.lift S (some a) = .ok a S := rfl
/-! ### what is wanted of a new list -/
theorem PostF.later {r : Res D} {Q : VK} {E : Value → Option Addr → Hp → Prop} (st : Stp m H m1 H1) (p : PostF G m H r Q E) : PostF G m1 H1 r Q E := by
  unfold PostF at p ⊢
  cases r with
  | ok d S' =>
    cases d with
    | vl ds => exact fun q xs m' H' c s h0 h1 h2 h3 => p q xs m' H' c (st.trans s) (st.there _ h0) h1 h2 h3
    | _ => exact p
  | exc x S' => exact fun c d m' H' cf s q => p c d m' H' cf (st.trans s) q
  | bad => exact p
theorem PostF.bind {α β : Type} {r : Res α} {f : α → Store → Res D} {R : Mm → Hp → β → α → Prop} {K : β → Hp → Prop} {Q : VK} {E : Value → Option Addr → Hp → Prop} (p : PostF G m H (r.bind f) Q E)
    (h : ∀ v d S1 m1 H1, Cf G m1 S1 H1 → Stp m H m1 H1 → R m1 H1 v d → PostF G m1 H1 (f d S1) Q E → K v H1) : Post G m H r R K E := by
  cases r with
  | ok d S' => exact fun v m' H' c s q => h v d S' m' H' c s q (PostF.later s p)
  | exc x S' => exact p
  | bad => exact p

/-! ### comprehensions -/
theorem SR.tr (t : Tr G m0 H0 m H) (r : SR G m0 H0 σ τ) : SR G m H σ τ := ⟨r.len, fun i d h => by
  obtain ⟨v, e, q⟩ := r.at_ i d h
  exact ⟨v, e, t.val _ _ q⟩⟩
theorem wipe_len (τ : Sig) : ∀ vs : List Nat, (RA.wipe τ vs).length = τ.length
  | [] => rfl
  | v :: vs => by unfold RA.wipe; rw [List.length_set, wipe_len τ vs]
theorem SR.wipe (r : SR G m H σ τ) : ∀ vs : List Nat, SR G m H (L2.wipe σ vs) (RA.wipe τ vs)
  | [] => r
  | v :: vs => ⟨by rw [wipe_len, L2.wipe_length, r.len], fun j d h => by
      unfold RA.wipe at h
      unfold L2.wipe
      by_cases hj : v = j
      · subst hj
        rw [List.getElem?_set] at h
        rw [if_pos rfl] at h
        split at h <;> cases h
      · rw [List.getElem?_set_ne hj] at h ⊢
        exact (SR.wipe r vs).at_ j d h⟩
theorem wipe_in {σ : L2.St} {i : Nat} : ∀ {vs : List Nat}, i ∈ vs → (L2.wipe σ vs)[i]? = if i < σ.length then some none else none
  | v :: vs, h => by
    unfold L2.wipe
    rw [List.getElem?_set]
    by_cases hv : v = i
    · subst hv
      rw [if_pos rfl, L2.wipe_length]
    · rw [if_neg hv]
      exact wipe_in ((List.mem_cons.mp h).resolve_left fun e => hv e.symm)
theorem wipe_same {σ1 σ2 : L2.St} {vs : List Nat} (hl : σ1.length = σ2.length) (h : ∀ j, j ∉ vs → σ1[j]? = σ2[j]?) : L2.wipe σ1 vs = L2.wipe σ2 vs := by
  refine List.ext_getElem? fun j => ?_
  by_cases hj : j ∈ vs
  · rw [wipe_in hj, wipe_in hj, hl]
  · rw [L2.wipe_out hj, L2.wipe_out hj, h j hj]
theorem wipe_twice (σ : L2.St) (vs : List Nat) : L2.wipe (L2.wipe σ vs) vs = L2.wipe σ vs := wipe_same (L2.wipe_length σ vs) fun j hj => L2.wipe_out hj
/-- a list that is being made begins, grows -/
theorem Tr.start {q : Addr} {ys : List V} (hq : H q = none) : Tr G m H (m.with q) (upd H q (.lst ys)) :=
  ⟨fun _ _ r => r.start hq, fun a xs h => (by
    rcases h with (h | ⟨u, h⟩) | h
    · exact .inl (.inl (by rw [upd_ne (ne_of_none h hq)]; exact h))
    · exact .inl (.inr ⟨u, by rw [upd_ne (ne_of_none h hq)]; exact h⟩)
    · exact .inr h), fun a xs h _ => by rw [upd_ne (ne_of_none h hq)]; exact h, fun a xs h _ => (by
    rcases h with h | ⟨u, h⟩
    · exact .inl (by rw [upd_ne (ne_of_none h hq)]; exact h)
    · exact .inr ⟨u, by rw [upd_ne (ne_of_none h hq)]; exact h⟩), fun _ _ h => h⟩
theorem Tr.grow {q : Addr} {xs ys : List V} (t : Tr G m0 H0 (m.with q) H) (h0 : H0 q = none) (hq : H q = some (.lst xs)) : Tr G m0 H0 (m.with q) (upd H q (.lst ys)) :=
  ⟨fun _ _ r => (t.val _ _ r).grow (lst_only hq), fun a zs h => (by
    rcases t.tup a zs h with (h | ⟨u, h⟩) | h
    · exact .inl (.inl (by rw [upd_ne (fun z => by rw [z, hq] at h; cases h)]; exact h))
    · exact .inl (.inr ⟨u, by rw [upd_ne (fun z => by rw [z, hq] at h; cases h)]; exact h⟩)
    · exact .inr h), fun a zs h hm => by rw [upd_ne (ne_of_none h h0)]; exact t.lst a zs h hm, fun a zs h hm => (by
    have ne : a ≠ q := by rcases h with h | ⟨u, h⟩ <;> exact ne_of_none h h0
    rcases t.ro a zs h hm with h | ⟨u, h⟩
    · exact .inl (by rw [upd_ne ne]; exact h)
    · exact .inr ⟨u, by rw [upd_ne ne]; exact h⟩), t.at_⟩
/-- a step while a list is being made -/
theorem Tr.step {q : Addr} {S : Store} (t : Tr G m0 H0 (m.with q) H) (c : Cf G (m.with q) S H) (st0 : Stp m0 H0 m H) (h0 : H0 q = none) (st : Stp (m.with q) H m' H') : Tr G m0 H0 m' H' :=
  ⟨fun _ _ r => (t.val _ _ r).step c st, fun a zs h => SqT.step c st (t.tup a zs h), fun a zs h hm => st.keep _ _ (t.lst a zs h hm) NoTbl.lst (st0.out h NoTbl.lst hm).1,
    fun a zs h hm => Rd.step st (t.ro a zs h hm) NoTbl.lst (Rd.out st0 h NoTbl.lst hm).1, fun n a h => st.at_ (t.at_ n a h)⟩
theorem Stp.growN {q : Addr} {o : HO} (st : Stp m0 H0 m H) (h0 : H0 q = none) : Stp m0 H0 m (upd H q o) := ⟨st.more, st.ban, fun a u h hn hm => by
  rw [upd_ne (ne_of_none h h0)]; exact st.keep a u h hn hm, fun a z => by
  by_cases e : a = q
  · rw [e]; exact .of h0
  · exact st.there a fun u hu => z u (by rw [upd_ne e]; exact hu)⟩
theorem Stp.ex {q : Addr} (st : Stp (m.with q) H m' H') : ∃ m2, m' = m2.with q ∧ Stp m H m2 H' := ⟨⟨m'.l, m.b⟩, st.isWith, st.unban⟩
abbrev WNo : WX := fun _ _ _ _ => False
def compG (tup : Bool) (own is : List Nat) (ef ee : Ev D) (τ : Sig) (d : D) (S : Store) : Res (Option D) := match target (RA.wipe τ own) tup is d with
  | none => .bad
  | some τ2 => ((ef τ2 S).noexc).bind fun b S => (RA.lift S (truth S b)).bind fun k S => if k then ((ee τ2 S).noexc).bind fun y S => .ok (some y) S else .ok none S
def compEv (own : List Nat) (tup : Bool) (is : List Nat) (ei : Ev (List D × Option Nat)) (ef ee : Ev D) : Ev D := fun τ S =>
  (ei τ S).bind fun it S => (compL (compG tup own is ef ee τ) (fun S => still S it) it.1 S []).bind fun l S => .ok (.vl l) S
/-- the reading of a comprehension -/
theorem lc_reads {wi : TI} {ei : Ev (List D × Option Nat)} {g : TG} {tup : Bool} {is own : List Nat} {tt : TT} {ef ee : Ev D} {te : TE}
    (hwi : ∀ σ H (R : It → Hp → Prop), (∃ m S τ, Cf G m S H ∧ SR G m H σ τ ∧ Post G m H (ei τ S) (fun m' H' J it => Yields G m' H' J it) R fun c d H' => W c d σ H') → wi σ H R)
    (hg : GW G g tup is) (his : ∀ i ∈ is, i ∈ own) (ht : ∀ σ H Q, rdB G WNo ef σ H Q → tt σ H Q) (he : ∀ σ H Q, rdE G WNo ee σ H Q → te σ H Q) :
    ∀ σ H Q, rdF G W (compEv own tup is ei ef ee) σ H Q → tLc wi g tt te own σ H Q := by
  intro σ H Q ⟨m, S, τ, c, sr, p⟩
  refine hwi σ H _ ⟨m, S, τ, c, sr, PostF.bind p fun J it S1 m1 H1 c1 st1 Y p1 => ?_⟩
  have sr1 := sr.step c st1
  intro q hq
  refine ⟨fun i n H2 => ∃ m2 S2 acc xs, n = it.1.length - i ∧ i ≤ it.1.length ∧ Cf G (m2.with q) S2 H2 ∧ Stp m1 H1 m2 H2 ∧ Tr G m1 H1 (m2.with q) H2 ∧ H2 q = some (.lst xs) ∧ q ∉ m2.l ∧ VRs G (m2.with q) H2 xs acc ∧
    PostF G m1 H1 ((compL (compG tup own is ef ee τ) (fun S => still S it) (it.1.drop i) S2 acc).bind fun l S => .ok (.vl l) S) Q fun c d H' => W c d σ H', ?_, ?_⟩
  · exact ⟨it.1.length - 0, m1, S1, [], [], rfl, Nat.zero_le _, c1.start hq, Stp.new hq, Tr.start hq, upd_same, c1.notin hq, .nil, p1⟩
  rintro i n H2 ⟨m2, S2, acc, xs, hn, hi, c2, st2, t2, h2, hm2, r2, p2⟩
  have hst : still S2 it = true := by
    cases e : it.1.drop i with
    | nil =>
      rw [e] at p2
      unfold compL at p2
      by_cases h : still S2 it = true
      · exact h
      · simp only [h] at p2; exact p2.elim
    | cons d r =>
      rw [e] at p2
      unfold compL at p2
      by_cases h : still S2 it = true
      · exact h
      · simp only [h] at p2; exact p2.elim
  by_cases hlt : i < it.1.length
  case neg =>
    have ei : i = it.1.length := by omega
    refine .inl ⟨?_, ?_⟩
    · rw [ei]; exact Y.stop _ S2 H2 c2 t2 hst
    · rw [ei, List.drop_length] at p2
      unfold compL at p2
      rw [if_pos hst] at p2
      exact p2 q xs m2 H2 c2 st2 (.of hq) h2 hm2 r2
  refine .inr ⟨Y.go _ S2 H2 i c2 t2 hst hlt, fun H' => ∃ k, k < n ∧ ∃ m2 S2 acc xs, k = it.1.length - (i + 1) ∧ i + 1 ≤ it.1.length ∧ Cf G (m2.with q) S2 H' ∧ Stp m1 H1 m2 H' ∧ Tr G m1 H1 (m2.with q) H' ∧ H' q = some (.lst xs) ∧ q ∉ m2.l ∧ VRs G (m2.with q) H' xs acc ∧
    PostF G m1 H1 ((compL (compG tup own is ef ee τ) (fun S => still S it) (it.1.drop (i + 1)) S2 acc).bind fun l S => .ok (.vl l) S) Q fun c d H' => W c d σ H', fun H' h => h, fun x H3 hy => ?_⟩
  obtain ⟨d, hd, c3, st3, r3, k3⟩ := Y.yld _ S2 H2 i x H3 c2 t2 hst hlt hy
  have q3 : H3 q = some (.lst xs) := k3 _ _ h2
  have t3 := t2.step c2 st2 hq st3
  have s3 : Stp m1 H1 m2 H3 := st2.trans st3.unban
  have rs3 := r2.step c2 st3
  have hdr : it.1.drop i = d :: it.1.drop (i + 1) := by
    obtain ⟨h, e⟩ := List.getElem?_eq_some_iff.mp hd
    rw [List.drop_eq_getElem_cons h, e]
  rw [hdr] at p2
  unfold compL at p2
  rw [if_pos hst] at p2
  cases e4 : target (RA.wipe τ own) tup is d with
  | none => simp only [compG, e4] at p2; exact p2.elim
  | some τ2 =>
    have eg : compG tup own is ef ee τ d S2 = ((ef τ2 S2).noexc).bind fun b S => (RA.lift S (truth S b)).bind fun k S => if k then ((ee τ2 S).noexc).bind fun y S => .ok (some y) S else .ok none S := by
      unfold compG; rw [e4]
    rw [eg] at p2
    refine hg _ S2 H3 (L2.wipe σ own) (RA.wipe τ own) x d τ2 _ c3 ((sr1.tr t3).wipe own) r3 e4 fun σ2 sr2 l2 o2 => ⟨?_, ht _ _ _ ⟨_, S2, τ2, c3, sr2, ?_⟩⟩
    · rw [← wipe_twice σ own]
      exact wipe_same l2 fun j hj => o2 j fun z => hj (his j z)
    show Post G (m2.with q) H3 ((ef τ2 S2).bind fun x S => RA.lift S (truth S x)) _ _ _
    cases e5 : ef τ2 S2 with
    | bad => rw [e5] at p2; exact p2.elim
    | exc y S3 => rw [e5] at p2; exact p2.elim
    | ok b S3 =>
      rw [e5] at p2
      rw [n_ok, r_ok] at p2
      rw [r_ok]
      cases e6 : truth S3 b with
      | none => rw [e6] at p2; exact p2.elim
      | some k =>
        rw [e6, l_ok, r_ok] at p2
        rw [l_ok]
        intro kk m4 H4 c4 st4 ek
        subst ek
        obtain ⟨m5, rfl, s4'⟩ := st4.ex
        have s4 : Stp m1 H1 m5 H4 := s3.trans s4'
        have t4 := t3.step c3 s3 hq st4
        have q4 : H4 q = some (.lst xs) := st4.keep _ _ q3 NoTbl.lst hm2
        have hm5 : q ∉ m5.l := st4.notin (m := m2.with q) q3 NoTbl.lst hm2
        have rs4 := rs3.step c3 st4
        cases kk with
        | false =>
          rw [if_neg (by decide), r_ok] at p2
          rw [if_neg (by decide)]
          exact ⟨it.1.length - (i + 1), by omega, m5, S3, acc, xs, rfl, hlt, c4, s4, t4, q4, hm5, rs4, p2⟩
        | true =>
          rw [if_pos rfl] at p2 ⊢
          refine he _ _ _ ⟨_, S3, τ2, c4, sr2.step c3 st4, ?_⟩
          cases e7 : ee τ2 S3 with
          | bad => rw [e7] at p2; exact p2.elim
          | exc y S4 => rw [e7] at p2; exact p2.elim
          | ok y S4 =>
            rw [e7] at p2
            rw [n_ok, r_ok, r_ok] at p2
            intro v m6 H6 c6 st6 r6
            obtain ⟨m7, rfl, s6'⟩ := st6.ex
            have s6 : Stp m1 H1 m7 H6 := s4.trans s6'
            have t6 := t4.step c4 s4 hq st6
            have q6 : H6 q = some (.lst xs) := st6.keep _ _ q4 NoTbl.lst hm5
            have hm6 : q ∉ m7.l := st6.notin (m := m5.with q) q4 NoTbl.lst hm5
            have rs6 := rs4.step c4 st6
            replace p2 : PostF G m1 H1 ((if acc.length < LINE then compL (compG tup own is ef ee τ) (fun S => still S it) (List.drop (i + 1) it.fst) S4 (acc ++ [y]) else Res.bad).bind fun l S => Res.ok (D.vl l) S) Q fun c d H' => W c d σ H' := p2
            by_cases hl : acc.length < LINE
            case neg => rw [if_neg hl] at p2; exact p2.elim
            rw [if_pos hl] at p2
            refine ⟨xs, q6, by rw [rs6.length, ← line_eq]; exact hl, it.1.length - (i + 1), by omega, m7, S4, acc ++ [y], xs ++ [v], rfl, hlt, c6.grow q6 hm6, s6.growN hq, t6.grow hq q6, upd_same, hm6, ?_, p2⟩
            exact VRs.grow (lst_only q6) (rs6.append (.cons r6 .nil))
theorem f_comp (hc : X.calm = true) (hN : X.N.Nodup) {elt tg iter : Expr} {ifs : List Expr} {scope : Scope} {own : List (Str × Nat)} {pos : Pos} {tup : Bool} {is : List Nat} {g : TG} {ei : Ev (List D × Option Nat)} {ef ee : Ev D}
    (hi : IOk G X W tg iter ei) (ok : BlkOk X.N X.env.scope scope own) (his : ∀ i ∈ is, i ∈ own.map (·.2)) (hg : GW G g tup is)
    (pg : ∀ (s : Shared) (H : Hp) (C : Addr) (cl : List (Str × Addr)) (fp : List Addr), PG (X.blk s H scope (compEnvC scope cl C X.env) fp) tg g)
    (ht : ∀ (s : Shared) (H : Hp) (C : Addr) (cl : List (Str × Addr)) (fp : List Addr), PTs (X.blk s H scope (compEnvC scope cl C X.env) fp) ifs (rdB G WNo ef))
    (he : ∀ (s : Shared) (H : Hp) (C : Addr) (cl : List (Str × Addr)) (fp : List Addr), EOk G (X.blk s H scope (compEnvC scope cl C X.env) fp) WNo elt ee) (hs : ∀ x, foldedSetIterable iter X.env x = pure x) :
    FOk G X W (.ListComp elt [⟨tg, iter, ifs, 0⟩] scope pos) (compEv (own.map (·.2)) tup is ei ef ee) := by
  obtain ⟨wi, h1, h2⟩ := hi
  exact PE.weak (pe_lc hc hN h1 ok pg ht he hs) (lc_reads h2 hg his (fun _ _ _ h => h) fun _ _ _ h => h)
end
end RA

set_option Elab.async false
set_option linter.all false
set_option maxRecDepth 100000
set_option maxHeartbeats 4000000
set_option autoImplicit false
/-! B7t: sorted(x, key=f), the calls of f. -/
namespace RA
open PySem PySem.Spec PyProof.Rows L2
open PySem.W (KeyedOut dataKind AllAlike Sortable SortsAt copyHeap copyHeap_at copyHeap_old keyedOut_each EachIs)
section
variable {G : Gd} {X : Cx} {W : WX} {m : Mm} {S : Store} {H : Hp} {σ : L2.St} {s : Shared} {pins : List (Addr × Obj)}
theorem RoomG.in2 {k : Nat} {A : Around} (r : RoomG (k + 1) A) : RoomG k A.in1.in1 := ⟨⟨r.room.hd, by have := r.room.dp; show A.depth + 3 * k + 5 < _; omega, by have := r.room.un; show A.units + 1 + 1 + 16 * k + 200 < _; omega⟩, r.gd⟩
abbrev XNo : XK := fun _ _ _ => False
/-- a def called where no exception may leave, within built-in code -/
theorem run_in {A' : Around} {Q : VK} {us : List Value} {vs : List V} {k : Nat} {f : Addr} {sp : Sp} (F : Prom X.prog X.w X.K X.mg X.base k f sp) (hr : RoomG k A') (hf : A'.frames = X.A.frames) (I : Inv X pins σ H s) (r : Vals vs us) (h : sp vs H Q XNo) :
    wpAny (model X.prog X.w) A' (call (.ref f) us) (EP X pins σ Q) (fun _ _ => False) s := by
  have e0 := I.env0
  refine wpAny_call (codeAny_mono (F.run A' X.stack s H us vs Q XNo hr ⟨hf.trans e0.frames, e0.mod, e0.bs, e0.bsz, e0.funs, e0.frf, e0.hok, e0.bare⟩ r h) fun res s' hq => ?_)
  match res, hq with
  | .error e, ⟨_, _, _, _, _, _, _, _, _, _, _, _, z⟩ => exact z.elim
  | .ok (.ret u), hq => exact I.after hq
theorem Post.noexc {α β : Type} {r : Res α} {R : Mm → Hp → β → α → Prop} {Q : β → Hp → Prop} {E : Value → Option Addr → Hp → Prop} (p : Post G m H r.noexc R Q E) : Post G m H r R Q XNo := by
  cases r with
  | ok d S' => exact p
  | exc x S' => exact p.elim
  | bad => exact p
theorem keysOk_ok {ps : List PyData} (h : keysOk ps = true) : AllAlike ps ∧ Sortable ps ∧ PyData.depthAll ps ≤ 60 := by
  unfold keysOk at h
  simp only [Bool.and_eq_true, Bool.or_eq_true, decide_eq_true_eq] at h
  obtain ⟨⟨h1, h2⟩, h3⟩ := h
  refine ⟨fun d hd d' hd' => alikes_all h1 d hd d' hd', ?_, h2⟩
  rcases h3 with h3 | h3
  · refine .inl fun d hd => ?_
    have := List.all_eq_true.mp h3 d hd
    cases d with
    | tuple l =>
      cases l with
      | nil => cases this
      | cons x r => exact ⟨x, r, rfl⟩
    | _ => cases this
  · refine .inr fun d hd => ?_
    have := List.all_eq_true.mp h3 d hd
    cases d with
    | tuple l => cases this
    | none => cases this
    | _ => exact ⟨(fun z => nomatch z), fun xs z => nomatch z⟩
theorem vals_snoc : ∀ {vs : List V} {us : List Value} {x : V} {u : Value}, Vals vs us → RelV x u → Vals (vs ++ [x]) (us ++ [u])
  | _, _, _, _, .nil, r => .cons r .nil
  | _, _, _, _, .cons a b, r => .cons a (vals_snoc b r)
theorem vals_at : ∀ {vs : List V} {us : List Value} {i : Nat} {u : Value}, Vals vs us → us[i]? = some u → ∃ v, vs[i]? = some v ∧ RelV v u
  | _, _, _, _, .nil, e => by simp at e
  | _, _, 0, _, .cons r _, e => by simp at e; subst e; exact ⟨_, rfl, r⟩
  | _, _, i + 1, _, .cons _ t, e => by
    obtain ⟨v, h1, h2⟩ := vals_at (i := i) t (by simpa using e)
    exact ⟨v, by simpa using h1, h2⟩
theorem VRs.at_ : ∀ {vs : List V} {ds : List D} {i : Nat} {v : V}, VRs G m H vs ds → vs[i]? = some v → ∃ d, ds[i]? = some d ∧ VR G m H v d
  | _, _, _, _, .nil, e => by simp at e
  | _, _, 0, _, .cons r _, e => by simp at e; subst e; exact ⟨_, rfl, r⟩
  | _, _, i + 1, _, .cons _ t, e => by
    obtain ⟨d, h1, h2⟩ := VRs.at_ (i := i) t (by simpa using e)
    exact ⟨d, by simpa using h1, h2⟩
/-- the reads of keys, one by one -/
theorem each_reads {h : Heap} : ∀ {us : List Value} {ps : List PyData} {as : List Addr}, ReadsAll h us ps as → EachIs (fun v k => ∃ as, Reads h v k as) us ps
  | _, _, _, .nil => .nil
  | _, _, _, .cons a b => .cons ⟨_, a⟩ (each_reads b)
theorem each_pairs {ps : List PyData} : ∀ {vs : List V} {us : List Value} {ds : List D}, VRs G m H vs ds → Vals vs us → ds.length = ps.length → EachIs (fun u (b : D × PyData) => ∃ v, RelV v u ∧ VR G m H v b.1) us (ds.zip ps) := by
  induction ps with
  | nil =>
    intro vs us ds r v hl
    match ds, r, v, hl with
    | [], .nil, .nil, _ => exact .nil
  | cons p ps ih =>
    intro vs us ds r v hl
    match ds, r, v, hl with
    | d :: ds, .cons a b, .cons x y, hl => exact .cons ⟨_, x, a⟩ (ih b y (by simpa using hl))
theorem each_back : ∀ {us : List Value} {bs : List (D × PyData)}, EachIs (fun u (b : D × PyData) => ∃ v, RelV v u ∧ VR G m H v b.1) us bs → ∃ vs, Vals vs us ∧ VRs G m H vs (bs.map (·.1))
  | _, _, .nil => ⟨[], .nil, .nil⟩
  | _, _, .cons ⟨v, h1, h2⟩ t => by
    obtain ⟨vs, g1, g2⟩ := each_back t
    exact ⟨v :: vs, .cons h1 g1, .cons h2 g2⟩
theorem zip_keys : ∀ {ds : List D} {ps : List PyData}, ds.length = ps.length → (ds.zip ps).map (fun p => p.2) = ps
  | [], [], _ => rfl
  | d :: ds, p :: ps, h => by
    rw [List.zip_cons_cons, List.map_cons, zip_keys (by simpa using h)]
/-- what stands in the middle of the keys' making: i are made -/
structure KeysAt (G : Gd) (X : Cx) (pins : List (Addr × Obj)) (σ : L2.St) (m : Mm) (H : Hp) (a kS : Addr) (e1 : Nat) (ds : List D) (ev : List D → Store → Res D) (Q : VK) (E : Value → Option Addr → Hp → Prop) (i : Nat) (s : Shared) : Prop where
  ex : ∃ (m' : Mm) (S' : Store) (H' : Hp) (ks : List D) (xs : List V) (us : List Value) (e : Nat), Inv X pins σ H' s ∧ H' kS = none ∧ H' a = none ∧ s.heap.get? kS = some (seqObj "list" us.toArray e) ∧ s.heap.get? a = some (seqObj "list" #[] e1) ∧
    Cf G m' S' H' ∧ Stp m H m' H' ∧ VRs G m' H' xs ks ∧ Vals xs us ∧ us.length = i ∧ PostF G m' H' ((keysL (fun d S => ev [d] S) (ds.drop i) S').bind fun r S => lift S ((sortBy ds (ks ++ r)).map .vl)) Q E
theorem keys_step {k : Nat} {f : Addr} {ev : List D → Store → Res D} {a kS : Addr} {e1 : Nat} {xs : List V} {its : List Value} {ds : List D} {Q : VK} {E : Value → Option Addr → Hp → Prop} {A' : Around} {E' : Value → Shared → Prop} (F : Prom X.prog X.w X.K X.mg X.base k f (spI G ev)) (hr : RoomG k A') (hf : A'.frames = X.A.frames)
    (c0 : Cf G m S H) (rs : VRs G m H xs ds) (rv : Vals xs its) (hz : its.length ≤ sizeLine) (hka : kS ≠ a) (fa : ∀ b ∈ [kS, a], FpOk X pins H b) {j : Nat} {x : Value} {s : Shared} (hx : its[j]? = some x) (J : KeysAt G X pins σ m H a kS e1 ds ev Q E j s) {β : Type} {Z : β → Shared → Prop} {rest : Sem β} {bad : Value → Sem β}
    (hrest : ∀ s', KeysAt G X pins σ m H a kS e1 ds ev Q E (j + 1) s' → wpAny (model X.prog X.w) A' rest Z E' s') :
    wpAny (model X.prog X.w) A' (do
      match ← (call (.ref f) [x]).attempt with
      | .ok k => do Builtin.List.listUpdate (.ref kS) (·.push k); rest
      | .error e => bad e) Z E' s := by
  obtain ⟨m1, S1, H1, ks, ys, us, e, I, hk0, ha0, gk, ga, c1, st1, r1, v1, ul, p⟩ := J
  obtain ⟨v, hv, rx⟩ := vals_at rv hx
  obtain ⟨d, hd, rd⟩ := rs.at_ hv
  have hdr : ds.drop j = d :: ds.drop (j + 1) := by
    obtain ⟨h, q⟩ := List.getElem?_eq_some_iff.mp hd
    rw [List.drop_eq_getElem_cons h, q]
  rw [hdr] at p
  have fp1 : ∀ b ∈ [kS, a], FpOk X pins H1 b := fun b hb => fp_other (fa b hb) (by
    simp only [List.mem_cons, List.not_mem_nil, or_false] at hb
    rcases hb with rfl | rfl
    · exact hk0
    · exact ha0)
  have I' := I.pinned fp1 (fun b hb => by
    simp only [List.mem_cons, List.not_mem_nil, or_false] at hb
    rcases hb with rfl | rfl
    · exact ⟨_, gk, fun v z => nomatch z⟩
    · exact ⟨_, ga, fun v z => nomatch z⟩)
  have p' : PostF G m1 H1 ((ev [d] S1).noexc.bind fun kd S => ((keysL (fun d S => ev [d] S) (ds.drop (j + 1)) S).bind fun r S => .ok (kd :: r) S).bind fun r S => lift S ((sortBy ds (ks ++ r)).map .vl)) Q E := by
    have : (keysL (fun d S => ev [d] S) (d :: ds.drop (j + 1)) S1) = ((ev [d] S1).noexc.bind fun kd S => (keysL (fun d S => ev [d] S) (ds.drop (j + 1)) S).bind fun r S => .ok (kd :: r) S) := rfl
    rw [this, bind_assoc] at p
    exact p
  have pp : Post G m1 H1 (ev [d] S1) (VR G) (fun v H' => ∃ m2 S2 kd, Cf G m2 S2 H' ∧ Stp m1 H1 m2 H' ∧ VR G m2 H' v kd ∧ PostF G m2 H' ((keysL (fun d S => ev [d] S) (ds.drop (j + 1)) S2).bind fun r S => lift S ((sortBy ds (ks ++ [kd] ++ r)).map .vl)) Q E) XNo := by
    refine Post.noexc (PostF.bind p' fun v kd S2 m2 H2 c2 st2 r2 p2 => ⟨m2, S2, kd, c2, st2, r2, ?_⟩)
    rw [bind_assoc] at p2
    have : (fun r S => lift S ((sortBy ds (ks ++ [kd] ++ r)).map D.vl)) = fun r S => (Res.ok (kd :: r) S).bind fun r S => lift S ((sortBy ds (ks ++ r)).map D.vl) := by
      funext r S
      show _ = lift S ((sortBy ds (ks ++ (kd :: r))).map D.vl)
      rw [List.append_assoc]; rfl
    rw [this]
    exact p2
  have sp : spI G ev [v] H1 (fun v H' => ∃ m2 S2 kd, Cf G m2 S2 H' ∧ Stp m1 H1 m2 H' ∧ VR G m2 H' v kd ∧ PostF G m2 H' ((keysL (fun d S => ev [d] S) (ds.drop (j + 1)) S2).bind fun r S => lift S ((sortBy ds (ks ++ [kd] ++ r)).map .vl)) Q E) XNo :=
    ⟨m1, S1, [d], c1, .cons (rd.step c0 st1) .nil, pp⟩
  refine wpAny_bind (wpAny_attempt (wpAny_mono (run_in F hr hf I' (.cons rx .nil) sp) (fun u s2 hu => ?_) fun _ _ z => z.elim))
  obtain ⟨z, H2, I2, rz, m2, S2, kd, c2, st2, r2, p2⟩ := hu
  dsimp only
  have pk := I2.pin (kS, _) (List.mem_append_right _ (List.mem_append_right _ (mem_pinsAt (List.mem_cons_self) gk)))
  have pa := I2.pin (a, _) (List.mem_append_right _ (List.mem_append_right _ (mem_pinsAt (List.mem_cons_of_mem _ List.mem_cons_self) ga)))
  have I3 := I2.unpinned
  have sm := Heap.SameBut.update s2.heap kS (Obj.mapSeq (·.push u))
  have hul : us.toArray.size ≤ its.length := by
    have := (List.getElem?_eq_some_iff.mp hx).1
    rw [List.size_toArray, ul]; omega
  have fk : FpOk X pins H2 kS := fp_other (fa kS List.mem_cons_self) pk.2.1
  have ng := get?_update_seq pk.1 (·.push u)
  rw [← show (us ++ [u]).toArray = us.toArray.push u from by simp] at ng
  refine wpAny_bind (listUpdate_at pk.1 rfl ?_ (Nat.le_trans hul hz) ?_)
  · exact hrest _ ⟨m2, S2, H2, ks ++ [kd], ys ++ [z], us ++ [u], _, I3.turnedL (t' := s2.toks) (ch := [kS]) (fun b o hb q => (sm.2 b (fun y => hb (by simp [y]))).trans q) (fun b hb => by rw [List.mem_singleton.mp hb]; exact fk), pk.2.1, pa.2.1, ng, (sm.2 a (Ne.symm hka)).trans pa.1, c2, st1.trans st2, (r1.step c1 st2).append (.cons r2 .nil), vals_snoc v1 rz, by rw [List.length_append, ul]; rfl, p2⟩
  · show (us.toArray.push u).size ≤ sizeLine + 1
    rw [Array.size_push]
    exact Nat.succ_le_succ (Nat.le_trans hul hz)
theorem sortBy_some {ds ks ds' : List D} (h : sortBy ds ks = some ds') : ∃ ps, toPs (fun _ => none) ks = some ps ∧ keysOk ps = true ∧ ds' = ((ds.zip ps).mergeSort fun a b => PySem.W.dataLe false (fun p : D × PyData => p.2) a b).map (·.1) := by
  obtain ⟨ps, h1, h2⟩ := Option.bind_eq_some_iff.mp h
  by_cases q : keysOk ps = true
  · rw [if_pos q] at h2
    exact ⟨ps, h1, q, by rw [← sortP_eq]; exact (Option.some.inj h2).symm⟩
  · rw [if_neg q] at h2; cases h2
/-- sorted(l, key=f) -/
theorem sortk_run (hK : X.K = G.K) {k : Nat} {f l : Addr} {ev : List D → Store → Res D} {xs : List V} {ds : List D} {Q : VK} {E : Value → Option Addr → Hp → Prop} (F : Prom X.prog X.w X.K X.mg X.base k f (spI G ev)) (hr : RoomG (k + 1) X.A) (I : Inv X pins σ H s)
    (c0 : Cf G m S H) (hl : SqL X.K H l xs) (rs : VRs G m H xs ds) (p : PostF G m H ((keysL (fun d S => ev [d] S) ds S).bind fun ks S => lift S ((sortBy ds ks).map .vl)) Q E) :
    wpAny (model X.prog X.w) X.A (call (.builtin "sorted") [.ref l] [(Str.ofString "key", .ref f)]) (EP X pins σ Q) X.xe s := by
  obtain ⟨its, rv, pl, hz⟩ := I.list hl
  have hz' : its.length ≤ sizeLine := by have := rv.length; omega
  have hu := hr.room.un
  refine PySem.W.sorted_of_sort pl.isList hz' (ksk_s1 _ _) (fun _ => ksk_l1 _ _) fun E' => ?_
  rw [ksk_t1]
  have ac := copyHeap_at s.heap its
  have la : s.heap.objs.size + 1 < (copyHeap s.heap its).objs.size := Heap.lt_size ac
  have u1 := Heap.SameBut.update (copyHeap s.heap its) (s.heap.objs.size + 1) (Obj.mapSeq fun _ => (#[] : Array Value))
  have a1 := get?_update_seq ac fun _ => #[]
  generalize he1 : (if (#[] : Array Value).size == its.toArray.size then 0 else 0 + 1) = e1 at a1
  generalize hg : (copyHeap s.heap its).update (s.heap.objs.size + 1) (Obj.mapSeq fun _ => (#[] : Array Value)) = g at u1 a1
  have old : ∀ b o, s.heap.get? b = some o → g.get? b = some o := fun b o q => (u1.2 b (Nat.ne_of_lt (Nat.lt_succ_of_lt (Heap.lt_size q)))).trans (copyHeap_old q)
  have gs : g.objs.size = (copyHeap s.heap its).objs.size := u1.1
  have ks1 : (g.push (seqObj "tuple" its.toArray 0)).objs.size = g.objs.size + 1 := by rw [size_push']
  have lk : s.heap.objs.size ≤ (g.push (seqObj "tuple" its.toArray 0)).objs.size := by
    rw [ks1, gs]
    have : s.heap.objs.size + 1 < (copyHeap s.heap its).objs.size := la
    omega
  have hka : (g.push (seqObj "tuple" its.toArray 0)).objs.size ≠ s.heap.objs.size + 1 := by
    have : s.heap.objs.size + 1 < g.objs.size := by rw [gs]; exact la
    rw [ks1]
    exact Nat.ne_of_gt (Nat.lt_succ_of_lt this)
  have sz : its.toArray.size ≤ sizeLine := by rw [List.size_toArray]; exact hz'
  unfold ksk_tree
  refine wpAny_bind (listItems_at ac rfl (wpAny_bind (listUpdate_at ac rfl ?_ sz (Nat.zero_le _))))
  rw [hg]
  refine wpAny_bind (seqEpoch_at a1 rfl (wpAny_bind (wpAny_newTuple ?_ (by show its.length ≤ _; exact hz'))))
  refine wpAny_bind (wpAny_newList ?_ (Nat.zero_le _))
  refine wpAny_holding ?_
  have kk : ((g.push (seqObj "tuple" its.toArray 0)).push (seqObj "list" #[] 0)).get? (g.push (seqObj "tuple" its.toArray 0)).objs.size = some (seqObj "list" #[] 0) := Heap.get?_push_size _ rfl
  have ka : ((g.push (seqObj "tuple" its.toArray 0)).push (seqObj "list" #[] 0)).get? (s.heap.objs.size + 1) = some (seqObj "list" #[] e1) := Heap.get?_push_of_some _ (Heap.get?_push_of_some _ a1)
  have kept : ∀ b o, s.heap.get? b = some o → ((g.push (seqObj "tuple" its.toArray 0)).push (seqObj "list" #[] 0)).get? b = some o := fun b o q => Heap.get?_push_of_some _ (Heap.get?_push_of_some _ (old b o q))
  generalize hkS : (g.push (seqObj "tuple" its.toArray 0)).objs.size = kS at lk hka kk
  have I1 : Inv X pins σ H { s with heap := (g.push (seqObj "tuple" its.toArray 0)).push (seqObj "list" #[] 0) } := I.kept (t' := s.toks) kept
  have na : H (s.heap.objs.size + 1) = none := I.hok.fresh (Nat.le_succ _)
  have nk : H kS = none := I.hok.fresh lk
  have fa : ∀ b ∈ [kS, s.heap.objs.size + 1], FpOk X pins H b := fun b hb => by
    simp only [List.mem_cons, List.not_mem_nil, or_false] at hb
    rcases hb with rfl | rfl
    · exact I.fpOk lk nk
    · exact I.fpOk (Nat.le_succ _) na
  have J0 : KeysAt G X pins σ m H (s.heap.objs.size + 1) kS e1 ds ev Q E 0 { s with heap := (g.push (seqObj "tuple" its.toArray 0)).push (seqObj "list" #[] 0) } := ⟨m, S, H, [], [], [], 0, I1, nk, na, kk, ka, c0, Stp.refl, .nil, .nil, rfl, p⟩
  unfold ksk_rest
  refine wpAny_bind (wpAny_rule ?_)
  rw [List.forIn_toArray]
  refine wpAny_bind (ksk_fold (fun i s' => KeysAt G X pins σ m H (s.heap.objs.size + 1) kS e1 ds ev Q E i s') its 0 _ J0 (fun j x s' hx J => ?_) fun s' J => ?_)
  · rw [Nat.zero_add] at J ⊢
    exact keys_step F hr.in2 rfl c0 rs rv hz' hka fa hx J fun s'' J' => wpAny_pure ⟨rfl, J'⟩
  rw [Nat.zero_add] at J
  obtain ⟨m1, S1, H1, ks, ys, us, e, I2, hk0, ha0, gk, ga, c1, st1, r1, v1, ul, p1⟩ := J
  have dl : its.length = ds.length := by have := rv.length; have := rs.length; omega
  rw [dl, List.drop_length] at p1
  replace p1 : PostF G m1 H1 (lift S1 ((sortBy ds (ks ++ [])).map .vl)) Q E := p1
  rw [List.append_nil] at p1
  cases hs : sortBy ds ks with
  | none => rw [hs] at p1; exact p1.elim
  | some ds' =>
    rw [hs] at p1
    obtain ⟨ps, t1, t2, rfl⟩ := sortBy_some hs
    obtain ⟨al, so, dp⟩ := keysOk_ok t2
    obtain ⟨_, as, ra⟩ := reads_ws (m := m1) (r := fun _ => none) hK I2 (fun n a p _ e => by cases e) r1 t1 v1
    have er := each_reads ra
    have pl : ps.length = ks.length := toPs_len _ t1
    have kl : ks.length = its.length := by have := r1.length; have := v1.length; omega
    refine wpAny_bind (listItems_at gk rfl ?_)
    have er' : EachIs (fun v k => ∃ as, Reads s'.heap v k as) us.toArray.toList ps := er
    have T : SortsAt X.prog X.w X.A.in1.in1 s' (dataKind s'.heap ps) us.toArray.toList := SortsAt.data er' al so fun d hd => by
      have := depthAll_mem hd
      show X.A.units + 1 + 1 + d.depth < cLine
      omega
    refine srt_end gk ga hka T (by rw [List.size_toArray, ul]) hz' fun h' tk c keep' at' => ⟨rfl, ?_⟩
    have ko : KeyedOut false ps its (PySem.W.sortVals (dataKind s'.heap ps) false us.toArray.toList its) := ⟨s'.heap, us.toArray.toList, al, rfl, er'⟩
    have hzl : ds.length = ps.length := by rw [← dl, pl, kl]
    have ep := each_pairs (ps := ps) rs rv hzl
    have ko2 : KeyedOut false ((ds.zip ps).map fun p => p.2) its (PySem.W.sortVals (dataKind s'.heap ps) false us.toArray.toList its) := by rw [zip_keys hzl]; exact ko
    obtain ⟨vs2, w1, w2⟩ := each_back (keyedOut_each (fun p : D × PyData => p.2) ko2 ep)
    have oz := ko2.length (by rw [List.length_map, List.length_zip, hzl, Nat.min_self, pl, kl])
    generalize PySem.W.sortVals (dataKind s'.heap ps) false us.toArray.toList its = out at at' w1 oz
    generalize (((ds.zip ps).mergeSort fun a b => PySem.W.dataLe false (fun p : D × PyData => p.2) a b).map (·.1)) = ds' at p1 w2
    have f1 : ∀ b ∈ [kS, s.heap.objs.size + 1], FpOk X pins H1 b := fun b hb => fp_other (fa b hb) (by
      simp only [List.mem_cons, List.not_mem_nil, or_false] at hb
      rcases hb with rfl | rfl
      · exact hk0
      · exact ha0)
    have ol : vs2.length ≤ sizeLine := by
      have := w1.length
      omega
    have new : ObjOk X.prog X.w (upd H1 (s.heap.objs.size + 1) (.lst vs2)) h' (s.heap.objs.size + 1) (.lst vs2) := ⟨ol, out, c, w1, at'⟩
    have I3 := inv_track (t' := tk) I2 keep' f1 (List.mem_cons_of_mem _ List.mem_cons_self) new
    refine ⟨V.ref (s.heap.objs.size + 1), _, I3, rfl, ?_⟩
    exact p1 _ vs2 m1 _ (c1.start ha0) (Stp.new ha0) (.of ha0) upd_same (c1.notin ha0) ((w2.step c0 st1).start ha0)
end
end RA

set_option Elab.async false
set_option linter.all false
set_option maxRecDepth 100000
set_option maxHeartbeats 4000000
set_option autoImplicit false
/-! B7u: sorted(set(x)), x a list of ints. -/
namespace RA
open PySem PySem.Spec PyProof.Rows L2
abbrev emptySet (w : World) : Obj := { cls := .type "set", dict := none, data := .set #[] 0 (.fresh 0 0 (!w.params.followText "set-order")) }
/-- set(l), l a list of ints -/
theorem set_of_list {P : Program} {w : World} {A : Around} {E : Value → Shared → Prop} {s : Shared} {l : Addr} {items : Array Value} (ns : List Int) {Q : Value → Shared → Prop} (hh : A.handled = none) (hl : s.heap.IsList l items) (hi : IntsAre items.toList ns) (hb : ns.length + 1 < scanBound)
    (h : ∀ (g : Heap) (tk c : Nat), SetR w g s.heap.objs.size (fun j => decide (j ∈ ns)) c → c ≤ ns.length → (∀ b o, s.heap.get? b = some o → g.get? b = some o) → Q (.ref s.heap.objs.size) { s with heap := g, toks := tk }) :
    wpAny (model P w) A (call (.type "set") [.ref l]) Q E s := by
  have sz : items.size = ns.length := by
    have := IntsAre.length hi
    rwa [Array.length_toList] at this
  obtain ⟨cc, tl, mro⟩ := F.called_set.mro
  have made := F.called_set.made
  have sub := F.called_set.sub
  refine wpAny_call (codeAny_of_tree ?_)
  show wpAny _ _ (callAny (.type "set") _) _ _ _
  refine wpAny_pure ⟨Code.quiet_builtin _ (by decide +kernel), codeAny_builtin F.entry_type_call ?_⟩
  rw [Around.under_plain (weight_type_call_type "set" [.ref l] []) rfl]
  have n1 := F.called_set.notType
  have n2 := F.called_set.canCreate
  have n3 := F.typeCall_set_1 (.ref l)
  repeat any_goals first | assumption | wp_step
  refine codeAny_mono (code_set_led1 (.ref l) (E := E) (Q₁ := fun v t => v = .ref s.heap.objs.size ∧ t = { s with heap := s.heap.push (emptySet w) }) ⟨rfl, rfl⟩) fun r t hr => ?_
  rcases r with e | fl
  · exact hr
  cases fl with
  | next => exact hr.elim
  | brk => exact hr.elim
  | cont => exact hr.elim
  | ret v =>
    obtain ⟨rfl, rfl⟩ := hr
    have at0 : (s.heap.push (emptySet w)).get? s.heap.objs.size = some (emptySet w) := Heap.get?_push_size _ rfl
    have ty : Shared.TypeIs { s with heap := s.heap.push (emptySet w) } (.ref s.heap.objs.size) "set" := ⟨_, at0, rfl⟩
    have il := F.called_set.init.lookup
    have ib := F.called_set.init.bind (.ref s.heap.objs.size)
    repeat any_goals first | assumption | wp_step
    refine codeAny_mono (codeAny_call_builtin (R := wants (fun r t => r = .none ∧ ∃ g tk c, t = { s with heap := g, toks := tk } ∧ SetR w g s.heap.objs.size (fun j => decide (j ∈ ns)) c ∧ c ≤ ns.length ∧ ∀ b o, s.heap.get? b = some o → g.get? b = some o) E) F.called_set.init.plain F.entry_set_init (check_set_init_1 ty ?_)) fun r t hr => ?_
    · obtain ⟨⟨oc, od, dt, sl⟩, ol, oc', nl, dl⟩ := hl
      dsimp only at oc' dl
      subst oc' dl
      have ol2 : (s.heap.push (emptySet w)).get? l = some { cls := .type "list", dict := od, data := .seq items nl, slots := sl } := Heap.get?_push_of_some _ ol
      have s1 := F.sub_list_set
      have s2 := F.sub_list_frozenset
      have nd : (Value.type "list" == Value.type "dict") = false := by decide
      have ll : (s.heap.push (emptySet w)).IsList l items := ⟨_, ol2, rfl, nl, rfl⟩
      have lt : l < s.heap.objs.size := Heap.lt_size ol
      have z1 : (s.heap.push (emptySet w)).objs.size = s.heap.objs.size + 1 := Heap.size_push ..
      unfold Builtin.«set.__init__» noKeywords Builtin.Frozenset.updateFrom
      generalize hPI : pyIter = PI
      wp_walk
      subst hPI
      refine wpAny_pyIter_list ll (wpAny_bind (wpAny_runValue ?_))
      have ne : l ≠ (s.heap.push (emptySet w)).objs.size := by rw [z1]; exact Nat.ne_of_lt (Nat.lt_succ_of_lt lt)
      have nf : s.heap.objs.size ∉ [(s.heap.push (emptySet w)).objs.size, l] := by
        rw [z1]
        intro z
        simp only [List.mem_cons, List.not_mem_nil, or_false] at z
        rcases z with z | z
        · exact absurd z (Nat.ne_of_lt (Nat.lt_succ_self _))
        · exact absurd z (Nat.ne_of_gt lt)
      have vals : ∀ (i : Nat) (v : Value), items[i]? = some v → ∃ k t, ns[i]? = some k ∧ v = .int k t := fun i v hv => by
        have hlt : i < ns.length := by rw [← sz]; exact (Array.getElem?_eq_some_iff.mp hv).1
        obtain ⟨t, e⟩ := PyProof.Rows.IntsAre.int_at hi i v (by rw [Array.getElem?_toList]; exact hv)
        exact ⟨ns[i], t, List.getElem?_eq_getElem hlt, by rw [e, List.getD_eq_getElem?_getD, List.getElem?_eq_getElem hlt] <;> rfl⟩
      refine set_update_ints ((Walks.list (by simp [hh]) _ l ne items).toS) s.heap.objs.size nf ns sz hb vals (items.size - 0) 0 _ (by omega) (Nat.zero_le _) ⟨⟨_, Heap.get?_push_size _ rfl, rfl, rfl⟩, ll.at fun o e => Heap.get?_push_of_some _ e⟩
        ⟨0, Nat.le_refl 0, setR_new_at (Heap.get?_push_of_some _ at0)⟩ fun t c mv hc R => ?_
      obtain ⟨g, g2, d2, tk, o2⟩ := t
      obtain rfl : g2 = s.gens := mv.gens
      obtain rfl : d2 = s.drawn := mv.drawn
      obtain rfl : o2 = s.os := mv.os
      show wpAny _ _ _ _ _ _
      refine wpAny_pure ?_
      show wpAny _ _ (ret Value.none) _ _ _
      refine wpAny_pure ⟨rfl, g, tk, c, rfl, R, sz ▸ hc, fun b o e => mv.heap b o (fun z => ?_) (Heap.get?_push_of_some _ (Heap.get?_push_of_some _ e))⟩
      have lb : b < s.heap.objs.size := Heap.lt_size e
      simp only [List.mem_cons, List.not_mem_nil, or_false] at z
      rcases z with z | z
      · exact absurd z (Nat.ne_of_lt lb)
      · rw [z1] at z
        exact absurd z (Nat.ne_of_lt (Nat.lt_succ_of_lt lb))
    · rcases r with e | fl
      · exact hr
      cases fl with
      | next => exact hr.elim
      | brk => exact hr.elim
      | cont => exact hr.elim
      | ret v =>
        obtain ⟨rfl, g, tk, c, rfl, R, hc, hk⟩ := hr
        repeat any_goals first | assumption | wp_step
        exact h _ _ _ R hc hk
theorem ints_vals : ∀ {ns : List Int} {us : List Value}, Vals (ns.map V.int) us → IntsAre us ns
  | [], _, .nil => .nil
  | n :: ns, _, .cons r t => by
    obtain ⟨k, rfl⟩ := r
    exact .cons n k (ints_vals t)
/-- rising lists with the same members are the same -/
theorem rising_eq : ∀ {a b : List Int}, a.Pairwise (· < ·) → b.Pairwise (· < ·) → (∀ k, k ∈ a ↔ k ∈ b) → a = b
  | [], [], _, _, _ => rfl
  | [], y :: b, _, _, h => nomatch (h y).mpr List.mem_cons_self
  | x :: a, [], _, _, h => nomatch (h x).mp List.mem_cons_self
  | x :: a, y :: b, ha, hb, h => by
    rw [List.pairwise_cons] at ha hb
    have e : x = y := by
      rcases List.mem_cons.mp ((h x).mp List.mem_cons_self) with z | z
      · exact z
      · rcases List.mem_cons.mp ((h y).mpr List.mem_cons_self) with q | q
        · exact q.symm
        · exact absurd (Int.lt_trans (hb.1 x z) (ha.1 y q)) (Int.lt_irrefl _)
    subst e
    rw [rising_eq ha.2 hb.2 fun k => ?_]
    constructor
    · intro hk
      rcases List.mem_cons.mp ((h k).mp (List.mem_cons_of_mem _ hk)) with z | z
      · exact absurd (z ▸ ha.1 k hk) (Int.lt_irrefl _)
      · exact z
    · intro hk
      rcases List.mem_cons.mp ((h k).mpr (List.mem_cons_of_mem _ hk)) with z | z
      · exact absurd (z ▸ hb.1 k hk) (Int.lt_irrefl _)
      · exact z
theorem putIn_mem (x k : Int) : ∀ l : List Int, k ∈ putIn x l ↔ k = x ∨ k ∈ l
  | [] => by simp [putIn]
  | y :: r => by
    unfold putIn
    by_cases h1 : x < y
    · rw [if_pos h1]; simp
    · rw [if_neg h1]
      by_cases h2 : x = y
      · rw [if_pos h2]; subst h2; simp
      · rw [if_neg h2, List.mem_cons, putIn_mem x k r, List.mem_cons]
        constructor
        · rintro (h | h | h)
          · exact .inr (.inl h)
          · exact .inl h
          · exact .inr (.inr h)
        · rintro (h | h | h)
          · exact .inr (.inl h)
          · exact .inl h
          · exact .inr (.inr h)
theorem putIn_rising (x : Int) : ∀ l : List Int, l.Pairwise (· < ·) → (putIn x l).Pairwise (· < ·)
  | [], _ => by simp [putIn]
  | y :: r, h => by
    unfold putIn
    rw [List.pairwise_cons] at h
    by_cases h1 : x < y
    · rw [if_pos h1, List.pairwise_cons]
      refine ⟨fun k hk => ?_, List.pairwise_cons.mpr h⟩
      rcases List.mem_cons.mp hk with z | z
      · rw [z]; exact h1
      · exact Int.lt_trans h1 (h.1 k z)
    · rw [if_neg h1]
      by_cases h2 : x = y
      · rw [if_pos h2]; exact List.pairwise_cons.mpr h
      · rw [if_neg h2, List.pairwise_cons]
        refine ⟨fun k hk => ?_, putIn_rising x r h.2⟩
        rcases (putIn_mem x k r).mp hk with z | z
        · rw [z]; omega
        · exact h.1 k z
theorem rising_mem (k : Int) : ∀ l : List Int, k ∈ rising l ↔ k ∈ l
  | [] => by simp [rising]
  | x :: r => by
    unfold rising
    rw [putIn_mem, rising_mem k r, List.mem_cons]
theorem rising_is : ∀ l : List Int, (rising l).Pairwise (· < ·)
  | [] => by simp [rising]
  | x :: r => putIn_rising x _ (rising_is r)
section
variable {G : Gd} {X : Cx} {W : WX}
def tSortSet (K : PySem.W.Frag) (w : World) (ta : TE) : TE := fun σ H Q => ta σ H fun x H1 => ∃ (l : Addr) (ns : List Int), x = .ref l ∧ SqL K H1 l (ns.map V.int) ∧ ns.length < 64 ∧
  ∀ (q p : Addr) (c : Nat), H1 q = none → upd H1 q (SetO w q (fun j => decide (j ∈ ns)) c) p = none → Q (.ref p) (upd (upd H1 q (SetO w q (fun j => decide (j ∈ ns)) c)) p (.lst ((rising ns).map V.int)))
theorem pe_sortset {a : Expr} {ta : TE} {p p2 q pos : Pos} (hg : Gl X "sorted") (hm : X.mg "sorted" = none) (hg2 : Gl X "set") (hm2 : X.mg "set" = none) (ha : PE X a ta) (hc : X.calm = true) (na : starEach [a] X.env = [(false, eval a X.env)]) :
    PE X (.Call (.Name "sorted" p) [.Call (.Name "set" p2) [a] [] q] [] pos) (tSortSet X.K X.w ta) := by
  refine ⟨fun pins s σ H Q I h => ?_⟩
  refine Call_ (ld_blt I hg hm (by decide +kernel : bootBuiltins "sorted" = some (.builtin "sorted")) ?_)
  refine PyProof.Rows.callWith_builtin1 (PyProof.Rows.args_cons ?_ rfl) rfl rfl
  refine Call_ (ld_blt I hg2 hm2 boot_set ?_)
  refine PyProof.Rows.callWith_type1 (PyProof.Rows.args_cons (thn (ha.run pins s σ H _ I h) fun v s1 ⟨x, H1, I1, r1, q1⟩ => PyProof.Rows.args_nil ?_) na) na rfl
  obtain ⟨l, ns, rfl, hq, hl, q1⟩ := q1
  cases r1
  obtain ⟨its, r, pl, hz⟩ := I1.list hq
  have fits : ns.length + 1 < scanBound := by unfold scanBound; omega
  refine set_of_list (w := X.w) ns (I1.ok.hd hc) pl.isList (by simpa using ints_vals r) fits fun g tk c R hcl hk => ?_
  refine PyProof.Rows.args_nil ?_
  have hf : H1 s1.heap.objs.size = none := I1.hok.fresh (Nat.le_refl _)
  have I2 : Inv X pins σ (upd H1 s1.heap.objs.size (SetO X.w s1.heap.objs.size (fun j => decide (j ∈ ns)) c)) { s1 with heap := g, toks := tk } := I1.laid hk (Nat.le_refl _) (setO_new R)
  refine cr_sortedSet hc pins _ σ _ [.ref s1.heap.objs.size] [.ref s1.heap.objs.size] Q I2 (.cons rfl .nil) ⟨_, _, c, rfl, upd_same, by omega, fun ms p hr hmem _ hp => ?_⟩
  have : ms = rising ns := rising_eq hr (rising_is ns) fun k => by rw [hmem, rising_mem]; simp
  subst this
  exact q1 _ p c hf hp
theorem f_sortset (hK : X.K = G.K) (hc : X.calm = true) {a : Expr} {ea : Ev D} {p p2 q pos : Pos} (hg : Gl X "sorted") (hm : X.mg "sorted" = none) (hg2 : Gl X "set") (hm2 : X.mg "set" = none) (ha : EOk G X W a ea) (na : starEach [a] X.env = [(false, eval a X.env)]) :
    FOk G X W (.Call (.Name "sorted" p) [.Call (.Name "set" p2) [a] [] q] [] pos) fun τ S => (ea τ S).bind fun x S => lift S ((sortSet S x).map .vl) :=
  PE.weak (pe_sortset hg hm hg2 hm2 ha hc na) fun σ H Q ⟨m, S, τ, c, sr, pp⟩ => ⟨m, S, τ, c, sr, by
    dsimp only at pp
    cases e1 : ea τ S with
    | bad => rw [e1] at pp; exact pp.elim
    | exc x S' => rw [e1] at pp; exact pp
    | ok d S' =>
      rw [e1, r_ok] at pp
      intro v m1 H1 c1 st r1
      cases e2 : sortSet S' d with
      | none => rw [e2] at pp; exact pp.elim
      | some out =>
        rw [e2] at pp
        unfold sortSet at e2
        obtain ⟨ds, f1, e3⟩ := Option.bind_eq_some_iff.mp e2
        obtain ⟨ns, f2, e4⟩ := Option.bind_eq_some_iff.mp e3
        by_cases hl : ns.length < 64
        case neg => rw [if_neg hl] at e4; cases e4
        rw [if_pos hl] at e4
        cases e4
        obtain ⟨l, xs, rfl, h1, h2⟩ := VR.lst c1 r1 f1
        have hx := h2.ints_of f2
        subst hx
        refine ⟨l, ns, rfl, .of h1, hl, fun q p c' hq hp => ?_⟩
        have c2 := c1.new (o := SetO X.w q (fun j => decide (j ∈ ns)) c') hq
        have st2 : Stp m1 H1 m1 (upd H1 q (SetO X.w q (fun j => decide (j ∈ ns)) c')) := Stp.new hq
        have st3 := st2.trans (Stp.new (o := .lst ((rising ns).map V.int)) hp)
        exact pp p _ m1 _ (c2.start hp) (st.trans st3) ((st.trans st2).there _ (.of hp)) upd_same (c2.notin hp) (VRs.of_ints _)⟩
end
end RA

set_option Elab.async false
set_option linter.all false
set_option maxRecDepth 100000
set_option maxHeartbeats 4000000
set_option autoImplicit false
/-! B9: statements. -/
namespace RA
open PySem PySem.Spec PyProof.Rows L2
section
variable {G : Gd} {X : Cx} {W : WX} {m m' m0 m1 : Mm} {S : Store} {H H' H0 H1 : Hp} {σ : L2.St} {τ : Sig} {n : Nat} {En En' : Ends}
def PostS (G : Gd) (m : Mm) (H : Hp) (n : Nat) (r : Res Out) (En : Ends) (W : WX) : Prop :=
  match r with
  | .ok (.nx τ') S' => ∀ σ' m' H', σ'.length = n → Cf G m' S' H' → Stp m H m' H' → SR G m' H' σ' τ' → En.nx σ' H'
  | .ok (.ret d) S' => ∀ v m' H', Cf G m' S' H' → Stp m H m' H' → VR G m' H' v d → En.rt v H'
  | .exc x S' => ∀ σ' c d m' H', σ'.length = n → Cf G m' S' H' → Stp m H m' H' → ER G m' H' c d x → W c d σ' H'
  | .bad => False
def rdS (G : Gd) (n : Nat) (W : WX) (ev : Ev Out) : TS := fun D σ H => ∃ m S τ, Cf G m S H ∧ SR G m H σ τ ∧ σ.length = n ∧ PostS G m H n (ev τ S) D W
def SOk (G : Gd) (X : Cx) (W : WX) (st : Stmt) (ev : Ev Out) : Prop := PS X st (rdS G X.N.length W ev)
def SsOk (G : Gd) (X : Cx) (W : WX) (sts : List Stmt) (ev : Ev Out) : Prop := PSs X sts (rdS G X.N.length W ev)
theorem PS.weak {X : Cx} {e : Stmt} {t t' : TS} (h : PS X e t) (w : ∀ D σ H, t' D σ H → t D σ H) : PS X e t' := ⟨fun pins s σ H D I q => h.run pins s σ H D I (w D σ H q)⟩
theorem PSs.weak {X : Cx} {e : List Stmt} {t t' : TS} (h : PSs X e t) (w : ∀ D σ H, t' D σ H → t D σ H) : PSs X e t' := ⟨fun pins s σ H D I q => h.run pins s σ H D I (w D σ H q)⟩
theorem PostS.later {r : Res Out} (st : Stp m H m1 H1) (p : PostS G m H n r En W) : PostS G m1 H1 n r En W := by
  unfold PostS at p ⊢
  split at p
  · exact fun σ' m' H' l c s q => p σ' m' H' l c (st.trans s) q
  · exact fun v m' H' c s q => p v m' H' c (st.trans s) q
  · exact fun σ' c d m' H' l cf s q => p σ' c d m' H' l cf (st.trans s) q
  · exact p
theorem PostS.bind {α β : Type} {r : Res α} {f : α → Store → Res Out} {R : Mm → Hp → β → α → Prop} {K : β → Hp → Prop} (p : PostS G m H n (r.bind f) En W) (hl : σ.length = n)
    (h : ∀ v d S1 m1 H1, Cf G m1 S1 H1 → Stp m H m1 H1 → R m1 H1 v d → PostS G m1 H1 n (f d S1) En W → K v H1) : Post G m H r R K fun c d H' => W c d σ H' := by
  cases r with
  | ok d S' => exact fun v m' H' c s q => h v d S' m' H' c s q (PostS.later s p)
  | exc x S' => exact fun c d m' H' cf s q => p σ c d m' H' hl cf s q
  | bad => exact p
/-- what follows a statement -/
def thenS (r : Res Out) (f : Sig → Store → Res Out) : Res Out := r.bind fun o S => match o with
  | .nx τ => f τ S
  | .ret d => .ok (.ret d) S
theorem PostS.seq {r : Res Out} {f : Sig → Store → Res Out} (p : PostS G m H n (thenS r f) En W) (hr : En'.rt = En.rt)
    (h : ∀ σ' τ' S' m' H', σ'.length = n → Cf G m' S' H' → Stp m H m' H' → SR G m' H' σ' τ' → PostS G m' H' n (f τ' S') En W → En'.nx σ' H') : PostS G m H n r En' W := by
  cases r with
  | ok o S' =>
    cases o with
    | nx τ' => exact fun σ' m' H' l c s q => h σ' τ' S' m' H' l c s q (PostS.later s p)
    | ret d => exact fun v m' H' c s q => hr ▸ p v m' H' c s q
  | exc x S' => exact p
  | bad => exact p
/-! ### simple ones -/
/-- name = e -/
def SetOk (G : Gd) (X : Cx) (W : WX) (st : Stmt) (i : Nat) (ev : Ev D) : Prop := ∃ t, PS X st (tAsg t (gName i)) ∧ ∀ σ H Q, rdE G W ev σ H Q → t σ H Q
theorem s_set {st : Stmt} {i : Nat} {ee : Ev D} (h : SetOk G X W st i ee) : SOk G X W st fun τ S => (ee τ S).bind fun d S => .ok (.nx (τ.set i (some d))) S := by
  obtain ⟨t, h1, h2⟩ := h
  exact PS.weak h1 fun En σ H ⟨m, S, τ, c, sr, l, p⟩ => h2 _ _ _ ⟨m, S, τ, c, sr, PostS.bind p l fun v d S1 m1 H1 c1 st r p1 =>
    p1 _ m1 H1 (by rw [List.length_set]; exact l) c1 Stp.refl ((sr.step c st).set r)⟩
theorem set_of {i : Nat} {x : Str} {e : Expr} {ee : Ev D} {pos pos' : Pos} (hN : X.N.Nodup) (hi : X.N[i]? = some x) (hx : Loc X.env.scope x) (he : EOk G X W e ee) (hs : swapsWith e (some (.Name x pos')) pos.line X.env = pure false) (hf : X.fn x = true ∨ X.env.scope.names.lookup x = some .local) :
    SetOk G X W (.Assign [.Name x pos'] e pos) i ee := ⟨_, ps_set hN hi hx he hs hf, fun _ _ _ h => h⟩
/-- what a fresh list is taken for -/
def Takes2 (ev ev' : Ev D) : Prop := ∀ (G : Gd) (W : WX) σ H Q, rdE G W ev' σ H Q → rdF G W ev σ H Q
theorem takes_vl {ev : Ev D} (hv : Lists ev) : Takes2 ev ev := fun G W σ H Q ⟨m, S, τ, c, sr, p⟩ => ⟨m, S, τ, c, sr, by
    cases e : ev τ S with
    | bad => rw [e] at p; exact p.elim
    | exc x S' => rw [e] at p; exact p
    | ok d S' =>
      obtain ⟨ds, rfl⟩ := hv _ _ _ _ e
      rw [e] at p
      intro q xs m1 H1 c1 st h0 h1 hm rs
      exact p _ m1 H1 c1.unban st (.vl h1 (new_out c st h0 hm) rs.unban)⟩
def newEv (ev : Ev D) : Ev D := fun τ S => (ev τ S).bind fun d S => match d with | .vl ds => .ok (.ref S.length) (S ++ [.lst ds]) | _ => .bad
theorem takes_new {ev : Ev D} : Takes2 ev (newEv ev) := fun G W σ H Q ⟨m, S, τ, c, sr, p⟩ => ⟨m, S, τ, c, sr, by
    unfold newEv at p
    cases e : ev τ S with
    | bad => rw [e] at p; exact p.elim
    | exc x S' => rw [e] at p; exact p
    | ok d S' =>
      rw [e] at p
      cases d with
      | vl ds =>
        intro q xs m1 H1 c1 st h0 h1 hm rs
        refine p _ (m1.put q) H1 (c1.put h1 hm rs) ⟨?_, st.ban, st.keep, st.there⟩ (.ref ?_)
        · obtain ⟨t, e1, e2⟩ := st.more
          refine ⟨t ++ [q], by show m1.l ++ [q] = _; rw [e1, List.append_assoc], fun a ha => ?_⟩
          rcases List.mem_append.mp ha with z | z
          · exact e2 a z
          · have : a = q := by simpa using z
            subst this; exact h0
        · show (m1.l ++ [q])[_]? = _
          have hl : m1.l.length = S'.length := c1.len
          rw [List.getElem?_append_right (by omega), ← hl]
          simp
      | _ => exact p.elim⟩
/-- name = [.. for ..] on one line -/
theorem set_comp (hc : X.calm = true) (hN : X.N.Nodup) {i : Nat} {y : Str} {py : Pos} {elt tg iter : Expr} {ifs : List Expr} {scope : Scope} {own : List (Str × Nat)} {pos spos : Pos} {tup : Bool} {is : List Nat} {g : TG} {ei : Ev (List D × Option Nat)} {ef ee ev' : Ev D}
    (hy : X.N[i]? = some y) (hyl : X.env.scope.names.lookup y = some .local) (hsw : swapsWith (.ListComp elt [⟨tg, iter, ifs, 0⟩] scope pos) (some (.Name y py)) spos.line X.env = pure true)
    (hi : IOk G X W tg iter ei) (ok : BlkOk X.N X.env.scope scope own) (his : ∀ i ∈ is, i ∈ own.map (·.2)) (hg : GW G g tup is)
    (pg : ∀ (s : Shared) (H : Hp) (C : Addr) (cl : List (Str × Addr)) (fp : List Addr), PG (X.blk s H scope (compEnvC scope cl C X.env) fp) tg g)
    (ht : ∀ (s : Shared) (H : Hp) (C : Addr) (cl : List (Str × Addr)) (fp : List Addr), PTs (X.blk s H scope (compEnvC scope cl C X.env) fp) ifs (rdB G WNo ef))
    (he : ∀ (s : Shared) (H : Hp) (C : Addr) (cl : List (Str × Addr)) (fp : List Addr), EOk G (X.blk s H scope (compEnvC scope cl C X.env) fp) WNo elt ee) (hs : ∀ x, foldedSetIterable iter X.env x = pure x)
    (tk : Takes2 (compEv (own.map (·.2)) tup is ei ef ee) ev') :
    SetOk G X W (.Assign [.Name y py] (.ListComp elt [⟨tg, iter, ifs, 0⟩] scope pos) spos) i ev' := by
  obtain ⟨wi, h1, h2⟩ := hi
  exact ⟨_, ps_setLc hc hN hy hyl hsw h1 ok pg ht he hs, fun σ H Q h => lc_reads h2 hg his (fun _ _ _ h => h) (fun _ _ _ h => h) σ H Q (tk G W σ H Q h)⟩
/-- (a, b) = e -/
theorem s_asgT {tg e : Expr} {is : List Nat} {tup : Bool} {g : TG} {ee : Ev D} {pos : Pos} (he : EOk G X W e ee) (pg : PG X tg g) (hg : GW G g tup is) (hs : swapsWithSole [tg] e pos.line X.env = pure false) (hw : swappedStores [tg] e X.env = pure none)
    (h1 : (assignEach [tg] X.env).map (·.2) = [assign tg X.env]) : SOk G X W (.Assign [tg] e pos) fun τ S => (ee τ S).bind fun d S => (RA.lift S (target τ tup is d)).bind fun τ S => .ok (.nx τ) S :=
  PS.weak (ps_asg he pg hs hw h1) fun En σ H ⟨m, S, τ, c, sr, l, p⟩ => ⟨m, S, τ, c, sr, PostS.bind p l fun v d S1 m1 H1 c1 st r p1 => by
    cases e : target τ tup is d with
    | none => rw [e] at p1; exact p1.elim
    | some τ2 =>
      rw [e] at p1
      exact hg m1 S1 H1 σ τ v d τ2 _ c1 (sr.step c st) r e fun σ2 s2 l2 _ => p1 σ2 m1 H1 (l2.trans l) c1 Stp.refl s2⟩
/-- a, b = x, y -/
theorem s_par {i j : Nat} {x y : Str} {a b : Expr} {es : Ev (List D)} {px py pt pos : Pos} {kt k2 pt2} (hc : X.calm = true) (hN : X.N.Nodup) (hi : X.N[i]? = some x) (hj : X.N[j]? = some y) (hij : i ≠ j)
    (hx : X.env.scope.names.lookup x = some .local) (hy : X.env.scope.names.lookup y = some .local) (ha : AOk G X W [a, b] es)
    (hw : swappedStores [.Tuple [.Name x px, .Name y py] kt pt] (.Tuple [a, b] k2 pt2) X.env = pure (some [x, y]))
    (hs : swapsWithSole [.Tuple [.Name x px, .Name y py] kt pt] (.Tuple [a, b] k2 pt2) pos.line X.env = pure false) :
    SOk G X W (.Assign [.Tuple [.Name x px, .Name y py] kt pt] (.Tuple [a, b] k2 pt2) pos) fun τ S => (es τ S).bind fun ds S => (RA.lift S (setAll τ [i, j] ds)).bind fun τ S => .ok (.nx τ) S :=
  PS.weak (ps_par hc hN hi hj hij hx hy ha hw hs) fun En σ H ⟨m, S, τ, c, sr, l, p⟩ => ⟨m, S, τ, c, sr, PostS.bind p l fun vs ds S1 m1 H1 c1 st r p1 => by
    match ds, r with
    | [], .nil => exact p1.elim
    | [d], .cons r1 .nil => exact p1.elim
    | [d, e], .cons (x := v) r1 (.cons (x := w) r2 .nil) => exact ⟨v, w, rfl, p1 _ m1 H1 (by rw [List.length_set, List.length_set]; exact l) c1 Stp.refl (((sr.step c st).set r1).set r2)⟩
    | d :: e :: f :: r, .cons r1 (.cons r2 (.cons r3 r4)) => exact p1.elim⟩
/-- a, b, c = x, y, z -/
theorem s_par3 {i j l : Nat} {x y z : Str} {a b d : Expr} {es : Ev (List D)} {px py pz pt pos : Pos} {kt k2 pt2} (hc : X.calm = true) (hN : X.N.Nodup) (hi : X.N[i]? = some x) (hj : X.N[j]? = some y) (hl : X.N[l]? = some z) (hij : i ≠ j) (hil : i ≠ l) (hjl : j ≠ l)
    (hx : X.env.scope.names.lookup x = some .local) (hy : X.env.scope.names.lookup y = some .local) (hz : X.env.scope.names.lookup z = some .local) (ha : AOk G X W [a, b, d] es)
    (hw : swappedStores [.Tuple [.Name x px, .Name y py, .Name z pz] kt pt] (.Tuple [a, b, d] k2 pt2) X.env = pure (some [x, y, z]))
    (hs : swapsWithSole [.Tuple [.Name x px, .Name y py, .Name z pz] kt pt] (.Tuple [a, b, d] k2 pt2) pos.line X.env = pure false) :
    SOk G X W (.Assign [.Tuple [.Name x px, .Name y py, .Name z pz] kt pt] (.Tuple [a, b, d] k2 pt2) pos) fun τ S => (es τ S).bind fun ds S => (RA.lift S (setAll τ [i, j, l] ds)).bind fun τ S => .ok (.nx τ) S :=
  PS.weak (ps_par3 hc hN hi hj hl hij hil hjl hx hy hz ha hw hs) fun En σ H ⟨m, S, τ, c, sr, ln, p⟩ => ⟨m, S, τ, c, sr, PostS.bind p ln fun vs ds S1 m1 H1 c1 st r p1 => by
    match ds, r with
    | [], .nil => exact p1.elim
    | [_], .cons _ .nil => exact p1.elim
    | [_, _], .cons _ (.cons _ .nil) => exact p1.elim
    | [d, e, f], .cons (x := v) r1 (.cons (x := w) r2 (.cons (x := u) r3 .nil)) => exact ⟨v, w, u, rfl, p1 _ m1 H1 (by rw [List.length_set, List.length_set, List.length_set]; exact ln) c1 Stp.refl ((((sr.step c st).set r1).set r2).set r3)⟩
    | d :: e :: f :: g :: r, .cons _ (.cons _ (.cons _ (.cons _ _))) => exact p1.elim⟩
/-- o[i] = e -/
theorem s_seti {o i e : Expr} {eo ei ee : Ev D} {tpos pos : Pos} (he : EOk G X W e ee) (ho : EOk G X W o eo) (hi : EOk G X W i ei) (hs : swapsWithSole [.Subscript o i tpos] e pos.line X.env = pure false) (hw : swappedStores [.Subscript o i tpos] e X.env = pure none)
    (h1 : (assignEach [.Subscript o i tpos] X.env).map (·.2) = [assign (.Subscript o i tpos) X.env]) (ha : ∀ v, assign (.Subscript o i tpos) X.env v = (do
      let ov ← holding [v] (eval o X.env)
      let iv ← holding [v, ov] (eval i X.env)
      standAt tpos
      holding [v, ov, iv] (setItem ov iv v)
      release [v, ov, iv] [])) :
    SOk G X W (.Assign [.Subscript o i tpos] e pos) fun τ S => (ee τ S).bind fun v S => (eo τ S).bind fun x S => (ei τ S).bind fun y S => match x, y with
      | .ref n, .int k => match S[n]? with
        | some (.lst ds) => match natIx ds.length k with
          | some j => .ok (.nx τ) (S.set n (.lst (ds.set j v)))
          | none => .bad
        | none => .bad
      | _, _ => .bad :=
  PS.weak (ps_asg he (pg_sub ho hi set_list ha) hs hw h1) fun En σ H ⟨m, S, τ, c, sr, l, p⟩ => ⟨m, S, τ, c, sr, PostS.bind p l fun v d S1 m1 H1 c1 st1 r p1 =>
    ⟨m1, S1, τ, c1, sr.step c st1, PostS.bind p1 l fun vo d2 S2 m2 H2 c2 st2 r2 p2 => ⟨m2, S2, τ, c2, (sr.step c st1).step c1 st2, PostS.bind p2 l fun vi d3 S3 m3 H3 c3 st3 r3 p3 => by
      cases d2 with
      | ref n =>
        cases r3 with
        | int k =>
          obtain ⟨a, xs, ds, rfl, h1', h2', h3', h4'⟩ := VR.isL c3 (r2.step c2 st3)
          simp only [h2'] at p3
          cases e2 : natIx ds.length k with
          | none => simp only [e2] at p3; exact p3.elim
          | some j =>
            simp only [e2] at p3
            have rv := (r.step c1 st2).step c2 st3
            obtain ⟨c4, st4⟩ := c3.write h1' h2' h3' (h4'.set rv j)
            exact ⟨a, xs, k, j, rfl, rfl, h3', by rw [h4'.length, ← natIx_eq]; exact e2, p3 σ m3 _ l c4 st4 ((((sr.step c st1).step c1 st2).step c2 st3).step c3 st4)⟩
        | _ => exact p3.elim
      | _ => exact p3.elim⟩⟩⟩
theorem s_exp {e : Expr} {ee : Ev D} {pos : Pos} (he : EOk G X W e ee) (hs : swapsWith e none pos.line X.env = pure false) : SOk G X W (.Expr e pos) fun τ S => (ee τ S).bind fun _ S => .ok (.nx τ) S :=
  PS.weak (ps_expr he hs) fun En σ H ⟨m, S, τ, c, sr, l, p⟩ => ⟨m, S, τ, c, sr, PostS.bind p l fun v d S1 m1 H1 c1 st r p1 => p1 σ m1 H1 l c1 Stp.refl (sr.step c st)⟩
theorem s_ret {e : Expr} {ee : Ev D} {pos : Pos} (he : EOk G X W e ee) : SOk G X W (.Return (some e) pos) fun τ S => (ee τ S).bind fun d S => .ok (.ret d) S :=
  PS.weak (ps_ret he) fun En σ H ⟨m, S, τ, c, sr, l, p⟩ => ⟨m, S, τ, c, sr, PostS.bind p l fun v d S1 m1 H1 c1 st r p1 => p1 v m1 H1 c1 Stp.refl r⟩
theorem s_retN {pos : Pos} : SOk G X W (.Return none pos) fun τ S => .ok (.ret .non) S :=
  PS.weak ps_retN fun En σ H ⟨m, S, τ, c, sr, l, p⟩ => p .non m H c Stp.refl .non
theorem s_pass {pos : Pos} : SOk G X W (.Pass pos) fun τ S => .ok (.nx τ) S :=
  PS.weak ps_pass fun En σ H ⟨m, S, τ, c, sr, l, p⟩ => p σ m H l c Stp.refl sr
theorem s_if {c : Expr} {a b : List Stmt} {ec : Ev D} {ea eb : Ev Out} {pos : Pos} (hc : TOk G X W c ec) (ha : SsOk G X W a ea) (hb : SsOk G X W b eb) :
    SOk G X W (.If c a b pos) fun τ S => (ec τ S).bind fun x S => (RA.lift S (truth S x)).bind fun k S => if k then ea τ S else eb τ S :=
  PS.weak (ps_if hc ha hb) fun En σ H ⟨m, S, τ, c, sr, l, p⟩ => ⟨m, S, τ, c, sr, PostS.bind (by rw [bind_assoc]; exact p) l fun k d S1 m1 H1 c1 st e p1 => by
    subst e
    cases k with
    | true => rw [if_pos rfl] at p1 ⊢; exact ⟨m1, S1, τ, c1, sr.step c st, l, p1⟩
    | false => rw [if_neg (by decide)] at p1 ⊢; exact ⟨m1, S1, τ, c1, sr.step c st, l, p1⟩⟩
theorem ss_nil : SsOk G X W [] fun τ S => .ok (.nx τ) S := PSs.weak pss_nil fun En σ H ⟨m, S, τ, c, sr, l, p⟩ => p σ m H l c Stp.refl sr
theorem ss_cons {s : Stmt} {r : List Stmt} {es : Ev Out} {er : Ev Out} (hs : SOk G X W s es) (hr : SsOk G X W r er) : SsOk G X W (s :: r) fun τ S => thenS (es τ S) er :=
  PSs.weak (pss_cons hs hr) fun En σ H ⟨m, S, τ, c, sr, l, p⟩ => ⟨m, S, τ, c, sr, l, PostS.seq p rfl fun σ' τ' S' m' H' l' c' st' sr' p' => ⟨m', S', τ', c', sr', l', p'⟩⟩
/-! ### loops -/
def forEv (tup : Bool) (is : List Nat) (ei : Ev (List D × Option Nat)) (eb : Ev Out) : Ev Out := fun τ S => (ei τ S).bind fun it S =>
  forL (fun d τ S => match target τ tup is d with
    | none => .bad
    | some τ2 => eb τ2 S) (fun S => still S it) it.1 τ S
theorem s_for (hp : PassesOwn (model X.prog X.w) X.A X.env X.xe) (hc : X.calm = true) {tg iter : Expr} {body : List Stmt} {g : TG} {tup : Bool} {is : List Nat} {ei : Ev (List D × Option Nat)} {eb : Ev Out} {pos : Pos}
    (hi : IOk G X W tg iter ei) (pg : PG X tg g) (hg : GW G g tup is) (hb : SsOk G X W body eb) (hs : ∀ x, foldedSetIterable iter X.env x = pure x) :
    SOk G X W (.For tg iter body [] pos) (forEv tup is ei eb) := by
  obtain ⟨wi, h1, h2⟩ := hi
  refine PS.weak (ps_for hp hc h1 pg hb hs) fun En σ H ⟨m, S, τ, c, sr, l, p⟩ => h2 σ H _ ⟨m, S, τ, c, sr, PostS.bind p l fun J it S1 m1 H1 c1 st1 Y p1 => ?_⟩
  have sr1 := sr.step c st1
  refine ⟨fun i n σ2 H2 => ∃ m2 S2 τ2, n = it.1.length - i ∧ i ≤ it.1.length ∧ σ2.length = X.N.length ∧ Cf G m2 S2 H2 ∧ Stp m1 H1 m2 H2 ∧ SR G m2 H2 σ2 τ2 ∧
    PostS G m2 H2 X.N.length (forL (fun d τ S => match target τ tup is d with
      | none => .bad
      | some τ2 => eb τ2 S) (fun S => still S it) (it.1.drop i) τ2 S2) En W, ⟨_, m1, S1, τ, rfl, Nat.zero_le _, l, c1, Stp.refl, sr1, p1⟩, ?_⟩
  rintro i n σ2 H2 ⟨m2, S2, τ2, hn, hi, l2, c2, st2, sr2, p2⟩
  have hst : still S2 it = true := by
    cases e : it.1.drop i with
    | nil =>
      rw [e] at p2
      unfold forL at p2
      by_cases h : still S2 it = true
      · exact h
      · simp only [h] at p2; exact p2.elim
    | cons d r =>
      rw [e] at p2
      unfold forL at p2
      by_cases h : still S2 it = true
      · exact h
      · simp only [h] at p2; exact p2.elim
  have t2 := Tr.of_stp c1 st2
  by_cases hlt : i < it.1.length
  case neg =>
    have ei : i = it.1.length := by omega
    refine .inl ⟨?_, ?_⟩
    · rw [ei]; exact Y.stop _ S2 H2 c2 t2 hst
    · rw [ei, List.drop_length] at p2
      unfold forL at p2
      rw [if_pos hst] at p2
      exact p2 σ2 m2 H2 l2 c2 Stp.refl sr2
  refine .inr ⟨Y.go _ S2 H2 i c2 t2 hst hlt, _, fun σ' H' h => h, fun x H3 hy => ?_⟩
  obtain ⟨d, hd, c3, st3, r3, k3⟩ := Y.yld _ S2 H2 i x H3 c2 t2 hst hlt hy
  have hdr : it.1.drop i = d :: it.1.drop (i + 1) := by
    obtain ⟨h, e⟩ := List.getElem?_eq_some_iff.mp hd
    rw [List.drop_eq_getElem_cons h, e]
  rw [hdr] at p2
  unfold forL at p2
  rw [if_pos hst] at p2
  cases e4 : target τ2 tup is d with
  | none => simp only [e4] at p2; exact p2.elim
  | some τ3 =>
    simp only [e4] at p2
    refine hg m2 S2 H3 σ2 τ2 x d τ3 _ c3 (sr2.step c2 st3) r3 e4 fun σ3 sr3 l3 o3 => ⟨m2, S2, τ3, c3, sr3, l3.trans l2, ?_⟩
    have s3 := st2.trans st3
    refine PostS.seq (PostS.later st3 p2) rfl fun σ' τ' S' m' H' l' c' st' sr' p' => ?_
    exact ⟨it.1.length - (i + 1), by omega, m', S', τ', rfl, hlt, l', c', s3.trans st', sr', p'⟩
def whileEv (turns : Nat) (ec : Ev D) (eb : Ev Out) : Ev Out := fun τ S =>
  whileL (fun τ S => (ec τ S).bind fun x S => (RA.lift S (truth S x)).bind fun k S => if k then (eb τ S).bind fun o S => .ok (some o) S else .ok none S) turns τ S
theorem s_while (hp : PassesOwn (model X.prog X.w) X.A X.env X.xe) {c : Expr} {body : List Stmt} {ec : Ev D} {eb : Ev Out} {pos : Pos} {turns : Nat} (hc : TOk G X W c ec) (hb : SsOk G X W body eb) :
    SOk G X W (.While c body [] pos) (whileEv turns ec eb) := by
  refine PS.weak (ps_while hp hc hb) fun En σ H ⟨m, S, τ, c, sr, l, p⟩ => ?_
  refine ⟨fun n σ2 H2 => ∃ m2 S2 τ2, σ2.length = X.N.length ∧ Cf G m2 S2 H2 ∧ SR G m2 H2 σ2 τ2 ∧ PostS G m2 H2 X.N.length (whileEv n ec eb τ2 S2) En W, ⟨turns, m, S, τ, l, c, sr, p⟩, ?_⟩
  rintro n σ2 H2 ⟨m2, S2, τ2, l2, c2, sr2, p2⟩
  cases n with
  | zero => exact p2.elim
  | succ k =>
    unfold whileEv whileL at p2
    simp only [bind_assoc] at p2
    refine ⟨m2, S2, τ2, c2, sr2, PostS.bind (R := fun _ _ b k => b = k) (by
      rw [bind_assoc]
      exact p2) l2 fun b d S3 m3 H3 c3 st3 e p3 => ?_⟩
    subst e
    cases b with
    | false =>
      rw [if_neg (by decide), r_ok] at p3
      rw [if_neg (by decide)]
      exact p3 σ2 m3 H3 l2 c3 Stp.refl (sr2.step c2 st3)
    | true =>
      rw [if_pos rfl] at p3 ⊢
      refine ⟨_, fun σ' H' h => h, m3, S3, τ2, c3, sr2.step c2 st3, l2, ?_⟩
      rw [bind_assoc] at p3
      simp only [r_ok] at p3
      have p4 : PostS G m3 H3 X.N.length (thenS (eb τ2 S3) fun τ S => whileEv k ec eb τ S) En W := by
        unfold thenS
        cases e : eb τ2 S3 with
        | bad => rw [e] at p3; exact p3
        | exc x S' => rw [e] at p3; exact p3
        | ok o S' =>
          rw [e] at p3
          cases o <;> exact p3
      refine PostS.seq p4 rfl fun σ' τ' S' m' H' l' c' st' sr' p' => ?_
      exact ⟨k, Nat.lt_succ_self k, m', S', τ', l', c', sr', p'⟩
end
end RA

set_option Elab.async false
set_option linter.all false
set_option maxRecDepth 100000
set_option maxHeartbeats 4000000
set_option autoImplicit false
/-! B9k: sorted(x, key=f) as an expression. -/
namespace RA
open PySem PySem.Spec PyProof.Rows L2
section
variable {G : Gd} {X : Cx} {W : WX}
theorem VR.sqLR {m : Mm} {S : Store} {H : Hp} {v : V} {d : D} {ds : List D} (c : Cf G m S H) (r : VR G m H v d) (e : asLR S d = some ds) : ∃ a xs, v = .ref a ∧ SqL G.K H a xs ∧ VRs G m H xs ds := by
  by_cases hro : ∃ es, d = .ro es
  · obtain ⟨es, rfl⟩ := hro
    obtain ⟨a, xs, e1, e2, e3⟩ := VR.seq c r (show asQ S (.ro es) = some ds from e)
    cases r with
    | ro h q =>
      cases e1
      refine ⟨_, _, rfl, ?_, by cases e; exact q⟩
      rcases h with ⟨h, _⟩ | h
      · exact .inl h
      · exact .inr h
  · have e' : asL S d = some ds := by
      cases d <;> first | exact e | exact absurd ⟨_, rfl⟩ hro
    obtain ⟨a, xs, e1, e2, e3⟩ := VR.lst c r e'
    exact ⟨a, xs, e1, .of e2, e3⟩
theorem f_sortk (hK : X.K = G.K) {k : Nat} {f : Addr} {ev : List D → Store → Res D} {e : Expr} {ee : Ev D} {y : Str} {p py kp pos : Pos} (F : Prom X.prog X.w X.K X.mg X.base k f (spI G ev)) (hr : RoomG (k + 1) X.A) (hg : Gl X "sorted") (hm : X.mg "sorted" = none) (he : EOk G X W e ee)
    (hgy : Gl X y) (hmy : X.mg y = some (.ref f)) (hdy : (y == ("__debug__" : Str)) = false) (hs : starEach [e] X.env = [(false, eval e X.env)]) :
    FOk G X W (.Call (.Name "sorted" p) [e] [⟨some "key", .Name y py, kp⟩] pos) fun τ S => (ee τ S).bind fun x S => match asLR S x with
      | none => .bad
      | some ds => (keysL (fun d S => ev [d] S) ds S).bind fun ks S => lift S ((sortBy ds ks).map .vl) := by
  have hb : bootBuiltins "sorted" = some (.builtin "sorted") := by decide +kernel
  have hc : CallRK X (.builtin "sorted") [Str.ofString "key"] (fun vs zs H Q => ∃ (m : Mm) (S : Store) (l : Addr) (xs : List V) (ds : List D) (E : Value → Option Addr → Hp → Prop), vs = [.ref l] ∧ zs = [.ref f] ∧ Cf G m S H ∧ SqL X.K H l xs ∧ VRs G m H xs ds ∧
      PostF G m H ((keysL (fun d S => ev [d] S) ds S).bind fun ks S => lift S ((sortBy ds ks).map .vl)) Q E) := by
    rintro pins s σ H xs zs us ws Q I rv rz ⟨m, S, l, ys, ds, E, rfl, rfl, c, q, rs, p⟩
    match us, ws, rv, rz with
    | [_], [_], .cons r1 .nil, .cons r2 .nil =>
      cases r1
      cases r2
      exact sortk_run hK F hr I c q rs p
  have a1 := pa_cons he pa_nil hs
  refine PE.weak (pe_callBK hc hg hm hb a1 (pk_cons (pe_glob (v := .ref f) hgy hmy rfl hdy) pk_nil) (by decide) (by decide) (by rw [hs]; rfl) (by rw [hs]; rfl) rfl rfl rfl) fun σ H Q ⟨m, S, τ, c, sr, pp⟩ => ⟨m, S, τ, c, sr, ?_⟩
  dsimp only at pp
  cases e1 : ee τ S with
  | bad => rw [e1] at pp; exact pp.elim
  | exc x S' => rw [e1] at pp; exact pp
  | ok d S' =>
    rw [e1, r_ok] at pp
    intro v m1 H1 c1 st r1
    cases e2 : asLR S' d with
    | none => simp only [e2] at pp; exact pp.elim
    | some ds =>
      simp only [e2] at pp
      obtain ⟨a, xs, rfl, q, rs⟩ := VR.sqLR c1 r1 e2
      exact ⟨m1, S', a, xs, ds, _, rfl, rfl, c1, hK ▸ q, rs, PostF.later st pp⟩
end
end RA

set_option Elab.async false
set_option linter.all false
set_option maxRecDepth 100000
set_option maxHeartbeats 4000000
set_option autoImplicit false
/-! B9s: a starred item in a tuple. -/
namespace RA
open PySem PySem.Spec PyProof.Rows L2
section
variable {G : Gd} {X : Cx} {W : WX}
/-- the items of what gives a tuple -/
def itemsEv (ev : Ev D) : Ev (List D) := fun τ S => (ev τ S).bind fun d S => match d with
  | .tup ds => .ok ds S
  | _ => .bad
/-- *e, .. -/
theorem a_star (hK : X.K = G.K) {e : Expr} {es : List Expr} {ee : Ev D} {ees : Ev (List D)} {p : Pos} (he : EOk G X W e ee) (hes : AOk G X W es ees) :
    AOk G X W (.Starred e p :: es) fun τ S => (ee τ S).bind fun d S => (lift S (asQ S d)).bind fun xs S => (ees τ S).bind fun ds S => .ok (xs ++ ds) S :=
  PA.weak (StX.pa_star he hes) fun σ H Q ⟨m, S, τ, c, sr, p⟩ => rdE.seq c sr p fun v d S1 m1 H1 c1 st r p1 => by
    cases q : asQ S1 d with
    | none => rw [q] at p1; exact p1.elim
    | some xs =>
      rw [q] at p1
      obtain ⟨a, vs, e1, e2, e3⟩ := VR.seq c1 r q
      refine ⟨a, vs, e1, by rw [hK]; exact e2.symm, rdA.seq c1 (sr.step c st) p1 fun ws ds S2 m2 H2 c2 st2 rs p2 => ?_⟩
      exact p2 _ m2 H2 c2 Stp.refl ((e3.step c1 st2).append rs)
theorem AOk.congr {es : List Expr} {ev ev' : Ev (List D)} (h : AOk G X W es ev) (q : ∀ τ S, ev' τ S = ev τ S) : AOk G X W es ev' := by
  have e : ev' = ev := funext fun τ => funext fun S => q τ S
  rw [e]; exact h
/-- a tuple whose length is known to be small -/
theorem e_tupL {es : List Expr} {ees : Ev (List D)} {x1 : Nat} {pos : Pos} (hes : AOk G X W es ees) (hlen : ∀ τ S ds S', ees τ S = .ok ds S' → ds.length ≤ LINE) : EOk G X W (.Tuple es x1 pos) fun τ S => (ees τ S).bind fun ds S => .ok (.tup ds) S :=
  PE.weak (pe_tup hes) fun σ H Q ⟨m, S, τ, c, sr, p⟩ => by
    dsimp only at p
    refine ⟨m, S, τ, c, sr, ?_⟩
    cases e : ees τ S with
    | bad => rw [e] at p; exact p.elim
    | exc x S' => rw [e] at p; exact p
    | ok ds S' =>
      rw [e] at p
      intro vs m1 H1 c1 st rs
      refine ⟨by rw [rs.length, ← line_eq]; exact hlen τ S ds S' e, fun q hq => ?_⟩
      obtain ⟨c', st', r'⟩ := VR.newT c1 hq rs
      exact p _ _ _ c' (st.trans st') r'
end
end RA

set_option Elab.async false
set_option linter.all false
set_option maxRecDepth 100000
set_option maxHeartbeats 4000000
set_option autoImplicit false
/-! BX1: an own exception whose __init__ hands a text to its base's and keeps what it was given. -/
namespace RA
open PySem PySem.Spec PyProof.Rows PySem.W PySem.Calls Builtin Builtin.ObjectAttr
section
variable {prog : Program} {w : World} {K : Frag} {mg : Str → Option Value} {base : Heap}
/-- self.fld = v, the object has no dict yet -/
theorem osa_any {A : Around} {R : Result → Shared → Prop} {hp : Heap} {g : Array GenState} {d : Drawn} {t : Nat} {os : OsState} {B : String} {bmB : List Value} {name : Str} {tk : Tok} {v : Value} {x C : Addr} {fv : Array Value} {cd : ClassData} (SF : StoreFacts B bmB "object.__setattr__" "object")
    (X : K.In hp) (hx : hp.get? x = some { cls := .ref C, data := .fields fv }) (hcd : clsIn K C = some cd) (hov : excOver K C bmB = true) (hh : cd.hasDict = true) (ht : takerIn K C name = some none)
    (hq : ∀ h' tk' dx, (∀ b o, b ≠ x → hp.get? b = some o → h'.get? b = some o) → hp.objs.size ≤ dx → dx ≠ x → h'.get? x = some { cls := .ref C, dict := some dx, data := .fields fv } →
      h'.Ns1 dx (fun y => if y = name then some v else none) → R (.ok (.ret .none)) ⟨h', g, d, tk', os⟩) :
    codeAny (model prog w) A (.call (.builtin "object.__setattr__") ⟨[.ref x, .str name tk, v], []⟩) R ⟨hp, g, d, t, os⟩ := by
  have I : InstAt hp x { cls := .ref C, data := .fields fv } C none := ⟨hx, rfl, rfl, trivial⟩
  have apart : x ≠ hp.objs.size := Nat.ne_of_lt (Heap.lt_size hx)
  have kd : Looks (model prog w) hp (classData C) cd := looks_clsIn X hcd
  refine osa_openX (s := ⟨hp, g, d, t, os⟩) SF X I hov ht fun b => ?_
  dsimp only
  obtain ⟨a1, a2, a3, a4, a5, hd, a6, a7, a8, a9, a10⟩ := cd
  dsimp only at hh
  subst hh
  unfold storeInOwnDict ownDictForStores
  repeat (first | with_reducible refine PySem.HandSPX.store_in_new ?_ ?_ | with_reducible refine wpAny_loadPart_at hx ?_ | with_reducible refine kd.at ?_ | wp_step)
  · exact ⟨_, #[], _, (Heap.get?_update_ne _ _ _ _ apart.symm).trans (Heap.get?_push_at rfl rfl), rfl, fun e he => absurd he (by simp), fun _ => rfl⟩
  · intro h' tk' hn' sb
    have up : (hp.push { cls := .type "dict", data := .dict #[] }).get? x = some { cls := .ref C, data := .fields fv } := Heap.get?_push_of_some _ hx
    exact hq h' tk' hp.objs.size (fun b o hb ho => (sb.2 b (Nat.ne_of_lt (Heap.lt_size ho))).trans ((Heap.get?_update_ne _ _ _ _ hb).trans (Heap.get?_push_of_some _ ho))) (Nat.le_refl _) apart.symm
      ((sb.2 x apart).trans (Heap.get?_update_self _ up rfl)) hn'
/-- the function __init__ of such a class -/
abbrev iniF (nm q me x fld : Str) (jv : List Expr) (pj : Pos) (scope : Scope) (dV kV doc pm : Value) (an : Option Addr) (params : Arguments) (cda : Addr) (ct : Value) (cc : Addr) (p0 p1 p2 p3 p4 p5 p6 p7 p8 : Pos) : FuncData :=
  ksFn nm q params [.Expr (.Call (.Attribute (.Call (.Name "super" p0) [] [] p1) "__init__" p2) [.JoinedStr jv pj] [] p3) p4, .Assign [.Attribute (.Name me p5) fld p6] (.Name x p7) p8] scope dV kV doc pm an (.ref cda) ct cc
theorem init_run {A : Around} {R : Result → Shared → Prop} {hp : Heap} {g : Array GenState} {d : Drawn} {tk : Nat} {os : OsState} {C fI cc cda : Addr} {B i newId : String} {bmB : List Value} {v : Value}
    {nm q me x fld : Str} {jv : List Expr} {pj : Pos} {scope : Scope} {dV kV doc pm oc ccl cl ct : Value} {an od cdd cld : Option Addr} {osl ccs csl : Array (Option Value)} {params : Arguments} {p0 p1 p2 p3 p4 p5 p6 p7 p8 : Pos} {ar : Arg} {vs : Array Value} {file : Str} {tf : Tok} {cdD : ClassData} {es' : List DictEntry} {n' : Nat}
    (mod : L2.Mod K mg base) (hb : ∀ b o, base.get? b = some o → hp.get? b = some o) (FB : ExcBaseFacts B newId i bmB) (KF : KxsFacts B i) (SF : StoreFacts B bmB "object.__setattr__" "object")
    (lk : K.lookup fI = some ⟨oc, od, .func (iniF nm q me x fld jv pj scope dV kV doc pm an params cda ct cc p0 p1 p2 p3 p4 p5 p6 p7 p8), osl⟩) (hcd : codeIn K (.ref cda) q = true) (qC : excInitIn K C bmB newId = true)
    (hp1 : (params.posonlyargs ++ params.args).head? = some ar) (har : ar.arg = me) (hcode : K.lookup cda = some ⟨ccl, cdd, .fields vs, ccs⟩) (hvs : vs[2]? = some (.str file tf)) (hfile : ((prog.main.file : Str) == file) = true)
    (hcell : K.lookup cc = some ⟨cl, cld, .cell (some (.ref C)), csl⟩) (hD : clsIn K C = some cdD) (hsub : mroIn K C (.ref C) = some true) (hsuper : mg "super" = none)
    (hks : scope.names.lookup ("super" : Str) = some .globalImplicit) (hkc : scope.names.lookup ("__class__" : Str) = some .free) (hkm : scope.names.lookup me = some .local) (hkx : scope.names.lookup x = some .local) (hxm : (x == me) = false) (hk : scope.kind = .function)
    (htop : (prog.main.scope.names.lookup ("super" : Str)).isSome = false) (hboot : bootBuiltins "super" = some (.type "super")) (ho : nsIn K cStatics "thirdparty.any" = some none) (hm : ks_superIn K C C "__init__" = some (some (.builtin i))) (hB : subIn K (.ref C) (.type B) = some true)
    (hs : findIn K (.ref C) "__setattr__" = some (some (.builtin "object.__setattr__"))) (hov : excOver K C bmB = true) (ht : takerIn K C fld = some none) (hh : hasDictIn K C = true)
    (hnc : ∀ y ∈ scope.names, y.2 ≠ .cell) (hco : scope.isCoroutine = false) (hgen : scope.isGenerator = false)
    (hbind : ∀ a b : Value, bindArgs (iniF nm q me x fld jv pj scope dV kV doc pm an params cda ct cc p0 p1 p2 p3 p4 p5 p6 p7 p8) ⟨[a, b], []⟩ = pure [(me, a), (x, b)])
    {pl : Addr → Sem Bool} (he : ∀ L, PySem.eval (.Call (.Attribute (.Call (.Name "super" p0) [] [] p1) "__init__" p2) [.JoinedStr jv pj] [] p3) (callEnv (iniF nm q me x fld jv pj scope dV kV doc pm an params cda ct cc p0 p1 p2 p3 p4 p5 p6 p7 p8) L fI) = (do
      let ov ← attributeBase (.Call (.Name "super" p0) [] [] p1) "__init__" (callEnv (iniF nm q me x fld jv pj scope dV kV doc pm an params cda ct cc p0 p1 p2 p3 p4 p5 p6 p7 p8) L fI) (PySem.eval (.Call (.Name "super" p0) [] [] p1) (callEnv (iniF nm q me x fld jv pj scope dV kV doc pm an params cda ct cc p0 p1 p2 p3 p4 p5 p6 p7 p8) L fI))
      standAt p2.atName
      let (f, first) ← holding [ov] (getMethod ov "__init__" (pl L))
      callWith p3 f first (backTo p3 (starEach [.JoinedStr jv pj] (callEnv (iniF nm q me x fld jv pj scope dV kV doc pm an params cda ct cc p0 p1 p2 p3 p4 p5 p6 p7 p8) L fI))) []))
    (hi : ∀ L, interactive (callEnv (iniF nm q me x fld jv pj scope dV kV doc pm an params cda ct cc p0 p1 p2 p3 p4 p5 p6 p7 p8) L fI) = false) (hsw : ∀ L, swapsWith (.Call (.Attribute (.Call (.Name "super" p0) [] [] p1) "__init__" p2) [.JoinedStr jv pj] [] p3) none p4.line (callEnv (iniF nm q me x fld jv pj scope dV kV doc pm an params cda ct cc p0 p1 p2 p3 p4 p5 p6 p7 p8) L fI) = pure false) (hsw2 : ∀ L, swapsWith (.Name x p7) (some (.Attribute (.Name me p5) fld p6)) p8.line (callEnv (iniF nm q me x fld jv pj scope dV kV doc pm an params cda ct cc p0 p1 p2 p3 p4 p5 p6 p7 p8) L fI) = pure false)
    (hse : ∀ L, starEach [.JoinedStr jv pj] (callEnv (iniF nm q me x fld jv pj scope dV kV doc pm an params cda ct cc p0 p1 p2 p3 p4 p5 p6 p7 p8) L fI) = [(false, PySem.eval (.JoinedStr jv pj) (callEnv (iniF nm q me x fld jv pj scope dV kV doc pm an params cda ct cc p0 p1 p2 p3 p4 p5 p6 p7 p8) L fI))])
    (hroom : A.depth < recursionLimit) (hd1 : (me == ("__debug__" : Str)) = false) (hd2 : (x == ("__debug__" : Str)) = false)
    (hj : ∀ (L : Addr) (h' : Heap) (tk' : Nat) (E : Value → Shared → Prop) (Q : Value → Shared → Prop), h'.Ns L (fun y => [(me, Value.ref (hp.objs.size + 1)), (x, v)].reverse.lookup y) → (∀ b o, hp.get? b = some o → h'.get? b = some o) →
      (∀ y u h'' tk'', (∀ b o, h'.get? b = some o → h''.get? b = some o) → Q (.str y u) ⟨h'', g, d, tk'', os⟩) → wpAny (model prog w) (A.deeper (callEnv (iniF nm q me x fld jv pj scope dV kV doc pm an params cda ct cc p0 p1 p2 p3 p4 p5 p6 p7 p8) L fI)) (PySem.eval (.JoinedStr jv pj) (callEnv (iniF nm q me x fld jv pj scope dV kV doc pm an params cda ct cc p0 p1 p2 p3 p4 p5 p6 p7 p8) L fI)) Q E ⟨h', g, d, tk', os⟩)
    (hq : ∀ (h' : Heap) (tk' : Nat) (dx t1 : Addr), (∀ b o, hp.get? b = some o → h'.get? b = some o) → hp.objs.size ≤ dx → dx ≠ hp.objs.size + 1 → h'.get? (hp.objs.size + 1) = some (excObj C t1 (some dx) .none) → h'.Ns1 dx (fun y => if y = fld then some v else none) → R (.ok (.ret .none)) ⟨h', g, d, tk', os⟩) :
    codeAny (model prog w) A (.call (.ref fI) ⟨[.ref (hp.objs.size + 1), v], []⟩) R ⟨(hp.push (kdv_tup [v])).push (PySem.HandSPX.excO C hp.objs.size), g, d, tk, os⟩ := by
  have kp : ∀ b o, hp.get? b = some o → ((hp.push (kdv_tup [v])).push (PySem.HandSPX.excO C hp.objs.size)).get? b = some o := fun b o e => Heap.get?_push_of_some _ (Heap.get?_push_of_some _ e)
  have X0 : K.In hp := mod.kin.keeps hb
  have X1 := X0.keeps kp
  refine ks_codeAny_call_defAt (s := ⟨_, g, d, tk, os⟩) hroom (X1 _ _ lk) rfl (mod.nolimit.keeps fun b o e => kp b o (hb b o e)) (codeRec_of X1 hcd) rfl (BindsTo.of_eq (hbind _ _)) hnc (fun y hy => ?_) (fun h₁ hns hk₁ => ?_) hco hgen hk
  · simp only [List.mem_cons, List.not_mem_nil, or_false] at hy
    rcases hy with rfl | rfl
    · exact hkm
    · exact hkx
  have sz : ((hp.push (kdv_tup [v])).push (PySem.HandSPX.excO C hp.objs.size)).objs.size = hp.objs.size + 2 := by simp [Heap.push]
  have F1 : PyProof.Rows.Fr hp (hp.objs.size + 2) h₁ (fun y => [(me, Value.ref (hp.objs.size + 1)), (x, v)].reverse.lookup y) := ⟨by rw [← sz]; exact hns, fun b o e => hk₁ b o (kp b o e), by omega⟩
  have N1 : News hp (hp.objs.size + 2) h₁ [(hp.objs.size + 1, excObj C hp.objs.size none .none), (hp.objs.size, excTup [v])] := fun p hp' => by
    simp only [List.mem_cons, List.not_mem_nil, or_false] at hp'
    rcases hp' with rfl | rfl
    · refine ⟨hk₁ _ _ (by heap_get), (show (hp.objs.size + 1 : Nat) ≠ hp.objs.size + 2 by omega), ?_⟩
      show hp.get? (hp.objs.size + 1) = none
      cases e : hp.get? (hp.objs.size + 1) with
      | none => rfl
      | some o => exact absurd (show (_ : Nat) < hp.objs.size from Heap.lt_size e) (by omega)
    · refine ⟨hk₁ _ _ (by heap_get), (show (hp.objs.size : Nat) ≠ hp.objs.size + 2 by omega), ?_⟩
      show hp.get? hp.objs.size = none
      cases e : hp.get? hp.objs.size with
      | none => rfl
      | some o => exact absurd (show (_ : Nat) < hp.objs.size from Heap.lt_size e) (by omega)
  rw [show (⟨(hp.push (kdv_tup [v])).push (PySem.HandSPX.excO C hp.objs.size), g, d, tk, os⟩ : Shared).heap.objs.size = hp.objs.size + 2 from sz]
  generalize hL : hp.objs.size + 2 = L at F1 N1
  have mv : ([(me, Value.ref (hp.objs.size + 1)), (x, v)] : List (Str × Value)).reverse.lookup me = some (.ref (hp.objs.size + 1)) := by
    show List.lookup me [(x, v), (me, _)] = _
    have : (me == x) = false := by rw [← hxm]; exact Bool.beq_comm ..
    simp [List.lookup, this]
  have xv : ([(me, Value.ref (hp.objs.size + 1)), (x, v)] : List (Str × Value)).reverse.lookup x = some v := by
    show List.lookup x [(x, v), (me, _)] = _
    simp [List.lookup]
  refine ks_wpAt_execs_cons (ks_wpAt_Expr_any (ks_wpAt_MethodCall (pl := pl L) ?_ (he L)) (hi L) (hsw L))
  have X2 : K.In h₁ := X0.keeps F1.keep
  -- super()
  refine ks_wpAt_super_base (env := callEnv (iniF nm q me x fld jv pj scope dV kV doc pm an params cda ct cc p0 p1 p2 p3 p4 p5 p6 p7 p8) L fI) hks hkc (by decide) rfl (X2 _ _ lk) rfl hp1 rfl (X2 _ _ hcode) rfl hvs hfile htop ?_
  obtain ⟨mb, b1, b2⟩ := mod.blt
  have bk : ∀ b o, base.get? b = some o → h₁.get? b = some o := fun b o e => F1.keep b o (hb b o e)
  obtain ⟨oD, hD1, hD2⟩ : ∃ oD, h₁.get? C = some oD ∧ oD.data = .cls cdD := by
    unfold clsIn at hD
    split at hD
    · rename_i ho
      cases hD
      exact ⟨_, X2 _ _ ho, rfl⟩
    · cases hD
  have Ie : InstAt h₁ (hp.objs.size + 1) (excObj C hp.objs.size none .none) C none := ⟨(N1 _ List.mem_cons_self).1, rfl, rfl, trivial⟩
  refine ks_loadName_global hk hks (Calls.loadGlobal_builtin (mg := mg) (mb := mb) (mod.glob.keeps bk) hsuper (b1.keeps bk) ((b2 "super" (by decide)).trans hboot) ⟨rfl, ?_⟩)
  refine wpAny_loadName_free hk hkc rfl ⟨_, X2 _ _ hcell, rfl⟩ ?_
  rw [har]
  refine wpAny_loadName_local hk hkm F1.ns mv ?_
  refine ks_wpAny_isType_cls hD1 hD2 ⟨rfl, ?_⟩
  refine ks_wpAny_call_super hD1 hD2 Ie.at_ Ie.cls (fun c e => by cases e) (looks_mroIn X2 hsub) (fun h2 e2 k2 => ?_)
  obtain ⟨F2, N2, l2⟩ := ks_newsPush (s := ⟨h₁, g, d, 0, os⟩) (o := ks_superObj C (hp.objs.size + 1) C) F1 N1 rfl e2 k2
  have I2 : InstAt h2 (hp.objs.size + 1) (excObj C hp.objs.size none .none) C none := ⟨(N2 _ (List.mem_cons_of_mem _ List.mem_cons_self)).1, rfl, rfl, trivial⟩
  refine kxs_method (i := i) KF F2 X0 N2 List.mem_cons_self I2 ho hm hB (by decide) (fun u h3 F3 N3 l3 => ?_)
  refine kxs_callWith1 (i := i) (x := hp.objs.size + 1) N3 List.mem_cons_self (spliced_more ?_ (hse L)) (hse L)
  refine hj L h3 _ _ _ F3.ns F3.keep (fun y tu h4 tk4 k4 => spliced_none ?_)
  have F4 : PyProof.Rows.Fr hp L h4 (fun y => [(me, Value.ref (hp.objs.size + 1)), (x, v)].reverse.lookup y) := ⟨F3.ns.keeps k4, fun b o e => k4 b o (F3.keep b o e), F3.above⟩
  have N4 : News hp L h4 ((u, kxs_mw i (hp.objs.size + 1)) :: ((h₁.objs.size, ks_superObj C (hp.objs.size + 1) C) :: [(hp.objs.size + 1, excObj C hp.objs.size none .none), (hp.objs.size, excTup [v])])) := fun p hp' => ⟨k4 _ _ (N3 p hp').1, (N3 p hp').2⟩
  refine ⟨kxs_at N4 List.mem_cons_self, ?_⟩
  have ln : ∀ p ∈ ([(hp.objs.size + 1, excObj C hp.objs.size none .none), (hp.objs.size, excTup [v])] : List (Addr × Obj)), p.1 < h₁.objs.size := l2
  have lu := l3 _ (List.mem_cons_of_mem _ List.mem_cons_self)
  have ls := ln _ List.mem_cons_self
  have ux : u ≠ hp.objs.size + 1 := Nat.ne_of_gt lu
  have sx : h₁.objs.size ≠ hp.objs.size + 1 := Nat.ne_of_gt ls
  refine kxs_call (t := hp.objs.size) (dv := none) (c2 := .none) F4 X0 N4 FB qC List.mem_cons_self (.tail ux (.tail sx (.head fun p hp' => ?_))) (by rw [sizeLine_eq]; exact Nat.le_of_ble_eq_true rfl) (fun t1 h5 F5 N5 l5 => ?_)
  · rw [List.mem_singleton.mp hp']
    exact Nat.ne_of_lt (Nat.lt_succ_self _)
  -- self.fld = x
  refine ks_wpAt_execs_cons (ks_wpAt_Assign_Attr (_root_.PySem.wpAt_of_wpAny (wpAny_Name (wpAny_loadName_local hk hkx F5.ns xv ?_) hd2)) (hsw2 L))
  refine wpAny_Name (wpAny_loadName_local hk hkm F5.ns mv ?_) hd1
  have X5 : K.In h5 := X0.keeps F5.keep
  have e5 : h5.get? (hp.objs.size + 1) = some (excObj C t1 none .none) := (N5 (hp.objs.size + 1, excObj C t1 none .none) (.tail _ (.tail _ (.tail _ (.head _))))).1
  refine set_plain X5 (od := none) ⟨e5, rfl, rfl, trivial⟩ hs ?_
  refine osa_any SF X5 e5 hD hov (by
    obtain ⟨cd, hc', hd⟩ := any_some hh
    rw [hD] at hc'; cases hc'; exact hd) ht (fun h6 tk6 dx k6 ge ne e6 hn6 => ?_)
  show _root_.PySem.wpAt _ _ _ (PySem.execs [] _) _ _ _
  refine _root_.PySem.wpAt_of_wpAny (wpAny_execs_nil ?_)
  refine hq h6 tk6 dx t1 (fun b o e => k6 b o ?_ (F5.keep b o e)) ?_ ne e6 hn6
  · exact fun z => absurd (show (b : Nat) < hp.objs.size from Heap.lt_size e) (by rw [z]; exact Nat.not_lt.mpr (Nat.le_succ _))
  · have := Heap.lt_size e5
    exact Nat.le_of_lt (Nat.lt_of_lt_of_le (Nat.lt_of_le_of_lt (Nat.le_succ _) this) ge)
end
end RA

set_option Elab.async false
set_option linter.all false
set_option maxRecDepth 100000
set_option maxHeartbeats 4000000
set_option autoImplicit false
/-! BX2: f'{x!r} ..' of any data that can be shown. -/
namespace RA
open PySem PySem.Spec PyProof.Rows PySem.W PySem.Calls
section
variable {prog : Program} {w : World} {A : Around} {E : Value → Shared → Prop} {hp : Heap} {g : Array GenState} {d : Drawn} {tk : Nat} {os : OsState}
/-- the text of a value -/
theorem shown_data {v : Value} {p : PyData} {as : List Addr} {Q : Value → Shared → Prop} (rd : Reads hp v p as) (hpl : p.plain = true) (sh : p.showable = true) (dp : p.depth ≤ 60) (ln : p.shown.length ≤ sizeLine) (hg : A.guards = some []) (hu : A.units + 60 < cLine)
    (hQ : ∀ h' u t', (∀ b o, hp.get? b = some o → h'.get? b = some o) → Q (.str p.shown u) ⟨h', g, d, t', os⟩) : wpAny (model prog w) A (pyReprObj v) Q E ⟨hp, g, d, tk, os⟩ := by
  cases rd with
  | none => exact pyReprObj_none (by simpa [PyData.shown] using hQ hp tk (tk + 1) fun _ _ e => e)
  | bool b => exact pyReprObj_bool (by simpa [PyData.shown] using hQ hp tk (tk + 1) fun _ _ e => e)
  | int i t => exact pyReprObj_int (by simpa [PyData.showable] using sh) (by simpa [PyData.shown] using hQ hp tk (tk + 1) fun _ _ e => e)
  | str z t => exact pyReprObj_str (by simpa [PyData.shown] using hQ hp tk (tk + 1) fun _ _ e => e) (by simpa only [PyData.shown] using ln)
  | list a b c' d' => exact pyReprObj_of_reads (s := ⟨hp, g, d, tk, os⟩) (.list a b c' d') sh (PyData.noDict_hsm (noDict_of_plain _ hpl)) hg (by omega) (fun _ _ e => e) (fun h' u t' hk => hQ h' u t' hk) ln
  | tuple a b c' d' => exact pyReprObj_of_reads (s := ⟨hp, g, d, tk, os⟩) (.tuple a b c' d') sh (PyData.noDict_hsm (noDict_of_plain _ hpl)) hg (by omega) (fun _ _ e => e) (fun h' u t' hk => hQ h' u t' hk) ln
  | dict a b c' d' e' => exact nomatch hpl
/-- {x!r} -/
theorem fmt_name {env : Env} {x : Str} {m : Str → Option Value} {v : Value} {p : PyData} {as : List Addr} {q0 q1 : Pos} {Q : Value → Shared → Prop} (hk : env.scope.kind = .function) (hx : env.kindOf x = some .local) (hns : hp.Ns env.locals m) (hv : m x = some v) (hd : (x == ("__debug__" : Str)) = false)
    (rd : Reads hp v p as) (hpl : p.plain = true) (sh : p.showable = true) (dp : p.depth ≤ 60) (ln : p.shown.length ≤ sizeLine) (hg : A.guards = some []) (hu : A.units + 60 < cLine)
    (hQ : ∀ h' u t', (∀ b o, hp.get? b = some o → h'.get? b = some o) → Q (.str p.shown u) ⟨h', g, d, t', os⟩) : wpAny (model prog w) A (PySem.eval (.FormattedValue (.Name x q0) 114 none q1) env) Q E ⟨hp, g, d, tk, os⟩ := by
  refine wpAny_FormattedValue_repr (wpAny_Name (wpAny_loadName_local hk hx hns hv ?_) hd)
  refine shown_data rd hpl sh dp ln hg hu fun h' u t' k => ?_
  exact wpAny_formatField_str (hQ h' u t' k) (hQ h' t' (t' + 1) k) ln
end
end RA

set_option Elab.async false
set_option linter.all false
set_option maxRecDepth 100000
set_option maxHeartbeats 4000000
set_option autoImplicit false
/-! BX3: a class of exceptions that keeps what it is given: its promise. -/
namespace RA
open PySem PySem.Spec PyProof.Rows PySem.W PySem.Calls
section
variable {prog : Program} {w : World} {A : Around} {E : Value → Shared → Prop} {hp : Heap} {g : Array GenState} {d : Drawn} {tk : Nat} {os : OsState}
/-- f'{x!r}..' -/
theorem join_first {env : Env} {x c : Str} {m : Str → Option Value} {v : Value} {p : PyData} {as : List Addr} {kk : Nat} {q0 q1 q2 q3 : Pos} {Q : Value → Shared → Prop} (hk : env.scope.kind = .function) (hx : env.kindOf x = some .local) (hns : hp.Ns env.locals m) (hv : m x = some v) (hd : (x == ("__debug__" : Str)) = false)
    (rd : Reads hp v p as) (hpl : p.plain = true) (sh : p.showable = true) (dp : p.depth ≤ 60) (ln : p.shown.length + 64 ≤ sizeLine) (hc : c.length ≤ 60) (hg : A.guards = some []) (hu : A.units + 60 < cLine)
    (hQ : ∀ y h' u t', (∀ b o, hp.get? b = some o → h'.get? b = some o) → Q (.str y u) ⟨h', g, d, t', os⟩) : wpAny (model prog w) A (PySem.eval (.JoinedStr [.FormattedValue (.Name x q0) 114 none q1, .Constant (.str c) kk q2] q3) env) Q E ⟨hp, g, d, tk, os⟩ := by
  refine wpAny_JoinedStr ?_
  show Joins (model prog w) A E [PySem.eval (.FormattedValue (.Name x q0) 114 none q1) env, PySem.eval (.Constant (.str c) kk q2) env] Str.empty _ _
  refine fmt_name hk hx hns hv hd rd hpl sh dp (by omega) hg hu fun h' u t' k => ⟨_, _, rfl, ?_, wpAny_Constant_str ⟨_, _, rfl, ?_, ?_, ?_⟩⟩
  · rw [PySem.Str.length_append]
    show 0 + p.shown.length ≤ sizeLine
    omega
  · rw [PySem.Str.length_append, PySem.Str.length_append]
    show 0 + p.shown.length + c.length ≤ sizeLine
    omega
  · rw [PySem.Str.length_append, PySem.Str.length_append]
    show 0 + p.shown.length + c.length ≤ sizeLine
    omega
  · exact hQ _ h' _ _ k
end
theorem under_guards {A : Around} {a : Args} : (A.under (.builtin "type.__call__" a)).guards = A.guards := by
  first | rfl | (simp [Around.under])
/-- the class at C, called with a value that can be shown, makes an exception that keeps it under fld -/
structure KeepC (prog : Program) (w : World) (base : Heap) (C : Addr) (fld : Str) : Prop where
  run : ∀ (A : Around) (R : Result → Shared → Prop) (hp : Heap) (g : Array GenState) (d : Drawn) (tk : Nat) (os : OsState) (v : Value) (p : PyData) (as : List Addr), (∀ b o, base.get? b = some o → hp.get? b = some o) → RoomG 1 A → Reads hp v p as → p.plain = true → p.showable = true → p.depth ≤ 60 → p.shown.length + 64 ≤ sizeLine →
    (∀ (h' : Heap) (tk' : Nat) (dx t1 : Addr), (∀ b o, hp.get? b = some o → h'.get? b = some o) → hp.objs.size ≤ dx → dx ≠ hp.objs.size + 1 → h'.get? (hp.objs.size + 1) = some (excObj C t1 (some dx) .none) → h'.Ns1 dx (fun y => if y = fld then some v else none) → R (.ok (.ret (.ref (hp.objs.size + 1)))) ⟨h', g, d, tk', os⟩) →
    codeAny (model prog w) A (.call (.ref C) ⟨[v], []⟩) R ⟨hp, g, d, tk, os⟩
end RA

set_option Elab.async false
set_option linter.all false
set_option maxRecDepth 100000
set_option maxHeartbeats 4000000
set_option autoImplicit false
/-! BX4: the promise of a class of exceptions from its facts. -/
namespace RA
open PySem PySem.Spec PyProof.Rows PySem.W PySem.Calls
section
variable {prog : Program} {w : World} {K : Frag} {mg : Str → Option Value} {base : Heap}
theorem keepC_of {C fI cc cda : Addr} {B i newId : String} {bmB : List Value}
    {nm q me x fld : Str} {c : Str} {kk : Nat} {q0 q1 q2 pj : Pos} {scope : Scope} {dV kV doc pm oc ccl cl ct : Value} {an od cdd cld : Option Addr} {osl ccs csl : Array (Option Value)} {params : Arguments} {p0 p1 p2 p3 p4 p5 p6 p7 p8 : Pos} {ar : Arg} {vs : Array Value} {file : Str} {tf : Tok} {cdD : ClassData}
    (mod : L2.Mod K mg base) (FB : ExcBaseFacts B newId i bmB) (KF : KxsFacts B i) (SF : StoreFacts B bmB "object.__setattr__" "object") (hi0 : findIn K (.ref C) "__init__" = some (some (.ref fI)))
    (lk : K.lookup fI = some ⟨.type "function", od, .func (iniF nm q me x fld [.FormattedValue (.Name x q0) 114 none q1, .Constant (.str c) kk q2] pj scope dV kV doc pm an params cda ct cc p0 p1 p2 p3 p4 p5 p6 p7 p8), osl⟩) (hcd : codeIn K (.ref cda) q = true) (qC : excInitIn K C bmB newId = true)
    (hp1 : (params.posonlyargs ++ params.args).head? = some ar) (har : ar.arg = me) (hcode : K.lookup cda = some ⟨ccl, cdd, .fields vs, ccs⟩) (hvs : vs[2]? = some (.str file tf)) (hfile : ((prog.main.file : Str) == file) = true)
    (hcell : K.lookup cc = some ⟨cl, cld, .cell (some (.ref C)), csl⟩) (hD : clsIn K C = some cdD) (hsub : mroIn K C (.ref C) = some true) (hsuper : mg "super" = none)
    (hks : scope.names.lookup ("super" : Str) = some .globalImplicit) (hkc : scope.names.lookup ("__class__" : Str) = some .free) (hkm : scope.names.lookup me = some .local) (hkx : scope.names.lookup x = some .local) (hxm : (x == me) = false) (hk : scope.kind = .function)
    (htop : (prog.main.scope.names.lookup ("super" : Str)).isSome = false) (hboot : bootBuiltins "super" = some (.type "super")) (ho : nsIn K cStatics "thirdparty.any" = some none) (hm : ks_superIn K C C "__init__" = some (some (.builtin i))) (hB : subIn K (.ref C) (.type B) = some true)
    (hs : findIn K (.ref C) "__setattr__" = some (some (.builtin "object.__setattr__"))) (hov : excOver K C bmB = true) (ht : takerIn K C fld = some none) (hh : hasDictIn K C = true)
    (hnc : ∀ y ∈ scope.names, y.2 ≠ .cell) (hco : scope.isCoroutine = false) (hgen : scope.isGenerator = false)
    (hbind : ∀ a b : Value, bindArgs (iniF nm q me x fld [.FormattedValue (.Name x q0) 114 none q1, .Constant (.str c) kk q2] pj scope dV kV doc pm an params cda ct cc p0 p1 p2 p3 p4 p5 p6 p7 p8) ⟨[a, b], []⟩ = pure [(me, a), (x, b)])
    {pl : Addr → Sem Bool} (he : ∀ L, PySem.eval (.Call (.Attribute (.Call (.Name "super" p0) [] [] p1) "__init__" p2) [.JoinedStr [.FormattedValue (.Name x q0) 114 none q1, .Constant (.str c) kk q2] pj] [] p3) (callEnv (iniF nm q me x fld [.FormattedValue (.Name x q0) 114 none q1, .Constant (.str c) kk q2] pj scope dV kV doc pm an params cda ct cc p0 p1 p2 p3 p4 p5 p6 p7 p8) L fI) = (do
      let ov ← attributeBase (.Call (.Name "super" p0) [] [] p1) "__init__" (callEnv (iniF nm q me x fld [.FormattedValue (.Name x q0) 114 none q1, .Constant (.str c) kk q2] pj scope dV kV doc pm an params cda ct cc p0 p1 p2 p3 p4 p5 p6 p7 p8) L fI) (PySem.eval (.Call (.Name "super" p0) [] [] p1) (callEnv (iniF nm q me x fld [.FormattedValue (.Name x q0) 114 none q1, .Constant (.str c) kk q2] pj scope dV kV doc pm an params cda ct cc p0 p1 p2 p3 p4 p5 p6 p7 p8) L fI))
      standAt p2.atName
      let (f, first) ← holding [ov] (getMethod ov "__init__" (pl L))
      callWith p3 f first (backTo p3 (starEach [.JoinedStr [.FormattedValue (.Name x q0) 114 none q1, .Constant (.str c) kk q2] pj] (callEnv (iniF nm q me x fld [.FormattedValue (.Name x q0) 114 none q1, .Constant (.str c) kk q2] pj scope dV kV doc pm an params cda ct cc p0 p1 p2 p3 p4 p5 p6 p7 p8) L fI))) []))
    (hi : ∀ L, interactive (callEnv (iniF nm q me x fld [.FormattedValue (.Name x q0) 114 none q1, .Constant (.str c) kk q2] pj scope dV kV doc pm an params cda ct cc p0 p1 p2 p3 p4 p5 p6 p7 p8) L fI) = false)
    (hsw : ∀ L, swapsWith (.Call (.Attribute (.Call (.Name "super" p0) [] [] p1) "__init__" p2) [.JoinedStr [.FormattedValue (.Name x q0) 114 none q1, .Constant (.str c) kk q2] pj] [] p3) none p4.line (callEnv (iniF nm q me x fld [.FormattedValue (.Name x q0) 114 none q1, .Constant (.str c) kk q2] pj scope dV kV doc pm an params cda ct cc p0 p1 p2 p3 p4 p5 p6 p7 p8) L fI) = pure false)
    (hsw2 : ∀ L, swapsWith (.Name x p7) (some (.Attribute (.Name me p5) fld p6)) p8.line (callEnv (iniF nm q me x fld [.FormattedValue (.Name x q0) 114 none q1, .Constant (.str c) kk q2] pj scope dV kV doc pm an params cda ct cc p0 p1 p2 p3 p4 p5 p6 p7 p8) L fI) = pure false)
    (hse : ∀ L, starEach [.JoinedStr [.FormattedValue (.Name x q0) 114 none q1, .Constant (.str c) kk q2] pj] (callEnv (iniF nm q me x fld [.FormattedValue (.Name x q0) 114 none q1, .Constant (.str c) kk q2] pj scope dV kV doc pm an params cda ct cc p0 p1 p2 p3 p4 p5 p6 p7 p8) L fI) = [(false, PySem.eval (.JoinedStr [.FormattedValue (.Name x q0) 114 none q1, .Constant (.str c) kk q2] pj) (callEnv (iniF nm q me x fld [.FormattedValue (.Name x q0) 114 none q1, .Constant (.str c) kk q2] pj scope dV kV doc pm an params cda ct cc p0 p1 p2 p3 p4 p5 p6 p7 p8) L fI))])
    (hd1 : (me == ("__debug__" : Str)) = false) (hd2 : (x == ("__debug__" : Str)) = false) (hc : c.length ≤ 60) : KeepC prog w base C fld := by
  constructor
  intro A R hp g d tk os v p as hb rm rd hpl sh dp ln hq
  have X0 : K.In hp := mod.kin.keeps hb
  obtain ⟨nmC, N', qn, bs, bm, hdct, sn, sub, ab, col, dd, k0, k1, k2, k3, k5, hC, hT⟩ := excInit_of X0 qC
  refine PySem.HandSPX.call_own FB hT hC (looks_findIn X0 hi0) (fun self => exc_bind (X0 _ _ lk) rfl self) (by rw [sizeLine_eq]; exact Nat.le_of_ble_eq_true rfl) ?_
  have rm1 : RoomG 0 (A.under (.builtin "type.__call__" ⟨.ref C :: [v], []⟩)) := ⟨rm.room.make C [v] [], under_guards.trans rm.gd⟩
  have kp : ∀ b o, hp.get? b = some o → ((hp.push (kdv_tup [v])).push (PySem.HandSPX.excO C hp.objs.size)).get? b = some o := fun b o e => Heap.get?_push_of_some _ (Heap.get?_push_of_some _ e)
  refine init_run (es' := []) (n' := 0) mod hb FB KF SF lk hcd qC hp1 har hcode hvs hfile hcell hD hsub hsuper hks hkc hkm hkx hxm hk htop hboot ho hm hB hs hov ht hh hnc hco hgen hbind he hi hsw hsw2 hse rm1.room.depth hd1 hd2 (fun L h' tk' E Q hns hk' hQ => ?_) (fun h' tk' dx t1 k ge ne e1 e2 => ⟨rfl, hq h' tk' dx t1 k ge ne e1 e2⟩)
  have xv : ([(me, Value.ref (hp.objs.size + 1)), (x, v)] : List (Str × Value)).reverse.lookup x = some v := by
    show List.lookup x [(x, v), (me, _)] = _
    simp [List.lookup]
  have rd' : Reads h' v p as := PyProof.Rows.Reads.keeps hk' rd
  exact join_first (m := fun y => [(me, Value.ref (hp.objs.size + 1)), (x, v)].reverse.lookup y) hk hkx hns xv hd2 rd' hpl sh dp ln hc rm1.gd (by have := rm1.room.units; show (A.under (.builtin "type.__call__" ⟨.ref C :: [v], []⟩)).units + 3 + 60 < cLine; omega) fun y h'' u t'' k => hQ y u h'' t'' k
end
end RA

set_option Elab.async false
set_option linter.all false
set_option maxRecDepth 100000
set_option maxHeartbeats 4000000
set_option autoImplicit false
/-! BX5: raise X(e), X a class that keeps what it is given. -/
namespace RA
open PySem PySem.Spec PyProof.Rows L2
section
variable {G : Gd} {X : Cx} {W : WX} {m m' : Mm} {S : Store} {H H' H1 : Hp}
/-- what X(e) asks: the value can be shown -/
def keepsEv (k : Nat) (fld : Str) (ev : Ev D) : Ev Out := fun τ S => ((ev τ S).noexc).bind fun d S => (lift S (reprD S d)).bind fun _ S => .exc ⟨k, [(fld, d)]⟩ S
theorem keepsEv_exc {k : Nat} {fld : Str} {ev : Ev D} {τ : Sig} {S S' : Store} {x : Exn} (h : keepsEv k fld ev τ S = .exc x S') : ∃ d, ev τ S = .ok d S' ∧ (reprD S' d).isSome = true ∧ x = ⟨k, [(fld, d)]⟩ := by
  unfold keepsEv at h
  cases e : ev τ S with
  | ok d S1 =>
    rw [e] at h
    have h' : (lift S1 (reprD S1 d)).bind (fun _ S => (.exc ⟨k, [(fld, d)]⟩ S : Res Out)) = .exc x S' := h
    cases r : reprD S1 d with
    | none => rw [r] at h'; cases h'
    | some y =>
      rw [r] at h'
      have h2 : (.exc ⟨k, [(fld, d)]⟩ S1 : Res Out) = .exc x S' := h'
      injection h2 with h3 h4
      subst h4
      exact ⟨d, rfl, by rw [r]; rfl, h3.symm⟩
  | exc y S1 => rw [e] at h; cases h
  | bad => rw [e] at h; cases h
theorem keepsEv_no {k : Nat} {fld : Str} {ev : Ev D} {τ : Sig} {S S' : Store} {o : Out} (h : keepsEv k fld ev τ S = .ok o S') : False := by
  unfold keepsEv at h
  cases e : ev τ S with
  | ok d S1 =>
    rw [e] at h
    have h' : (lift S1 (reprD S1 d)).bind (fun _ S => (.exc ⟨k, [(fld, d)]⟩ S : Res Out)) = .ok o S' := h
    cases r : reprD S1 d with
    | none => rw [r] at h'; cases h'
    | some y => rw [r] at h'; cases h'
  | exc y S1 => rw [e] at h; cases h
  | bad => rw [e] at h; cases h
theorem lookup1 {β : Type} {n f : Str} {d z : β} (h : ([(f, d)] : List (Str × β)).lookup n = some z) : n = f ∧ d = z := by
  by_cases e : n = f
  · subst e
    simp [List.lookup] at h
    exact ⟨rfl, h⟩
  · have : (n == f) = false := by simpa using e
    simp [List.lookup, this] at h
/-- the reading of X(e) -/
def rdK (G : Gd) (k : Nat) (fld : Str) (ev : Ev D) : L2.St → Hp → XK → Prop := fun σ H Q => ∃ m S τ, Cf G m S H ∧ SR G m H σ τ ∧ ∃ x S', keepsEv k fld ev τ S = .exc x S' ∧ ∀ c d m' H', Cf G m' S' H' → Stp m H m' H' → ER G m' H' c d x → Q c d H'
theorem pmk_keep {e : Expr} {ev : Ev D} {xn : Str} {k : Nat} {C : Addr} {fld : Str} {p pos : Pos} (hK : X.K = G.K) (hr : RoomG 1 X.A) (KC : L2.Mod X.K X.mg X.base → KeepC X.prog X.w X.base C fld) (hg : Gl X xn) (hm : X.mg xn = some (.ref C)) (kC : PySem.W.keepIn X.K (.ref C) = true) (hT : Raises X (.ref C)) (hC : G.CA k = some C) (he : EOk G X W e ev)
    (hdb : (xn == ("__debug__" : Str)) = false) (hse : starEach [e] X.env = (false, PySem.eval e X.env) :: starEach [] X.env) :
    PMk X (.Call (.Name xn p) [e] [] pos) (rdK G k fld ev) := by
  intro pins s σ H Q I ⟨m, S, τ, c, sr, x, S', hx, q⟩
  obtain ⟨d, e1, e2, rfl⟩ := keepsEv_exc hx
  obtain ⟨y, e2⟩ := Option.isSome_iff_exists.mp e2
  obtain ⟨pv, q1, e3⟩ := some_bind (show ((pd S' d).bind fun p => if p.showable = true ∧ p.depth ≤ 60 ∧ p.shown.length + 64 ≤ LINE then some (D.str p.shown) else none) = some y from e2)
  obtain ⟨⟨h1, h2, h3⟩, _⟩ := some_if e3
  rw [line_eq] at h3
  have ha : AOk G X W [e] fun τ S => (ev τ S).bind fun d S => (Res.ok [] S).bind fun ds S => .ok (d :: ds) S := a_cons he a_nil hse
  refine wpAny_Call_Name_kw (ld_glob I hg hm ?_ hdb)
  refine PySem.W.callWith_K (h₀ := X.base) I.ok.mod.kin kC (thn (ha.run pos pins s σ H (fun vs H1 => ∃ v m1, vs = [v] ∧ Cf G m1 S' H1 ∧ Stp m H m1 H1 ∧ VR G m1 H1 v d) I ⟨m, S, τ, c, sr, ?_⟩) fun us s1 ⟨vs, H1, I1, r1, v, m1, ev1, c1, st1, rv⟩ => ⟨I1.kIn, ?_⟩) hse (by rfl)
  · dsimp only
    rw [e1]
    show ∀ vs m' H', Cf G m' S' H' → Stp m H m' H' → VRs G m' H' vs [d] → _
    intro vs m' H' c' st' rs
    cases rs with
    | cons r rs => cases rs with
      | nil => exact ⟨_, m', rfl, c', st', r⟩
  subst ev1
  obtain ⟨u, rfl, ru⟩ := vals1 r1
  obtain ⟨hpl, as, rd⟩ := reads_of hK I1 c1 rv q1 ru
  obtain ⟨hp, g, dr, tk, os⟩ := s1
  show wpAny _ _ (call (.ref C) [u]) _ _ _
  refine wpAny_call ((KC I.ok.mod).run X.A _ hp g dr tk os u pv as I1.bk hr rd hpl h1 h2 h3 (fun h' tk' dx t1 k' ge ne ho hn => ?_))
  have hnn : H1 (hp.objs.size + 1) = none := I1.hok.fresh (Nat.le_succ _)
  have hdn : H1 dx = none := I1.hok.fresh ge
  obtain ⟨G', g1, g2⟩ := restrict h' fun b => decide (b ≠ hp.objs.size + 1)
  have gk : ∀ b, b ≠ hp.objs.size + 1 → G'.get? b = h'.get? b := fun b hb => g1 b (decide_eq_true hb)
  have ge' : G'.get? (hp.objs.size + 1) = none := g2 _ (by simp)
  have kk : ∀ b o, hp.get? b = some o → G'.get? b = some o := fun b o z => by
    rw [gk b (Nat.ne_of_lt (Nat.lt_succ_of_lt (Heap.lt_size z)))]
    exact k' b o z
  have nG : G'.Ns1 dx (fun y => if y = fld then some u else none) := hn.at fun o z => (gk dx ne).trans z
  have J : Inv X pins σ (upd H1 dx (.xd [(fld, v)])) ⟨G', g, dr, tk', os⟩ := I1.laid (t' := tk') (a := dx) (o := .xd [(fld, v)]) (h' := G') kk ge ⟨_, nG, relO_put (fs := []) (mA := fun _ => none) ru fun g => True.intro⟩
  refine ⟨hp.objs.size + 1, _, _, ⟨G', g, dr, tk', os⟩, upd H1 dx (.xd [(fld, v)]), .ref C, some dx, rfl, J, fun b o z => ?_, ge', ho, ⟨rfl, rfl⟩, rfl, rfl, ?_, rfl, I1.bare, hT, ?_⟩
  · by_cases hb : b = hp.objs.size + 1
    · rw [hb, ge'] at z; cases z
    · exact (gk b hb).symm.trans z
  · rw [upd_ne (Ne.symm ne)]; exact hnn
  · have st2 : Stp m1 H1 m1 (upd H1 dx (.xd [(fld, v)])) := Stp.new hdn
    have c2 : Cf G m1 S' (upd H1 dx (.xd [(fld, v)])) := c1.keep st2 fun a o z => by rw [upd_ne (ne_of_none z hdn)]; exact z
    refine q _ _ m1 _ c2 (st1.trans st2) ⟨C, hC, rfl, .inr ⟨dx, [(fld, v)], rfl, upd_same, fun n z hz => ?_⟩⟩
    obtain ⟨rfl, rfl⟩ := lookup1 hz
    exact ⟨v, by rw [lookup_put, if_pos rfl], rv.step c1 st2⟩
/-- raise X(e) -/
theorem s_raiseK {W : WX} {e : Expr} {ev : Ev D} {xn : Str} {k : Nat} {C : Addr} {fld : Str} {p pos pos2 : Pos} (hc : X.calm = true) (tk : Takes X W) (hK : X.K = G.K) (hr : RoomG 1 X.A) (KC : L2.Mod X.K X.mg X.base → KeepC X.prog X.w X.base C fld) (hg : Gl X xn) (hm : X.mg xn = some (.ref C)) (kC : PySem.W.keepIn X.K (.ref C) = true) (hT : Raises X (.ref C)) (hC : G.CA k = some C) (he : EOk G X W e ev)
    (hdb : (xn == ("__debug__" : Str)) = false) (hse : starEach [e] X.env = (false, PySem.eval e X.env) :: starEach [] X.env) :
    SOk G X W (.Raise (some (.Call (.Name xn p) [e] [] pos)) none pos2) (keepsEv k fld ev) :=
  PS.weak (L2.ps_raise hc tk (pmk_keep hK hr KC hg hm kC hT hC he hdb hse)) fun D σ H ⟨m, S, τ, c, sr, hl, q⟩ => by
    cases ex : keepsEv k fld ev τ S with
    | ok o S' => exact (keepsEv_no ex).elim
    | bad => rw [ex] at q; exact q.elim
    | exc x S' =>
      rw [ex] at q
      exact ⟨m, S, τ, c, sr, x, S', ex, fun cc dd m' H' c' st' er => q σ cc dd m' H' hl c' st' er⟩
end
end RA

set_option Elab.async false
set_option linter.all false
set_option maxRecDepth 100000
set_option maxHeartbeats 4000000
set_option autoImplicit false
/-! BX6: a try with several clauses, any of which may name what it catches. -/
namespace RA
open PySem PySem.Spec PyProof.Rows L2
abbrev ClS := Value × Option Nat × (Addr → Value → Option Addr → TS)
/-- the ends of a suite whose name goes behind it -/
def goes (i : Nat) (D : Ends) : Ends := { nx := fun τ T => D.nx (τ.set i none) T, rt := D.rt, bk := fun τ T => D.bk (τ.set i none) T, ct := fun τ T => D.ct (τ.set i none) T }
def wCl (K : PySem.W.Frag) (Wo : WX) (D : Ends) : List ClS → WX
  | [] => Wo
  | (c, on, ts) :: r => fun cls d τ T => ∃ b, PySem.W.exmOne K cls c = some b ∧
      (b = true → ∀ a, T a = none → match on with
        | none => ts a cls d D τ T
        | some i => ts a cls d (goes i D) (τ.set i (some (.ref a))) T) ∧ (b = false → wCl K Wo D r cls d τ T)
inductive ClOk (X : Cx) : List ExceptHandler → List ClS → Prop
  | nil : ClOk X [] []
  | cons {x : Str} {c : Value} {ts : Addr → Value → Option Addr → TS} {st : Stmt} {more : List Stmt} {np hp : Pos} {hds : List ExceptHandler} {l : List ClS} (on : Option (Str × Nat)) (hc : Names X x c) (hon : ∀ n i, on = some (n, i) → X.N[i]? = some n ∧ X.env.kindOf n = some .local)
      (su : ∀ (a : Addr) (o : Obj) (cls : Value) (d : Option Addr) (pn : List (Addr × Obj)), Zc cls d o → (∃ vs, o.data = .fields vs) → PSs (X.suite a ((a, o) :: pn)) (st :: more) (ts a cls d)) (r : ClOk X hds l) :
      ClOk X (.ExceptHandler (some (.Name x np)) (on.map (·.1)) (st :: more) hp :: hds) ((c, on.map (·.2), ts) :: l)
/-- an exception that has come down to a try of this frame -/
structure Down (X : Cx) (pins : List (Addr × Obj)) (B : Heap) (a : Addr) (cls : Value) (d : Option Addr) (τ : L2.St) (T : Hp) (sI s : Shared) : Prop where
  inv : Inv X pins τ T sI
  nb : ∀ b o, sI.heap.get? b = some o → b ∉ frs X.stack → B.get? b = some o
  up : sI.heap.UpToSlots s.heap
  fl : HandSPX.FlyingZ B (X.env :: X.outer) a (Zc cls d) s.heap
  no : T a = none
  os : s.os = sI.os
  ag : AllBare s.gens
section
variable {X : Cx} {pins : List (Addr × Obj)} {B : Heap} {a : Addr} {cls : Value} {d : Option Addr} {τ : L2.St} {T : Hp} {sI s : Shared}
theorem Down.here (q : Down X pins B a cls d τ T sI s) : Inv X pins τ T s := q.inv.landed q.nb q.fl.1 q.up q.os q.ag
theorem Down.off (q : Down X pins B a cls d τ T sI s) (hf : X.env.frame = some X.env.locals) : a ≠ X.env.locals ∧ a ∉ X.fs := by
  obtain ⟨o, vs, ho, _, hd⟩ := q.fl.there
  have out : a ∉ frs (X.env :: X.outer) := fun z => by
    obtain ⟨_, u, hu, nf⟩ := q.fl.2.2.1.mem z
    rw [ho] at hu; cases hu
    exact nf _ hd
  refine ⟨fun z => out (List.mem_filterMap.mpr ⟨X.env, List.mem_cons_self, by rw [hf, z]⟩), fun z => ?_⟩
  obtain ⟨e, he, w⟩ := List.mem_filterMap.mp z
  exact out (List.mem_filterMap.mpr ⟨e, List.mem_cons_of_mem _ he, w⟩)
theorem Down.test (q : Down X pins B a cls d τ T sI s) (hf : X.env.frame = some X.env.locals) {x : Str} {c : Value} {np : Pos} (hc : Names X x c) {R : Value → Shared → Prop} {E : Value → Shared → Prop} (h : R c s) : wpAny (model X.prog X.w) (X.A.mark (some (.ref a))) (PySem.eval (.Name x np) X.env) R E s := by
  obtain ⟨o, vs, ho, _, hd⟩ := q.fl.there
  have Y := q.here.suite ho hd q.no (q.off hf).1 (q.off hf).2
  obtain ⟨hg, hdb, hm | ⟨hm, hv, hnn⟩⟩ := hc
  · exact ld_glob (X := X.suite a ((a, o) :: (X.pn ++ pins))) Y hg hm h hdb
  · exact ld_blt (X := X.suite a ((a, o) :: (X.pn ++ pins))) Y hg hm hv h hnn hdb
/-- it stays in the air -/
theorem Down.again (q : Down X pins B a cls d τ T sI s) {Wo : WX} {D : Ends} (hs : X.stack = X.env :: X.outer) (hf : X.env.frame = some X.env.locals) (tk : Takes X Wo) (w : Wo cls d τ T) : wpAny (model X.prog X.w) X.A (handleBy (.ref a) X.env []) (SP X pins D) X.xe s := by
  obtain ⟨hh, g, dr, t, os⟩ := s
  refine wpAny_handleBy_nil ?_
  obtain ⟨_, _, _, o, vs, tr, otr, ts, ho, _, hd, h1, _⟩ := id q.fl
  unfold PySem.passOn
  refine wpAny_bind (wpAny_field ho hd h1 ?_)
  rw [if_neg (show ¬ ((Value.ref tr == Value.none) = true) from by simp)]
  have out : wpAny (model X.prog X.w) X.A (setFlight (.ref a) X.env.frame) (fun _ s4 => wpAny (model X.prog X.w) X.A (throw (.ref a) : Sem Flow) (SP X pins D) X.xe s4) X.xe ⟨hh, g, dr, t, os⟩ := by
    rw [hf]
    exact HandSPX.setFlight_upZ q.fl fun h4 k4 up4 => wpAny_throw (tk _ _ ⟨a, B, sI, pins, τ, T, cls, d, rfl, q.inv, q.nb, q.up.trans up4, .inr (.inr (by rw [hs]; exact k4)), q.no, q.os, q.ag, w⟩)
  first
    | exact wpAny_bind (wpAny_pure (wpAny_bind out))
    | exact wpAny_bind out
/-- the suite of a clause without a name -/
theorem Down.plain (q : Down X pins B a cls d τ T sI s) (ok : X.Ok) (hf : X.env.frame = some X.env.locals) {D : Ends} {st : Stmt} {more : List Stmt} {ts : Addr → Value → Option Addr → TS} {hp : Pos} {R : Result → Shared → Prop}
    (su : ∀ (o : Obj) (pn : List (Addr × Obj)), Zc cls d o → (∃ vs, o.data = .fields vs) → PSs (X.suite a ((a, o) :: pn)) (st :: more) (ts a cls d)) (w : ts a cls d D τ T) (hR : ∀ f s', SP X pins D f s' → R (.ok f) s') :
    codeAny (model X.prog X.w) (X.A.mark (some (.ref a))) (.handlers (.ref a) [.ExceptHandler none none (st :: more) hp] X.env) R s := by
  obtain ⟨hh, g, dr, t, os⟩ := s
  refine codeAny_handlers_suite ?_
  refine HandSPX.lands_againZ q.fl fun h4 fl4 up4 => ?_
  have q4 : Down X pins B a cls d τ T sI ⟨h4, g, dr, t, os⟩ := ⟨q.inv, q.nb, q.up.trans up4, fl4, q.no, q.os, q.ag⟩
  obtain ⟨o, vs, ho, hz, hd⟩ := fl4.there
  refine wpAny_mono ((su o (X.pn ++ pins) hz ⟨_, hd⟩).run [] _ τ T D (q4.here.suite ho hd q.no (q4.off hf).1 (q4.off hf).2) w) (fun f s6 z => hR f s6 ?_) fun _ _ z => False.elim z
  cases f with
  | ret u =>
    obtain ⟨v, σ6, H6, S6, r6, e6⟩ := z
    exact ⟨v, σ6, H6, S6.unsuite ok, r6, e6⟩
  | _ =>
    obtain ⟨σ6, H6, S6, e6⟩ := z
    exact ⟨σ6, H6, S6.unsuite ok, e6⟩
/-- the suite of a clause with a name: the name goes behind it -/
theorem Down.named (q : Down X pins B a cls d τ T sI s) (ok : X.Ok) (hf : X.env.frame = some X.env.locals) (hN : X.N.Nodup) {n : Str} {i : Nat} (hi : X.N[i]? = some n) (hl : X.env.kindOf n = some .local) {D : Ends} {st : Stmt} {more : List Stmt} {ts : Addr → Value → Option Addr → TS} {hp : Pos} {R : Result → Shared → Prop}
    (su : ∀ (o : Obj) (pn : List (Addr × Obj)), Zc cls d o → (∃ vs, o.data = .fields vs) → PSs (X.suite a ((a, o) :: pn)) (st :: more) (ts a cls d)) (w : ts a cls d (goes i D) (τ.set i (some (.ref a))) T)
    (hR : ∀ f s', wpAny (model X.prog X.w) X.A (do bindName X.env n .none; unbindBehindTheSuite X.env n hp) (fun _ s3 => SP X pins D f s3) X.xe s' → R (.ok f) s') :
    codeAny (model X.prog X.w) (X.A.mark (some (.ref a))) (.handlers (.ref a) [.ExceptHandler none (some n) (st :: more) hp] X.env) R s := by
  obtain ⟨hh, g, dr, t, os⟩ := s
  refine codeAny_handlers_suite_as ?_
  refine HandSPX.lands_againZ q.fl fun h4 fl4 up4 => ?_
  have q4 : Down X pins B a cls d τ T sI ⟨h4, g, dr, t, os⟩ := ⟨q.inv, q.nb, q.up.trans up4, fl4, q.no, q.os, q.ag⟩
  obtain ⟨o, vs, ho, hz, hd⟩ := fl4.there
  have Y := q4.here.suite ho hd q.no (q4.off hf).1 (q4.off hf).2
  refine store_ok (X := X.suite a ((a, o) :: (X.pn ++ pins))) (v := .ref a) Y hN hi (.inl hl) rfl (fun s5 Y5 => ?_) (.inr hl)
  refine wpAny_mono ((su o (X.pn ++ pins) hz ⟨_, hd⟩).run [] s5 _ T (goes i D) Y5 w) (fun f s6 z => hR f s6 ?_) fun _ _ z => False.elim z
  cases f with
  | ret u =>
    obtain ⟨v, σ6, H6, S6, r6, e6⟩ := z
    exact gone_ok (S6.unsuite ok) hN hi hl fun s7 J7 => ⟨v, _, H6, J7, r6, e6⟩
  | _ =>
    obtain ⟨σ6, H6, S6, e6⟩ := z
    exact gone_ok (S6.unsuite ok) hN hi hl fun s7 J7 => ⟨_, H6, J7, e6⟩
/-- the clauses, one by one -/
theorem Down.clauses (ok : X.Ok) (hs : X.stack = X.env :: X.outer) (hf : X.env.frame = some X.env.locals) (hN : X.N.Nodup) {Wo : WX} {D : Ends} (tk : Takes X Wo) {hds : List ExceptHandler} {l : List ClS} (k : ClOk X hds l) (q : Down X pins B a cls d τ T sI s) (w : wCl X.K Wo D l cls d τ T) :
    wpAny (model X.prog X.w) X.A (handleBy (.ref a) X.env hds) (SP X pins D) X.xe s := by
  induction k with
  | nil => exact q.again hs hf tk w
  | @cons x c ts st more np hp hds l on hc hon su r ih =>
    obtain ⟨b, hb, hy, hn⟩ := w
    have q' := q
    obtain ⟨hh, g, dr, t, os⟩ := s
    obtain ⟨o, vs, ho, hz, hd⟩ := q.fl.there
    refine wpAny_handleBy_cons (codeAny_handlers_test ?_) (by intro z; cases on <;> cases z)
    have cl : PySem.W.Looks (model X.prog X.w) hh (typeOf (.ref a)) cls := fun A Q E s k z => wpAny_typeOf_ref (k _ _ ho) (by rw [hz.1]; exact z)
    refine q.test hf hc ((PySem.W.exm_one (M := model X.prog X.w) q.here.kIn cl hb).here ?_)
    cases b with
    | false => exact ih (hn rfl)
    | true =>
      have w1 := hy rfl a q.no
      cases on with
      | none => exact q'.plain ok hf (fun o pn hz hd => su a o cls d pn hz hd) w1 fun f s' z => z
      | some p =>
        obtain ⟨n, i⟩ := p
        obtain ⟨hi, hl⟩ := hon n i rfl
        exact q'.named ok hf hN hi hl (fun o pn hz hd => su a o cls d pn hz hd) w1 fun f s' z => z
/-- try: body, except ..: several clauses -/
theorem ps_try_cl (hs : X.stack = X.env :: X.outer) (hf : X.env.frame = some X.env.locals) (hN : X.N.Nodup) {Wo : WX} (tk : Takes X Wo) {body : List Stmt} {h₀ : ExceptHandler} {hds : List ExceptHandler} {l : List ClS} {pos : Pos} {tb : WX → TS}
    (hb : ∀ (W : WX) (pn : List (Addr × Obj)) (xe : Value → Shared → Prop), Takes (X.tr pn xe) W → PassesOwn (model X.prog X.w) X.A X.env xe → PSs (X.tr pn xe) body (tb W)) (hh : ClOk X (h₀ :: hds) l) :
    PS X (.Try body (h₀ :: hds) [] [] pos) (fun D τ T => tb (wCl X.K Wo D l) D τ T) := by
  refine ⟨fun pins s σ H D I z => ?_⟩
  have ok := I.ok
  have fr : X.A.frames = some (X.env :: X.outer) := by rw [ok.frames, hs]
  refine wpAny_Try_except ?_
  refine wpAny_mono ((hb (wCl X.K Wo D l) (X.pn ++ pins) (fun e s₁ => wpAny (model X.prog X.w) X.A (noteFrame e X.env) (fun _ s₂ => wpAny (model X.prog X.w) X.A (setFlight e none) (fun _ s₃ => wpAny (model X.prog X.w) X.A (handleBy e X.env (h₀ :: hds)) (SP X pins D) X.xe s₃) X.xe s₂) X.xe s₁)
    (fun u s' xx => ?_) PassesOwn.looking).run [] s σ H D (I.toTry _) z) (fun f s1 y => ?_) fun _ _ y => y
  · obtain ⟨a, B, sI, pins', τ, T, cls, d, rfl, J, nb, up, sky, no, os, ag, w⟩ := xx
    have sky' : Sky B (X.env :: X.outer) a (Zc cls d) X.env.locals s'.heap := by rw [← hs]; exact sky
    obtain ⟨hp, g, dr, t, os'⟩ := s'
    show wpAny (model X.prog X.w) X.A (noteFrame (.ref a) X.env) _ _ _
    exact Sky.land Zc.steady fr hf sky' fun h3 fl3 up3 => Down.clauses ok hs hf hN tk hh (s := ⟨h3, g, dr, t, os'⟩) (sI := sI) (B := B) ⟨J.ofTry ok, nb, up.trans up3, fl3, no, os, ag⟩ w
  · cases f with
    | next =>
      obtain ⟨σ', H', J', q⟩ := y
      exact wpAny_execs_nil ⟨σ', H', J'.ofTry ok, q⟩
    | ret u =>
      obtain ⟨v, σ', H', J', r, q⟩ := y
      exact ⟨v, σ', H', J'.ofTry ok, r, q⟩
    | _ =>
      obtain ⟨σ', H', J', q⟩ := y
      exact ⟨σ', H', J'.ofTry ok, q⟩
end
end RA

set_option Elab.async false
set_option linter.all false
set_option maxRecDepth 100000
set_option maxHeartbeats 4000000
set_option autoImplicit false
/-! BX7: except X as n: return 'word ' + repr(n.f). -/
namespace RA
open PySem PySem.Spec PyProof.Rows L2
section
variable {G : Gd} {X : Cx} {a : Addr} {oe : Obj} {cls : Value} {d : Option Addr} {pn : List (Addr × Obj)}
/-- the field f of what was caught, n's slot being i -/
theorem pe_field {C : Addr} {n f : Str} {i : Nat} {q2 q3 : Pos} (T : XfC X.K C) (hno : PySem.W.findIn X.K (.ref C) f = some none) (hz : Zc cls d oe) (hf : ∃ vs, oe.data = .fields vs) (hN : X.N[i]? = some n) (hv : Vis X.env.scope n) (h1 : (n == ("__debug__" : Str)) = false) (h2 : (n == ("__classdict__" : Str)) = false)
    (hb : attributeBase (.Name n q2) f X.env (PySem.eval (.Name n q2) X.env) = PySem.eval (.Name n q2) X.env) : PE (X.suite a ((a, oe) :: pn)) (.Attribute (.Name n q2) f q3) (tXf a cls d C f (tVar i)) :=
  pe_xf T hno hz hf (pe_var (X := X.suite a ((a, oe) :: pn)) hN hv h1 h2) hb
/-- what the suite gives -/
def rdXf (G : Gd) (C : Addr) (i : Nat) (f w : Str) (a : Addr) (cls : Value) (d : Option Addr) : TS := fun D σ H => σ[i]? = some (some (.ref a)) ∧ cls = .ref C ∧ ∃ m S x dv p, Cf G m S H ∧ ER G m H cls d x ∧ x.fs.lookup f = some dv ∧ reprD S dv = some (.str p) ∧ w.length + p.length ≤ LINE ∧ ∀ m' H', Cf G m' S H' → Stp m H m' H' → D.rt (.str (w ++ p)) H'
theorem pss_field {C : Addr} {n f w : Str} {i kk : Nat} {q0 q1 q2 q3 q4 q5 q6 : Pos} (hK : X.K = G.K) (hu : X.A.units + 64 < cLine) (hg : X.A.guards = some []) (hgl : Gl X "repr") (hm : X.mg "repr" = none) (T : XfC X.K C) (hno : PySem.W.findIn X.K (.ref C) f = some none) (hz : Zc cls d oe) (hf : ∃ vs, oe.data = .fields vs) (hN : X.N[i]? = some n) (hv : Vis X.env.scope n) (h1 : (n == ("__debug__" : Str)) = false) (h2 : (n == ("__classdict__" : Str)) = false)
    (hb : attributeBase (.Name n q2) f X.env (PySem.eval (.Name n q2) X.env) = PySem.eval (.Name n q2) X.env) (he : starEach [.Attribute (.Name n q2) f q3] X.env = (false, PySem.eval (.Attribute (.Name n q2) f q3) X.env) :: starEach [] X.env) :
    PSs (X.suite a ((a, oe) :: pn)) [.Return (some (.BinOp (.Constant (.str w) kk q0) .Add (.Call (.Name "repr" q1) [.Attribute (.Name n q2) f q3] [] q4) q5)) q6] (rdXf G C i f w a cls d) := by
  have A1 : PA (X.suite a ((a, oe) :: pn)) [.Attribute (.Name n q2) f q3] (tCons (tXf a cls d C f (tVar i)) tNil) := pa_cons (pe_field T hno hz hf hN hv h1 h2 hb) pa_nil he
  have C1 : CallR (X.suite a ((a, oe) :: pn)) (.builtin "repr") (rB G .repr) := bD_repr (X := X.suite a ((a, oe) :: pn)) hK hu hg
  have P1 := pe_callB (X := X.suite a ((a, oe) :: pn)) (p := q1) (pos := q4) C1 hgl hm rfl A1 (by decide) (by decide) he (by rfl)
  have P2 := pe_op (X := X.suite a ((a, oe) :: pn)) (pos := q5) op_add_str (pe_str (x := w) (j := kk) (pos := q0)) P1
  refine PSs.weak (pss_one (ps_ret (pos := q6) P2)) fun D σ H ⟨hi, hc, m, S, x, dv, p, c, er, hl, hr, hw, q⟩ => ?_
  obtain ⟨cc, e1, e2, e3⟩ := er
  rcases e3 with ⟨e3, _⟩ | ⟨dd, fs, e3, e4, e5⟩
  · rw [e3] at hl; cases hl
  obtain ⟨u, l1, r1⟩ := e5 f dv hl
  refine ⟨.ref a, hi, rfl, hc, dd, fs, u, e3, e4, l1, ?_⟩
  refine ⟨m, S, [dv], c, .cons r1 .nil, ?_⟩
  show Post G m H (lift S (reprD S dv)) _ _ _
  rw [hr]
  intro v m' H' c' st' r'
  cases r' with
  | str z => exact ⟨w, p, rfl, rfl, by rw [← line_eq]; exact hw, q m' H' c' st'⟩
end
end RA

set_option Elab.async false
set_option linter.all false
set_option maxRecDepth 100000
set_option maxHeartbeats 4000000
set_option autoImplicit false
/-! B10: raise, try, a call with a lambda. -/
namespace RA
open PySem PySem.Spec PyProof.Rows L2 LamX
section
variable {G : Gd} {X : Cx} {W : WX} {m m' m0 m1 : Mm} {S : Store} {H H' H0 H1 : Hp} {σ : L2.St} {τ : Sig} {n : Nat} {En En' : Ends}
/-- raise X('..'), X a class without its own __init__ -/
theorem s_raise {e : Expr} {k : Nat} {C : Addr} {pos : Pos} (hc : X.calm = true) (tk : Takes X W) (hm : PMk X e (fun _ H Q => Q (.ref C) none H)) (hC : G.CA k = some C) : SOk G X W (.Raise (some e) none pos) fun τ S => .exc ⟨k, []⟩ S :=
  PS.weak (L2.ps_raise hc tk hm) fun En σ H ⟨m, S, τ, c, sr, l, p⟩ => p σ (.ref C) none m H l c Stp.refl ⟨C, hC, rfl, .inl ⟨rfl, rfl⟩⟩
/-- what the clauses do -/
def handleEv (sub : Nat → Nat → Bool) (x : Exn) : List (Nat × (Exn → Ev Out)) → Ev Out
  | [], _, S => .exc x S
  | (k, ev) :: r, τ, S => if sub x.k k then (ev x τ S).noexc else handleEv sub x r τ S
inductive HOk (G : Gd) (X : Cx) : List ExceptHandler → List (Nat × (Exn → Ev Out)) → Prop
  | nil : HOk G X [] []
  | cons {x : Str} {c : Addr} {k : Nat} {ev : Exn → Ev Out} {b₀ : Stmt} {suite : List Stmt} {np pos : Pos} {hds : List ExceptHandler} {l : List (Nat × (Exn → Ev Out))} (hc : Names X x (.ref c)) (hk : G.CA k = some c)
      (hs : ∀ (a : Addr) (oe : Obj) (cls : Value) (d : Option Addr) (pn : List (Addr × Obj)) (y : Exn), Zc cls d oe → (∃ vs, oe.data = .fields vs) → SsOk G (X.suite a ((a, oe) :: pn)) WNo (b₀ :: suite) (ev y)) (r : HOk G X hds l) :
      HOk G X (.ExceptHandler (some (.Name x np)) none (b₀ :: suite) pos :: hds) ((k, ev) :: l)
  | named {x n f w : Str} {c : Addr} {k i kk : Nat} {ev : Exn → Ev Out} {np pos q0 q1 q2 q3 q4 q5 q6 : Pos} {hds : List ExceptHandler} {l : List (Nat × (Exn → Ev Out))} (hc : Names X x (.ref c)) (hk : G.CA k = some c) (hi : X.N[i]? = some n) (hl : X.env.kindOf n = some .local) (hgl : Gl X "repr") (hm : X.mg "repr" = none)
      (hu : X.A.units + 64 < cLine) (hg : X.A.guards = some []) (T : XfC X.K c) (hno : PySem.W.findIn X.K (.ref c) f = some none) (h1 : (n == ("__debug__" : Str)) = false) (h2 : (n == ("__classdict__" : Str)) = false)
      (hb : attributeBase (.Name n q2) f X.env (PySem.eval (.Name n q2) X.env) = PySem.eval (.Name n q2) X.env) (he : starEach [.Attribute (.Name n q2) f q3] X.env = (false, PySem.eval (.Attribute (.Name n q2) f q3) X.env) :: starEach [] X.env)
      (hev : ∀ y τ S o S', ev y τ S = .ok o S' → ∃ dv p, y.k = k ∧ y.fs.lookup f = some dv ∧ reprD S dv = some (.str p) ∧ w.length + p.length ≤ LINE ∧ o = .ret (.str (w ++ p)) ∧ S' = S) (r : HOk G X hds l) :
      HOk G X (.ExceptHandler (some (.Name x np)) (some n) [.Return (some (.BinOp (.Constant (.str w) kk q0) .Add (.Call (.Name "repr" q1) [.Attribute (.Name n q2) f q3] [] q4) q5)) q6] pos :: hds) ((k, ev) :: l)
/-- how the classes stand to each other -/
def SubOk (G : Gd) (sub : Nat → Nat → Bool) : Prop := ∀ k c k' c', G.CA k = some c → G.CA k' = some c' → PySem.W.exmOne G.K (.ref c) (.ref c') = some (sub k k')
theorem SR.wiped (hl : σ.length = τ.length) : SR G m H σ (τ.map fun _ => none) := ⟨by rw [List.length_map, hl], fun i d h => by
  rw [List.getElem?_map] at h
  cases e : τ[i]? with
  | none => rw [e] at h; cases h
  | some o => rw [e] at h; cases h⟩
theorem SR.none (hl : σ.length = n) : SR G m H σ (List.replicate n none) := ⟨by rw [List.length_replicate, hl], fun i d h => by
  rw [List.getElem?_replicate] at h
  split at h <;> cases h⟩
theorem PostS.noexc {r : Res Out} (p : PostS G m H n r.noexc En W) : PostS G m H n r En WNo := by
  cases r with
  | ok o S' => cases o <;> exact p
  | exc x S' => exact p.elim
  | bad => exact p
/-- the clauses as the hand layer has them -/
theorem HOk.parts (hK : X.K = G.K) {sub : Nat → Nat → Bool} (hsub : SubOk G sub) {hds : List ExceptHandler} {l : List (Nat × (Exn → Ev Out))} (h : HOk G X hds l) :
    ∃ l' : List ClS, ClOk X hds l' ∧ ∀ (En : Ends) (W : WX) m S H σ τ0 cls d x, Cf G m S H → σ.length = X.N.length → SR G m H σ τ0 → ER G m H cls d x → PostS G m H X.N.length (handleEv sub x l τ0 S) En W → wCl X.K W En l' cls d σ H := by
  induction h with
  | nil => exact ⟨[], .nil, fun En W m S H σ τ0 cls d x c hl sr er p => p σ cls d m H hl c Stp.refl er⟩
  | @cons x c k ev b₀ suite np pos hds l hc hk hs r ih =>
    obtain ⟨l', h1, h2⟩ := ih
    refine ⟨(.ref c, none, fun a cls d => fun En σ H => ∃ y, rdS G X.N.length WNo (ev y) En σ H) :: l', .cons none hc (fun n i z => by cases z) (fun a oe cls d pn hz hf => ⟨fun pins s σ H D I ⟨y, q⟩ => (hs a oe cls d pn y hz hf).run pins s σ H D I q⟩) h1, ?_⟩
    intro En W m S H σ τ0 cls d y cf hl sr er p
    obtain ⟨cc, e1, e2, e3⟩ := id er
    refine ⟨sub y.k k, by rw [e2, hK]; exact hsub _ _ _ _ e1 hk, fun hb a ha => ?_, fun hb => ?_⟩
    · unfold handleEv at p
      rw [if_pos hb] at p
      exact ⟨y, m, S, τ0, cf, sr, hl, p.noexc⟩
    · unfold handleEv at p
      rw [if_neg (by rw [hb]; decide)] at p
      exact h2 En W m S H σ τ0 cls d y cf hl sr er p
  | @named x n f w c k i kk ev np pos q0 q1 q2 q3 q4 q5 q6 hds l hc hk hi hln hgl hm hu hg T hno g1 g2 hb0 he0 hev r ih =>
    obtain ⟨l', h1, h2⟩ := ih
    refine ⟨(.ref c, some i, fun a cls d => rdXf G c i f w a cls d) :: l', .cons (some (n, i)) hc (fun n' i' z => by cases z; exact ⟨hi, hln⟩) (fun a oe cls d pn hz hf => pss_field hK hu hg hgl hm T hno hz hf hi (.inl hln) g1 g2 hb0 he0) h1, ?_⟩
    intro En W m S H σ τ0 cls d y cf hl sr er p
    obtain ⟨cc, e1, e2, e3⟩ := id er
    refine ⟨sub y.k k, by rw [e2, hK]; exact hsub _ _ _ _ e1 hk, fun hb a ha => ?_, fun hb => ?_⟩
    · unfold handleEv at p
      rw [if_pos hb] at p
      cases ex : ev y τ0 S with
      | exc z S1 => rw [ex] at p; exact p.elim
      | bad => rw [ex] at p; exact p.elim
      | ok o S1 =>
        obtain ⟨dv, pp, k1, k2, k3, k4, rfl, rfl⟩ := hev y τ0 S o S1 ex
        rw [ex] at p
        have hcc : cc = c := by
          rw [k1, hk] at e1
          exact (Option.some.inj e1).symm
        subst hcc
        have ih' : i < σ.length := by rw [hl]; exact (List.getElem?_eq_some_iff.mp hi).1
        exact ⟨List.getElem?_set_self ih', e2, m, S1, y, dv, pp, cf, er, k2, k3, k4, fun m' H' c' st' => p (.str (w ++ pp)) m' H' c' st' (.str _)⟩
    · unfold handleEv at p
      rw [if_neg (by rw [hb]; decide)] at p
      exact h2 En W m S H σ τ0 cls d y cf hl sr er p
def triEv (sub : Nat → Nat → Bool) (l : List (Nat × (Exn → Ev Out))) (eb : Ev Out) : Ev Out := fun τ S => match eb τ S with
  | .exc x S' => handleEv sub x l (τ.map fun _ => none) S'
  | r => r
theorem s_try (hN : X.N.Nodup) (hK : X.K = G.K) {sub : Nat → Nat → Bool} (hsub : SubOk G sub) (hs : X.stack = X.env :: X.outer) (hf : X.env.frame = some X.env.locals) (tk : Takes X W) {body : List Stmt} {h₀ : ExceptHandler} {hds : List ExceptHandler} {l : List (Nat × (Exn → Ev Out))} {eb : Ev Out} {pos : Pos}
    (hb : ∀ (W : WX) (pn : List (Addr × Obj)) (xe : Value → Shared → Prop), Takes (X.tr pn xe) W → PassesOwn (model X.prog X.w) X.A X.env xe → SsOk G (X.tr pn xe) W body eb) (hh : HOk G X (h₀ :: hds) l) :
    SOk G X W (.Try body (h₀ :: hds) [] [] pos) (triEv sub l eb) := by
  obtain ⟨l', h1, h2⟩ := hh.parts hK hsub
  refine PS.weak (ps_try_cl (tb := fun W => rdS G X.N.length W eb) hs hf hN tk hb h1) fun En σ H ⟨m, S, τ, c, sr, hl, p⟩ => ⟨m, S, τ, c, sr, hl, ?_⟩
  unfold triEv at p
  cases e : eb τ S with
  | bad => rw [e] at p; exact p
  | ok o S' =>
    rw [e] at p
    cases o <;> exact p
  | exc x S' =>
    rw [e] at p
    exact fun σ' cls d m' H' hl' c' st' er => h2 En W m' S' H' σ' _ cls d x c' hl' (SR.wiped (by rw [hl', ← hl, sr.len])) er (PostS.later st' p)

/-! ### a def that is handed a lambda and calls it within a try -/
theorem takes_lam {A : Around} {outer : List Env} {s : Shared} {E : XK} {scope : Scope} {f c' : Addr} : Takes (lamCx X A outer s H E scope f c') (fun cls d _ H => E cls d H) :=
  takes_of (X := lamCx X A outer s H E scope f c') (E := E) (E₁ := fun e' s'' => L2.CX X.prog X.w outer H s E e' s'') rfl rfl rfl rfl
theorem act {sg : Scope} {Ng : List Str} {qg : Str} {g f c' : Addr} {cdg pm ctv : Value} {pins : List (Addr × Obj)} {s : Shared} {params : Arguments} {body : Expr} {scope : Scope} {k : Nat} {a : Str} {pn : List (Addr × Obj)} {xe : Value → Shared → Prop} {W' : WX} {E : XK} {eb : Ev D} {p1 p2 : Pos}
    (I : Inv X pins σ H s) (L : LamS X.env.scope scope) (hf : s.heap.get? f = some (PySem.W.kla_obj "<lambda>" (X.env.qual ++ "<lambda>") params body scope (cloFrom X.env.cells scope.names []) pm c' ctv)) (hfn : H f = none) (hfr : f ∉ frs X.stack)
    (hbind : bindArgs (PySem.W.kla_fn "<lambda>" (X.env.qual ++ "<lambda>") params body scope (cloFrom X.env.cells scope.names []) pm (.ref c') ctv) ⟨[], []⟩ = pure [])
    (tk : Takes ((cxOf (L2.CX X.prog X.w) X.prog X.w X.K X.mg X.base Ng qg sg g cdg X.A X.stack s H E).tr pn xe) W') (hr : RoomG (k + 1) (X.A.deeper (envOfC qg sg s.heap.objs.size g cdg)))
    (hbody : ∀ (A : Around) (outer : List Env) (s : Shared) (H : Hp) (E : XK) (f c' : Addr) (L : Addr), RoomG k (A.deeper (lamEnv X scope s.heap.objs.size f c')) → EOk G (lamCx X A outer s H E scope f c') (fun cls d _ H => E cls d H) body eb)
    (hN : Ng[0]? = some a) (hv : Vis sg a) (hd : (a == ("__debug__" : Str)) = false) (hcd : (a == ("__classdict__" : Str)) = false) :
    PE ((cxOf (L2.CX X.prog X.w) X.prog X.w X.K X.mg X.base Ng qg sg g cdg X.A X.stack s H E).tr pn xe) (.Call (.Name a p1) [] [] p2)
      (fun σZ HZ Q => σZ[0]? = some (some (.ref f)) ∧ HZ c' = some (CodeO c' (X.env.qual ++ "<lambda>")) ∧ rdE G (fun cls d _ H => W' cls d σZ H) eb σ HZ Q) := by
  constructor
  intro pinsZ sZ σZ HZ Q IZ ⟨hs, hc, ht⟩
  have look := (pe_var (X := (cxOf (L2.CX X.prog X.w) X.prog X.w X.K X.mg X.base Ng qg sg g cdg X.A X.stack s H E).tr pn xe) (pos := p1) (i := 0) hN hv hd hcd).run pinsZ sZ σZ HZ (fun v H1 => v = .ref f ∧ H1 = HZ) IZ ⟨_, hs, rfl, rfl⟩
  refine wpAny_Call_Name_kw (thn look ?_)
  intro u s1 ⟨v, H1, I1, r1, ev, eH⟩
  subst ev
  rw [eH] at I1
  cases r1
  have of1 := I1.base.keep f _ hf hfn hfr (fun z => nomatch (show f ∈ ([] : List Addr) from z))
  refine PySem.W.callWith_F0 ⟨_, _, _, _, of1⟩ ?_
  have un := I1.base
  obtain ⟨⟨oc, vs, t, hoc, hdc, hvc⟩, _, _⟩ := I1.hok c' _ hc
  refine wpAny_call (codeAny_mono (?rc : codeAny (model X.prog X.w) (X.A.deeper (envOfC qg sg s.heap.objs.size g cdg)) (.call (.ref f) ⟨[], []⟩) (CR (L2.CX X.prog X.w) (envOfC qg sg s.heap.objs.size g cdg :: X.stack) X.prog X.w HZ s1 Q (WE W' σZ)) s1) ?after)
  case after =>
    intro r s' hq
    match r, hq with
    | .error e, hq => exact passAt tk σZ pinsZ HZ s1 e s' I1 hq
    | .ok (.ret u), hq => exact I1.after hq
  case rc =>
    refine PySem.W.kla_callFunE hr.room.depth of1 rfl L.co L.gen rfl ⟨c', oc, vs, t, rfl, hoc, hdc, hvc⟩ ?_
    rw [hbind]
    refine wpAny_pure (wpAny_newFunctionEnv (fun y hy => (L.own y hy).2) (fun y hy => nomatch hy) (fun h₁ hns hsb => ⟨I1.nolimit.fresh _ hsb, ?_⟩) L.kind)
    have J := lam_start2 (E := WE W' σZ) (A := X.A.deeper (envOfC qg sg s.heap.objs.size g cdg)) (f := f) (c' := c') (tk := s1.toks + ([] : List (Str × Value)).length) I L I1.env0 hr.room.hd un hns
      fun b o e => hsb.extBut b o (Nat.ne_of_lt (Heap.lt_size e)) (Heap.get?_push_of_some _ e)
    refine PySem.W.kla_codeExpr (wpAny_mono ((hbody _ _ s1 _ (WE W' σZ) f c' 0 (hr.deeper _)).run [] _ _ _ Q J ht) ?_ fun e s' hq => hq)
    rintro v s' ⟨w', H', J', rv, q⟩
    exact ⟨w', H', J'.os, J'.bare, J'.base, J'.hok, rv, q⟩
end
end RA

set_option Elab.async false
set_option linter.all false
set_option maxRecDepth 100000
set_option maxHeartbeats 4000000
set_option autoImplicit false
/-! B11: a def keeps its promise; a def is handed a lambda. -/
namespace RA
open PySem PySem.Spec PyProof.Rows L2 LamX
section
variable {G : Gd} {X : Cx} {W : WX} {m m' m0 m1 : Mm} {S : Store} {H H' H0 H1 : Hp} {σ : L2.St} {τ : Sig} {n : Nat} {En En' : Ends}
theorem Post.ofFin {r : Res Out} {Q : VK} {E : XK} (p : Post G m H (fin r) (VR G) Q E) : PostS G m H n r { nx := fun _ H' => Q .non H', rt := Q } (fun cls d _ H => E cls d H) := by
  cases r with
  | ok o S' =>
    cases o with
    | nx τ' => exact fun σ' m' H' l c s q => p .non m' H' c s .non
    | ret d => exact p
  | exc x S' => exact fun σ' c d m' H' l cf s q => p c d m' H' cf s q
  | bad => exact p.elim
theorem VRs.somes : ∀ {vs : List V} {ds : List D} {i : Nat} {d : D}, VRs G m H vs ds → (ds.map some)[i]? = some (some d) → ∃ v, (vs.map some)[i]? = some (some v) ∧ VR G m H v d := fun {vs ds i d} r e => by
  rw [List.getElem?_map] at e
  cases q : ds[i]? with
  | none => rw [q] at e; cases e
  | some x =>
    rw [q] at e; cases e
    obtain ⟨v, h1, h2⟩ := r.get q
    exact ⟨v, by rw [List.getElem?_map, h1]; rfl, h2⟩
theorem SR.entry {N : List Str} {vs : List V} {ds : List D} (r : VRs G m H vs ds) : SR G m H (L2.start N vs) (RA.start N.length ds) := by
  refine ⟨?_, fun i d h => ?_⟩
  · simp only [L2.start, RA.start, List.length_append, List.length_map, List.length_replicate, r.length]
  · unfold RA.start at h
    unfold L2.start
    rw [List.getElem?_append] at h
    rw [List.getElem?_append]
    rw [List.length_map] at h ⊢
    by_cases hi : i < ds.length
    · rw [if_pos hi] at h
      rw [if_pos (by rw [r.length]; exact hi)]
      exact r.somes h
    · rw [if_neg hi, List.getElem?_replicate] at h
      split at h <;> cases h
theorem start_len {N : List Str} {vs : List V} (h : vs.length ≤ N.length) : (L2.start N vs).length = N.length := by
  unfold L2.start
  rw [List.length_append, List.length_map, List.length_replicate]
  omega
/-- a def, by its body -/
theorem prom_of {P : Program} {w : World} {K : PySem.W.Frag} {mg : Str → Option Value} {base : Heap} {k : Nat} {f : Addr} {name qual : Str} {params : Arguments} {body : List Stmt} {scope : Scope} {dV kV doc pm cdv ct oc : Value} {an od : Option Addr}
    {osl : Array (Option Value)} {N ps : List Str} {ev : Ev Out} (lk : K.lookup f = some ⟨oc, od, .func (PySem.W.fnOf name qual params body scope dV kV doc pm an cdv ct), osl⟩) (hcd : PySem.W.codeIn K cdv qual = true) (Sf : FnScope N ps scope) (kp : PySem.W.keepIn K (.ref f) = true)
    (hb : L2.Binds K (PySem.W.fnOf name qual params body scope dV kV doc pm an cdv ct) ps [])
    (hbody : ∀ (A : Around) (outer : List Env) (s : Shared) (H : Hp) (E : XK), RoomG k (A.deeper (envOfC qual scope s.heap.objs.size f cdv)) → SsOk G (cxOf (L2.CX P w) P w K mg base N qual scope f cdv A outer s H E) (fun cls d _ H => E cls d H) body ev) :
    Prom P w K mg base (k + 1) f (spI G fun ds S => if ds.length = ps.length then fin (ev (RA.start N.length ds) S) else .bad) := by
  refine ⟨kp, fun A outer s H us vs Q E hr e0 r ⟨m, S, ds, c, rs, p⟩ => ?_⟩
  dsimp only at p
  by_cases hl : ds.length = ps.length
  case neg => rw [if_neg hl] at p; exact p.elim
  rw [if_pos hl] at p
  have hv : vs.length = ps.length := rs.length.trans hl
  have hu : us.length = ps.length := by rw [← hv]; exact (r.length).symm
  have kin : K.In s.heap := e0.mod.kin.keeps fun b o e => (e0.bs b o e).1
  have hN : ps.length ≤ N.length := by
    have := congrArg List.length Sf.pre
    rw [List.length_take] at this
    omega
  have bt := hb s us kin (by rw [List.append_nil]; exact hu)
  rw [List.append_nil] at bt
  refine run_ofS lk hcd Sf hr.room e0 bt r hv fun hr' => ⟨_, hbody A outer s H E ⟨hr', hr.gd⟩, ⟨m, S, RA.start N.length ds, c, SR.entry rs, start_len (by rw [hv]; exact hN), Post.ofFin p⟩⟩
/-! ### a def is handed a lambda -/
def lamTri (n : Nat) (isRet : Bool) (sub : Nat → Nat → Bool) (l : List (Nat × (Exn → Ev Out))) (er : Ev Out) (th : Store → Res D) (S : Store) : Res D := fin (thenS (match th S with
  | .ok d S' => if isRet then .ok (.ret d) S' else .ok (.nx (List.replicate n none)) S'
  | .exc x S' => handleEv sub x l (List.replicate n none) S'
  | .bad => .bad) er)
/-- the statement that calls the lambda -/
def first (isRet : Bool) (a : Str) (p1 p2 p3 : Pos) : Stmt := if isRet then .Return (some (.Call (.Name a p1) [] [] p2)) p3 else .Expr (.Call (.Name a p1) [] [] p2) p3
theorem e_lam (hK : X.K = G.K) {x a : Str} {g c P : Addr} {k : Nat} {pg : Arguments} {sg : Scope} {dV kV doc pm cdv ct oc : Value} {an od : Option Addr} {osl : Array (Option Value)} {Ng : List Str} {isRet : Bool} {h₀ : ExceptHandler} {hds : List ExceptHandler} {rest : List Stmt}
    {params : Arguments} {body : Expr} {scope : Scope} {p lpos pos p1 p2 p3 p4 : Pos} {sub : Nat → Nat → Bool} {l : List (Nat × (Exn → Ev Out))} {er : Ev Out} {eb : Ev D} (hg : Gl X x) (hm : X.mg x = some (.ref g)) (hk : PySem.W.keepIn X.K (.ref g) = true)
    (lk : X.K.lookup g = some ⟨oc, od, .func (PySem.W.fnOf x x pg (.Try [first isRet a p1 p2 p3] (h₀ :: hds) [] [] p4 :: rest) sg dV kV doc pm an cdv ct), osl⟩) (hcg : PySem.W.codeIn X.K cdv x = true)
    (hb : L2.Binds X.K (PySem.W.fnOf x x pg (.Try [first isRet a p1 p2 p3] (h₀ :: hds) [] [] p4 :: rest) sg dV kV doc pm an cdv ct) [a] []) (Sg : FnScope Ng [a] sg) (hNg : Ng[0]? = some a) (hva : Vis sg a)
    (TB : TabB X.base X.mg c P) (hcode : X.env.code = .ref c) (hmT : (P, X.env.qual ++ "<lambda>") ∈ G.T) (hu : ∀ p ∈ G.T, p.1 = P → p.2 = X.env.qual ++ "<lambda>") (hr : RoomG (k + 2) X.A) (L : LamS X.env.scope scope) (hdef : defaultsOf params X.env = ([], []))
    (hbind : ∀ (q : Str) (cl : List (Str × Addr)) (pm cv ctv : Value), bindArgs (PySem.W.kla_fn "<lambda>" q params body scope cl pm cv ctv) ⟨[], []⟩ = pure [])
    (hbody : ∀ (A : Around) (outer : List Env) (s : Shared) (H : Hp) (E : XK) (f c' : Addr) (L : Addr), RoomG k (A.deeper (lamEnv X scope s.heap.objs.size f c')) → EOk G (lamCx X A outer s H E scope f c') (fun cls d _ H => E cls d H) body eb)
    (tk : Takes X W) (hsub : SubOk G sub)
    (hh : ∀ (A : Around) (outer : List Env) (s : Shared) (H : Hp) (E : XK), RoomG (k + 1) (A.deeper (envOfC x sg s.heap.objs.size g cdv)) → HOk G (cxOf (L2.CX X.prog X.w) X.prog X.w X.K X.mg X.base Ng x sg g cdv A outer s H E) (h₀ :: hds) l)
    (hrest : ∀ (A : Around) (outer : List Env) (s : Shared) (H : Hp) (E : XK), RoomG (k + 1) (A.deeper (envOfC x sg s.heap.objs.size g cdv)) → SsOk G (cxOf (L2.CX X.prog X.w) X.prog X.w X.K X.mg X.base Ng x sg g cdv A outer s H E) (fun cls d _ H => E cls d H) rest er)
    (hdb : (x == ("__debug__" : Str)) = false) (hd : (a == ("__debug__" : Str)) = false) (hcd : (a == ("__classdict__" : Str)) = false) :
    EOk G X W (.Call (.Name x p) [.Lambda params body scope lpos] [] pos) fun τ S => lamTri Ng.length isRet sub l er (fun S => eb τ S) S := by
  constructor
  intro pins s σ H Q I ⟨m, S, τ, c, sr, pp⟩
  refine wpAny_Call_Name_kw (ld_glob I hg hm ?_ hdb)
  refine PySem.W.callWith_K (h₀ := X.base) I.ok.mod.kin hk ?_ rfl rfl
  refine Calls.spliced_cons (lam_make2 I TB hcode hmT hu c.tabs hdef (L.has I.ok) ?_)
  intro f c' pm' ctv H1 s' I1 eN T1 hf hfn hfr hco
  refine Calls.spliced_nil ⟨I1.kIn, ?_⟩
  have st : Stp m H m H1 := ⟨⟨[], by simp, fun _ h => nomatch h⟩, rfl, fun b o e hn _ => eN b o e hn, fun b z o e => Classical.byContradiction fun ne => ne (by
    refine Classical.byContradiction fun hn => ?_
    exact hn (z o (eN b o e fun ps q => hn ⟨ps, q⟩)))⟩
  have c1 : Cf G m S H1 := ⟨c.len, c.nd, fun n ds hn => by
    obtain ⟨b, xs, e1, e2, e3⟩ := c.at_ n ds hn
    exact ⟨b, xs, e1, eN _ _ e2 NoTbl.lst, e3.step c st⟩, fun b hb' => by
    obtain ⟨xs, e⟩ := c.bn b hb'
    exact ⟨xs, eN _ _ e NoTbl.lst⟩, T1⟩
  have sr1 := sr.step c st
  have p1' := Post.later st pp
  refine wpAny_call (codeAny_mono (?rc : codeAny (model X.prog X.w) X.A (.call (.ref g) ⟨[.ref f], []⟩) (CR (L2.CX X.prog X.w) X.stack X.prog X.w H1 s' Q (WE W σ)) s') ?after)
  case after =>
    intro r s2 hq
    match r, hq with
    | .error e, hq => exact passAt tk σ pins H1 s' e s2 I1 hq
    | .ok (.ret u), hq => exact I1.after hq
  case rc =>
    have bt := hb s' [.ref f] I1.kIn rfl
    refine run_ofS (CX := L2.CX X.prog X.w) (vs := [.ref f]) (us := [.ref f]) lk hcg Sg hr.room I1.env0 bt (.cons rfl .nil) rfl fun hr' => ?_
    have hrG : RoomG (k + 1) (X.A.deeper (envOfC x sg s'.heap.objs.size g cdv)) := ⟨hr', hr.gd⟩
    obtain ⟨l', h1, h2⟩ := HOk.parts (X := cxOf (L2.CX X.prog X.w) X.prog X.w X.K X.mg X.base Ng x sg g cdv X.A X.stack s' H1 (WE W σ)) hK hsub (hh X.A X.stack s' H1 (WE W σ) hrG)
    have hlen : (L2.start Ng [V.ref f]).length = Ng.length := start_len (by
      cases Ng with
      | nil => cases hNg
      | cons y ys => show 1 ≤ _; rw [List.length_cons]; omega)
    have tkZ : Takes (cxOf (L2.CX X.prog X.w) X.prog X.w X.K X.mg X.base Ng x sg g cdv X.A X.stack s' H1 (WE W σ)) (fun cls d _ H => WE W σ cls d H) :=
      takes_of (X := cxOf (L2.CX X.prog X.w) X.prog X.w X.K X.mg X.base Ng x sg g cdv X.A X.stack s' H1 (WE W σ)) (E := WE W σ) (E₁ := fun e' s'' => L2.CX X.prog X.w X.stack H1 s' (WE W σ) e' s'') rfl rfl rfl rfl
    let tb : WX → TS := fun W' D σZ HZ => σZ[0]? = some (some (.ref f)) ∧ HZ c' = some (CodeO c' (X.env.qual ++ "<lambda>")) ∧ rdE G (fun cls d _ H => W' cls d σZ H) eb σ HZ (fun v H' => if isRet then D.rt v H' else D.nx σZ H')
    have hbod : ∀ (W' : WX) (pn : List (Addr × Obj)) (xe : Value → Shared → Prop), Takes ((cxOf (L2.CX X.prog X.w) X.prog X.w X.K X.mg X.base Ng x sg g cdv X.A X.stack s' H1 (WE W σ)).tr pn xe) W' →
        PSs ((cxOf (L2.CX X.prog X.w) X.prog X.w X.K X.mg X.base Ng x sg g cdv X.A X.stack s' H1 (WE W σ)).tr pn xe) [first isRet a p1 p2 p3] (tb W') := fun W' pn xe tk' => by
      have hp := act (p1 := p1) (p2 := p2) I1 L hf hfn hfr (hbind _ _ _ _ _) tk' hrG hbody hNg hva hd hcd
      cases isRet with
      | false => exact PSs.weak (pss_one (ps_expr (pos := p3) hp rfl)) fun D σZ HZ ⟨q1, q2, q3⟩ => ⟨q1, q2, q3⟩
      | true => exact PSs.weak (pss_one (ps_ret (pos := p3) hp)) fun D σZ HZ ⟨q1, q2, q3⟩ => ⟨q1, q2, q3⟩
    refine ⟨_, pss_cons (ps_try_cl (tb := tb) rfl rfl Sg.nd tkZ (fun W' pn xe tk' _ => hbod W' pn xe tk') h1) (hrest X.A X.stack s' H1 (WE W σ) hrG), ?_⟩
    refine ⟨by unfold L2.start; rfl, hco, m, S, τ, c1, sr1, ?_⟩
    replace p1' : Post G m H1 (fin (thenS (match eb τ S with
      | .ok d S' => if isRet then .ok (.ret d) S' else .ok (.nx (List.replicate Ng.length none)) S'
      | .exc x S' => handleEv sub x l (List.replicate Ng.length none) S'
      | .bad => .bad) er)) (VR G) Q fun c d H' => W c d σ H' := p1'
    have key : ∀ (r : Res Out) (m2 : Mm) (H2 : Hp), Post G m2 H2 (fin (thenS r er)) (VR G) Q (WE W σ) →
        PostS G m2 H2 Ng.length r { nx := rdS G Ng.length (fun cls d _ H => WE W σ cls d H) er { nx := fun _ H' => Q .non H', rt := Q }, rt := Q } (fun cls d _ H => WE W σ cls d H) := fun r m2 H2 q =>
      PostS.seq (Post.ofFin (n := Ng.length) q) rfl fun σ' τ' S' m' H' hl' c' st' sr' p' => ⟨m', S', τ', c', sr', hl', p'⟩
    cases e : eb τ S with
    | bad => rw [e] at p1'; exact p1'.elim
    | ok d S' =>
      rw [e] at p1'
      intro v m2 H2 c2 st2 r2
      have q := key _ _ _ (Post.later st2 p1')
      cases isRet with
      | false => exact q _ m2 H2 hlen c2 Stp.refl (SR.none hlen)
      | true => exact q v m2 H2 c2 Stp.refl r2
    | exc y S' =>
      rw [e] at p1'
      intro cls d m2 H2 c2 st2 er2
      exact h2 _ _ m2 S' H2 _ _ cls d y c2 hlen (SR.none hlen) er2 (key _ _ _ (Post.later st2 p1'))
end
end RA

set_option Elab.async false
set_option linter.all false
set_option maxRecDepth 100000
set_option maxHeartbeats 4000000
set_option autoImplicit false
/-! B12: what the reading of a tree needs. -/
namespace RA
open PySem PySem.Spec PyProof.Rows L2 LamX
section
variable {G : Gd} {X : Cx} {W : WX}
theorem EOk.congr {e : Expr} {ev ev' : Ev D} (h : EOk G X W e ev) (q : ∀ τ S, ev' τ S = ev τ S) : EOk G X W e ev' := by
  have : ev' = ev := funext fun τ => funext fun S => q τ S
  rw [this]; exact h
theorem TOk.congr {e : Expr} {ev ev' : Ev D} (h : TOk G X W e ev) (q : ∀ τ S, ev' τ S = ev τ S) : TOk G X W e ev' := by
  have : ev' = ev := funext fun τ => funext fun S => q τ S
  rw [this]; exact h
/-- the value is a bool -/
def Bools (ev : Ev D) : Prop := ∀ τ S d S', ev τ S = .ok d S' → ∃ k, d = .bl k
theorem rdB.bools {ev : Ev D} (hb : Bools ev) {σ : L2.St} {H : Hp} {Q : Bool → Hp → Prop} (h : rdB G W ev σ H Q) : rdE G W ev σ H fun v H' => ∃ k, v = .bl k ∧ Q k H' := by
  obtain ⟨m, S, τ, c, sr, p⟩ := h
  refine ⟨m, S, τ, c, sr, ?_⟩
  dsimp only at p
  cases e : ev τ S with
  | bad => rw [e] at p; exact p
  | exc x S' => rw [e] at p; exact p
  | ok d S' =>
    obtain ⟨k, rfl⟩ := hb _ _ _ _ e
    rw [e] at p
    intro v m' H' c' st' r'
    cases r'
    exact ⟨k, rfl, p k m' H' c' st' rfl⟩
theorem cmpop_bool {S : Store} {op : COp} {x y d : D} (e : cmpop S op x y = some d) : ∃ k, d = .bl k := by
  cases op <;> (
    unfold cmpop at e
    obtain ⟨k, _, h⟩ := Option.map_eq_some_iff.mp e
    exact ⟨_, h.symm⟩)
theorem opC (hK : X.K = G.K) (hu : X.A.units + 64 < cLine) : ∀ op : CmpOp, OpR X (compareOp op) (rD G fun S => cmpop S (copOf op))
  | .Eq => opD_eq hK hu
  | .NotEq => opD_ne hK hu
  | .Lt => opD_lt
  | .LtE => opD_le
  | .Gt => opD_gt
  | .GtE => opD_ge
  | .Is => opD_is
  | .IsNot => opD_isn
  | .In => opD_in hK hu
  | .NotIn => opD_nin hK hu
theorem opB (hK : X.K = G.K) {op : Operator} {o : BOp} (h : bopOf op = some o) : OpR X (binaryOp op) (rD G fun S => binop S o) := by
  cases op <;> cases h
  · exact opD_add hK
  · exact opD_sub
  · exact opD_mul hK
  · exact opD_mod
  · exact opD_pow
  · exact opD_fdiv
def chainEv (S0 : Unit) (o1 o2 : COp) (ea eb ec : Ev D) : Ev D := fun τ S => (ea τ S).bind fun x S => (eb τ S).bind fun y S => (RA.lift S (cmpop S o1 x y)).bind fun k S => match k with
  | .bl true => (ec τ S).bind fun z S => RA.lift S (cmpop S o2 y z)
  | .bl false => .ok (.bl false) S
  | _ => .bad
theorem chain_bools (o1 o2 : COp) (ea eb ec : Ev D) : Bools (chainEv () o1 o2 ea eb ec) := fun τ S d S' e => by
  unfold chainEv at e
  cases e1 : ea τ S with
  | bad => rw [e1] at e; cases e
  | exc x S1 => rw [e1] at e; cases e
  | ok x S1 =>
    rw [e1, r_ok] at e
    cases e2 : eb τ S1 with
    | bad => rw [e2] at e; cases e
    | exc x S1 => rw [e2] at e; cases e
    | ok y S2 =>
      rw [e2, r_ok] at e
      cases e3 : cmpop S2 o1 x y with
      | none => rw [e3] at e; cases e
      | some k =>
        obtain ⟨b, rfl⟩ := cmpop_bool e3
        rw [e3, l_ok, r_ok] at e
        cases b with
        | false => cases e; exact ⟨false, rfl⟩
        | true =>
          replace e : ((ec τ S2).bind fun z S => RA.lift S (cmpop S o2 y z)) = Res.ok d S' := e
          cases e4 : ec τ S2 with
          | bad => rw [e4] at e; cases e
          | exc x S1 => rw [e4] at e; cases e
          | ok z S3 =>
            rw [e4, r_ok] at e
            cases e5 : cmpop S3 o2 y z with
            | none => rw [e5] at e; cases e
            | some k =>
              rw [e5] at e
              cases e
              exact cmpop_bool e5
/-- the reading of a chain -/
theorem chain_reads {o1 o2 : CmpOp} {ea eb ec : Ev D} (σ : L2.St) (H : Hp) (Q : VK) (h : rdE G W (chainEv () (copOf o1) (copOf o2) ea eb ec) σ H Q) :
    tChain (rD G fun S => cmpop S (copOf o1)) (rD G fun S => cmpop S (copOf o2)) (rdE G W ea) (rdE G W eb) (rdE G W ec) σ H Q := by
  obtain ⟨m, S, τ, c, sr, p⟩ := h
  unfold chainEv at p
  refine rdE.seq c sr p fun v d1 S1 m1 H1 c1 st r1 p1 => rdE.seq c1 (sr.step c st) p1 fun u d2 S2 m2 H2 c2 st2 r2 p2 => ?_
  refine ⟨m2, S2, d1, d2, c2, r1.step c1 st2, r2, ?_⟩
  cases e : cmpop S2 (copOf o1) d1 d2 with
  | none => rw [e] at p2; exact p2.elim
  | some k =>
    obtain ⟨b, rfl⟩ := cmpop_bool e
    rw [e] at p2
    show Post G m2 H2 (RA.lift S2 (cmpop S2 (copOf o1) d1 d2)) (VR G) _ _
    rw [e]
    intro v m3 H3 c3 st3 r3
    cases r3
    refine ⟨b, rfl, ?_⟩
    replace p2 := Post.later st3 p2
    cases b with
    | false => exact p2 (.bl false) m3 H3 c3 Stp.refl (.bl false)
    | true =>
      rw [if_pos rfl]
      replace p2 : Post G m3 H3 ((ec τ S2).bind fun z S => RA.lift S (cmpop S (copOf o2) d2 z)) (VR G) Q fun c d H' => W c d σ H' := p2
      exact rdE.seq c3 (((sr.step c st).step c1 st2).step c2 st3) p2 fun w d4 S4 m4 H4 c4 st4 r4 p4 => ⟨m4, S4, d2, d4, c4, (r2.step c2 st3).step c3 st4, r4, p4.anyE⟩
theorem e_chainR (hK : X.K = G.K) (hu : X.A.units + 64 < cLine) {o1 o2 : CmpOp} {a b e : Expr} {ea eb ec : Ev D} {pos : Pos} (ha : EOk G X W a ea) (hb : EOk G X W b eb) (hc : EOk G X W e ec) (hm : lastMarks [o1, o2] [b, e] = false) :
    EOk G X W (.Compare a [o1, o2] [b, e] pos) (chainEv () (copOf o1) (copOf o2) ea eb ec) :=
  PE.weak (pe_chain (opC hK hu o1) (opC hK hu o2) ha hb hc hm) chain_reads
theorem t_chainR (hK : X.K = G.K) (hu : X.A.units + 64 < cLine) {o1 o2 : CmpOp} {a b e : Expr} {ea eb ec : Ev D} {pos : Pos} (ha : EOk G X W a ea) (hb : EOk G X W b eb) (hc : EOk G X W e ec) (hm : lastMarks [o1, o2] [b, e] = false) :
    TOk G X W (.Compare a [o1, o2] [b, e] pos) (chainEv () (copOf o1) (copOf o2) ea eb ec) :=
  PT.weak (pt_chain (opC hK hu o1) (opC hK hu o2) ha hb hc hm) fun σ H Q h => chain_reads σ H _ (rdB.bools (chain_bools _ _ _ _ _) h)
/-- {} -/
theorem e_dict0 {pos : Pos} : EOk G X W (.Dict [] [] pos) fun _ S => .ok (.vd [] []) S :=
  PE.weak pe_dnewK fun σ H Q ⟨m, S, τ, c, sr, p⟩ q hq => p (.ref q) m _ (c.new hq) (Stp.new hq) (.vd (.inl upd_same) (c.outN hq) .nil .nil)
/-- list(x), a list that will change -/
theorem f_list (hK : X.K = G.K) {e : Expr} {es : List Expr} {ees : Ev (List D)} {p pos : Pos} (hg : Gl X "list") (hm : X.mg "list" = none) (ha : AOk G X W (e :: es) ees)
    (he : starEach (e :: es) X.env = (false, eval e X.env) :: starEach es X.env) (hpl : (backTo pos (starEach es X.env)).any (·.1) = false) :
    FOk G X W (.Call (.Name "list" p) (e :: es) [] pos) fun τ S => (ees τ S).bind fun ds S => RA.lift S (bcall S .list ds) :=
  PE.weak (pe_callTy (bD_listF hK) hg hm (by rfl) ha (by decide) (by decide) he hpl) fun σ H Q ⟨m, S, τ, c, sr, pp⟩ => ⟨m, S, τ, c, sr, by
    dsimp only at pp
    cases e1 : ees τ S with
    | bad => rw [e1] at pp; exact pp.elim
    | exc x S' => rw [e1] at pp; exact pp
    | ok ds S' =>
      rw [e1, r_ok] at pp
      intro vs m1 H1 c1 st r1
      cases e2 : bcall S' .list ds with
      | none => rw [e2] at pp; exact pp.elim
      | some d =>
        obtain ⟨x, _, e3⟩ := one_some (show one (fun x => (asQ S' x).map D.vl) ds = some d from e2)
        obtain ⟨es', _, e4⟩ := Option.map_eq_some_iff.mp e3
        subst e4
        rw [e2] at pp
        exact ⟨m1, S', ds, es', c1, r1, e2, fun q ys hq ry => pp q ys m1 _ (c1.start hq) (st.trans (Stp.new hq)) (st.there _ (.of hq)) upd_same (c1.notin hq) (ry.start hq)⟩⟩
/-! ### arguments without stars -/
theorem star_ok {e : Expr} {es : List Expr} {env : Env} (h : isStar e = false) : starEach (e :: es) env = (false, eval e env) :: starEach es env := by
  cases e <;> first | rfl | cases h
theorem stars_ok {env : Env} {pos : Pos} : ∀ {es : List Expr}, (∀ e ∈ es, isStar e = false) → (backTo pos (starEach es env)).any (·.1) = false
  | [], _ => rfl
  | e :: es, h => by
    rw [star_ok (h e List.mem_cons_self)]
    show ((false, _) :: backTo pos (starEach es env)).any (·.1) = false
    rw [List.any_cons, stars_ok fun e' h' => h e' (List.mem_cons_of_mem _ h')]
    rfl
theorem mark_ok {op : CmpOp} {e : Expr} (h : isSet e = false) : behindInMarks op e = false := by
  cases e <;> first | rfl | cases h
theorem marks_ok {o1 o2 : CmpOp} {b e : Expr} (h : isSet e = false) : lastMarks [o1, o2] [b, e] = false := mark_ok h
theorem ix_ok {e : Expr} (h : isSlice e = false) : PlainIx e := by
  cases e <;> first | exact fun _ _ => rfl | cases h
theorem seen_vis {sc : Scope} {x : Str} (h : seen sc x = true) : Vis sc x := by
  unfold seen at h
  unfold Vis
  split at h
  · rename_i e; exact .inl e
  · rename_i e; exact .inr (.inl e)
  · rename_i e; exact .inr (.inr e)
  · cases h
theorem isLoc_loc {sc : Scope} {x : Str} (h : isLoc sc x = true) : L2.Loc sc x := by
  unfold isLoc at h
  unfold L2.Loc
  split at h
  · rename_i e; exact .inl e
  · rename_i e; exact .inr e
  · cases h
theorem plainLoc_loc {sc : Scope} {x : Str} (h : plainLoc sc x = true) : sc.names.lookup x = some .local := by
  unfold plainLoc at h
  split at h
  · assumption
  · cases h
theorem isGlob_gl {sc : Scope} {x : Str} (h : isGlob sc x = true) : sc.names.lookup x = some .globalImplicit := by
  unfold isGlob at h
  split at h
  · assumption
  · cases h
theorem slotIn_at {N : List Str} {x : Str} {i : Nat} (h : slotIn N x = some i) : N[i]? = some x := by
  unfold slotIn at h
  split at h
  · split at h
    · cases h; assumption
    · cases h
  · cases h
theorem okName_1 {x : Str} (h : okName x = true) : (x == ("__debug__" : Str)) = false ∧ (x == ("__classdict__" : Str)) = false ∧ x ≠ "__name__" := by
  unfold okName at h
  simp only [Bool.and_eq_true, Bool.not_eq_true'] at h
  exact ⟨h.1.1, h.1.2, fun e => by have := h.2; rw [e] at this; simp at this⟩
theorem slotOf_ok {c : Cc} {x : Str} {i : Nat} (h : slotOf c x = some i) : okName x = true ∧ seen c.sc x = true ∧ c.N[i]? = some x := by
  unfold slotOf at h
  split at h
  · rename_i q
    rw [Bool.and_eq_true] at q
    exact ⟨q.1, q.2, slotIn_at h⟩
  · cases h
theorem setOf_ok {c : Cc} {x : Str} {i : Nat} (h : setOf c x = some i) : L2.Loc c.sc x ∧ (c.fn x = true ∨ c.sc.names.lookup x = some .local) ∧ c.N[i]? = some x := by
  unfold setOf at h
  split at h
  · rename_i q
    rw [Bool.and_eq_true, Bool.or_eq_true] at q
    exact ⟨isLoc_loc q.1, q.2.imp id plainLoc_loc, slotIn_at h⟩
  · cases h
/-! ### the context -/
structure CxB (G : Gd) (c : Cc) (C : Ora) (X : Cx) (W : WX) (k : Nat) : Prop where
  N : X.N = c.N
  nd : X.N.Nodup
  sc : X.env.scope = c.sc
  K : X.K = G.K
  calm : c.calm = true → X.calm = true ∧ RoomG (k + 1) X.A ∧ Takes X W
  un : X.A.units + 64 < cLine
  gd : X.A.guards = some []
  fn : ∀ x, c.fn x = true → X.fn x = true
  cons : ∀ x d, c.cons.lookup x = some d → ∃ u v, X.mg x = some u ∧ RelV v u ∧ ∀ m H, VR G m H v d
  fns : ∀ x i, c.fns.lookup x = some i → ∃ f, X.mg x = some (.ref f) ∧ G.FA i = some f
  free : ∀ x, isFree x = true → X.mg x = none
  prom : ∀ i f, G.FA i = some f → Prom X.prog X.w X.K X.mg X.base k f (spI G (C.fn i))
/-- .. with lambdas -/
structure CxOk (G : Gd) (c : Cc) (C : Ora) (X : Cx) (W : WX) (k : Nat) : Prop extends CxB G c C X W k where
  lam : c.top = true → ∀ (x : Str) (i : Nat) (ps : Arguments) (body : Expr) (scope : Scope) (p lpos pos : Pos) (eb : Ev D), c.lams.lookup x = some i → isGlob c.sc x = true → okName x = true → noParams ps = true → lamSB c.sc scope = true →
    (∀ X' W', CxB G (lamCc c scope) C X' W' k → EOk G X' W' body eb) → EOk G X W (.Call (.Name x p) [.Lambda ps body scope lpos] [] pos) fun τ S => C.lam i (fun S => eb τ S) S
theorem CxB.ok {c : Cc} {C : Ora} {k : Nat} (h : CxB G c C X W k) (ht : c.top = false) : CxOk G c C X W k := ⟨h, fun z => by rw [ht] at z; cases z⟩
end
end RA

set_option Elab.async false
set_option linter.all false
set_option maxRecDepth 100000
set_option maxHeartbeats 4000000
set_option autoImplicit false
/-! B13: an expression's tree reads as the interpreter has it. -/
namespace RA
open PySem PySem.Spec PyProof.Rows L2 LamX
section
variable {G : Gd} {X : Cx} {W : WX}
/-! ### targets -/
structure SetX (G : Gd) (c : Cc) (X : Cx) : Prop where
  N : X.N = c.N
  nd : X.N.Nodup
  sc : X.env.scope = c.sc
  K : X.K = G.K
  calm : c.calm = true → X.calm = true
  fn : ∀ x, c.fn x = true → X.fn x = true
theorem CxB.setX {c : Cc} {C : Ora} {k : Nat} (h : CxB G c C X W k) : SetX G c X := ⟨h.N, h.nd, h.sc, h.K, fun z => (h.calm z).1, h.fn⟩
theorem SetX.name {c : Cc} (s : SetX G c X) {x : Str} {i : Nat} {p : Pos} (h : setOf c x = some i) : PG X (.Name x p) (gName i) := by
  obtain ⟨h1, h2, h3⟩ := setOf_ok h
  exact pg_name s.nd (by rw [s.N]; exact h3) (by rw [s.sc]; exact h1) (by rw [s.sc]; exact h2.imp (s.fn x) id)
theorem names_ok {c : Cc} : ∀ {es : List Expr} {is : List Nat}, cNames c es = some is → es.length = is.length ∧ (∀ env, (assignEach es env).length = is.length ∧ ∀ q ∈ assignEach es env, q.1 = false) ∧ ∀ X, SetX G c X → PGs X es (gNames is)
  | [], is, h => by
    cases h
    exact ⟨rfl, fun env => ⟨rfl, fun q hq => nomatch hq⟩, fun X _ => pgs_nil⟩
  | e :: r, is, h => by
    cases e with
    | Name x p =>
      obtain ⟨i, h1, h⟩ := some_bind (show ((setOf c x).bind fun i => (cNames c r).map fun l => i :: l) = some is from h)
      obtain ⟨l, h2, rfl⟩ := Option.map_eq_some_iff.mp h
      obtain ⟨a1, a2, a3⟩ := names_ok h2
      refine ⟨by rw [List.length_cons, List.length_cons, a1], fun env => ⟨?_, fun q hq => ?_⟩, fun X s => pgs_cons (s.name h1) (a3 X s) rfl⟩
      · show (_ :: assignEach r env).length = _
        rw [List.length_cons, List.length_cons, (a2 env).1]
      · rcases List.mem_cons.mp (show q ∈ (false, _) :: assignEach r env from hq) with z | z
        · rw [z]
        · exact (a2 env).2 q z
    | _ => cases h
theorem target_ok {c : Cc} {tg : Expr} {tup : Bool} {is : List Nat} (h : cTarget c tg = some (tup, is)) : ∃ g, GW G g tup is ∧ ∀ X, SetX G c X → PG X tg g := by
  cases tg with
  | Name x p =>
    obtain ⟨i, h1, h2⟩ := Option.map_eq_some_iff.mp (show (setOf c x).map (fun i => (false, [i])) = some (tup, is) from h)
    cases h2
    exact ⟨gName i, gw_name i, fun X s => s.name h1⟩
  | Tuple es k p =>
    have h' : (if c.calm then (cNames c es).map fun l => (true, l) else none) = some (tup, is) := h
    split at h'
    · rename_i hc
      obtain ⟨l, h1, h2⟩ := Option.map_eq_some_iff.mp h'
      cases h2
      obtain ⟨a1, a2, a3⟩ := names_ok (G := G) h1
      refine ⟨gTup G.K is.length (gNames is), gw_tup rfl is rfl, fun X s => ?_⟩
      have := pg_tup (pos := p) (k := k) (s.calm hc) (a3 X s) (a2 X.env).1 (by
        rw [List.findIdx?_eq_none_iff]
        exact (a2 X.env).2)
      rw [s.K] at this
      exact this
    · cases h'
  | _ => cases h
/-! ### the contexts within -/
theorem CxB.blk {c : Cc} {C : Ora} {k : Nat} (h : CxB G c C X W k) (hc : c.calm = true) (scope : Scope) (s : Shared) (H : Hp) (cenv : Env) (fp : List Addr) (hs : cenv.scope = relS scope X.env.scope) : CxB G (blkCc c scope) C (X.blk s H scope cenv fp) WNo k where
  N := h.N
  nd := h.nd
  sc := by show cenv.scope = relS scope c.sc; rw [hs, h.sc]
  K := h.K
  calm := fun _ => ⟨(h.calm hc).1, (h.calm hc).2.1, L2.takes0⟩
  un := h.un
  gd := h.gd
  fn := fun x z => z
  cons := h.cons
  fns := h.fns
  free := h.free
  prom := h.prom
theorem evalEs_len {C : Ora} : ∀ {es : List E} {τ : Sig} {S S' : Store} {ds : List D}, evalEs C es τ S = .ok ds S' → ds.length = es.length
  | [], τ, S, S', ds, h => by cases h; rfl
  | e :: r, τ, S, S', ds, h => by
    replace h : ((evalE C e τ S).bind fun d S => (evalEs C r τ S).bind fun ds S => .ok (d :: ds) S) = .ok ds S' := h
    cases e1 : evalE C e τ S with
    | bad => rw [e1] at h; cases h
    | exc x S1 => rw [e1] at h; cases h
    | ok d S1 =>
      rw [e1, r_ok] at h
      cases e2 : evalEs C r τ S1 with
      | bad => rw [e2] at h; cases h
      | exc x S2 => rw [e2] at h; cases h
      | ok l S2 =>
        rw [e2, r_ok] at h
        cases h
        rw [List.length_cons, List.length_cons, evalEs_len e2]
/-- a comprehension's parts -/
def CompOk (G : Gd) (X : Cx) (W : WX) (elt : Expr) (gs : List Comprehension) (scope : Scope) (ev : Ev D) : Prop :=
  ∃ (tg iter : Expr) (ifs : List Expr) (own : List (Str × Nat)) (tup : Bool) (is : List Nat) (g : TG) (ei : Ev (List D × Option Nat)) (ef ee : Ev D), gs = [⟨tg, iter, ifs, 0⟩] ∧ X.calm = true ∧ IOk G X W tg iter ei ∧ BlkOk X.N X.env.scope scope own ∧ (∀ i ∈ is, i ∈ own.map (·.2)) ∧ GW G g tup is ∧
    (∀ (s : Shared) (H : Hp) (C : Addr) (cl : List (Str × Addr)) (fp : List Addr), PG (X.blk s H scope (compEnvC scope cl C X.env) fp) tg g) ∧
    (∀ (s : Shared) (H : Hp) (C : Addr) (cl : List (Str × Addr)) (fp : List Addr), PTs (X.blk s H scope (compEnvC scope cl C X.env) fp) ifs (rdB G WNo ef)) ∧
    (∀ (s : Shared) (H : Hp) (C : Addr) (cl : List (Str × Addr)) (fp : List Addr), EOk G (X.blk s H scope (compEnvC scope cl C X.env) fp) WNo elt ee) ∧ (∀ x, foldedSetIterable iter X.env x = pure x) ∧
    ∀ τ S, ev τ S = compEv (own.map (·.2)) tup is ei ef ee τ S
theorem FOk.congr {e : Expr} {ev ev' : Ev D} (h : FOk G X W e ev) (q : ∀ τ S, ev' τ S = ev τ S) : FOk G X W e ev' := by
  have : ev' = ev := funext fun τ => funext fun S => q τ S
  rw [this]; exact h
theorem CompOk.fok {elt : Expr} {gs : List Comprehension} {scope : Scope} {pos : Pos} {ev : Ev D} (h : CompOk G X W elt gs scope ev) (hN : X.N.Nodup) : FOk G X W (.ListComp elt gs scope pos) ev := by
  obtain ⟨tg, iter, ifs, own, tup, is, g, ei, ef, ee, rfl, hc, h1, h2, h3, h4, h5, h6, h7, h8, h9⟩ := h
  exact FOk.congr (f_comp hc hN h1 h2 h3 h4 h5 h6 h7 h8) h9
theorem comp_lists (own : List Nat) (tup : Bool) (is : List Nat) (ei : Ev (List D × Option Nat)) (ef ee : Ev D) : Lists (compEv own tup is ei ef ee) := fun τ S d S' e => by
  unfold compEv at e
  cases e1 : ei τ S with
  | bad => rw [e1] at e; cases e
  | exc x S1 => rw [e1] at e; cases e
  | ok it S1 =>
    rw [e1, r_ok] at e
    cases e2 : compL (compG tup own is ef ee τ) (fun S => still S it) it.1 S1 [] with
    | bad => rw [e2] at e; cases e
    | exc x S1 => rw [e2] at e; cases e
    | ok l S2 =>
      rw [e2] at e
      cases e
      exact ⟨l, rfl⟩
theorem CompOk.lists {elt : Expr} {gs : List Comprehension} {scope : Scope} {ev : Ev D} (h : CompOk G X W elt gs scope ev) : Lists ev := by
  obtain ⟨tg, iter, ifs, own, tup, is, g, ei, ef, ee, rfl, hc, h1, h2, h3, h4, h5, h6, h7, h8, h9⟩ := h
  intro τ S d S' e
  rw [h9] at e
  exact comp_lists _ _ _ _ _ _ _ _ _ _ e
theorem pts_b0 {X : Cx} : PTs X [] (rdB G W fun _ S => .ok (.bl true) S) := ⟨fun pins s σ H Q I ⟨m, S, τ, c, sr, p⟩ => pts_nil.run pins s σ H Q I (p true m H c Stp.refl rfl)⟩
/-! ### the built-in functions -/
theorem ite_or {α : Type} {p : Prop} [Decidable p] {a f : α} {b : Option α} (h : (if p then some a else b) = some f) : (p ∧ f = a) ∨ b = some f := by
  by_cases hp : p
  · rw [if_pos hp] at h; cases h; exact .inl ⟨hp, rfl⟩
  · rw [if_neg hp] at h; exact .inr h
theorem blt_cases {x : Str} {f : BF} (h : bltOf x = some f) : (x = "len" ∧ f = .len) ∨ (x = "abs" ∧ f = .abs) ∨ (x = "max" ∧ f = .max) ∨ (x = "min" ∧ f = .min) ∨ (x = "sum" ∧ f = .sum) ∨ (x = "all" ∧ f = .all) ∨ (x = "any" ∧ f = .any) ∨ (x = "tuple" ∧ f = .tuple) ∨ (x = "list" ∧ f = .list) ∨ (x = "int" ∧ f = .int) ∨ (x = "str" ∧ f = .str) ∨ (x = "repr" ∧ f = .repr) ∨ (x = "isinstance" ∧ f = .isinst) := by
  unfold bltOf at h
  exact (ite_or h).imp id fun h => (ite_or h).imp id fun h => (ite_or h).imp id fun h => (ite_or h).imp id fun h => (ite_or h).imp id fun h => (ite_or h).imp id fun h => (ite_or h).imp id fun h => (ite_or h).imp id fun h => (ite_or h).imp id fun h => (ite_or h).imp id fun h => (ite_or h).imp id fun h => (ite_or h).imp id fun h => (ite_or h).elim id fun h => by cases h
theorem ty_cases {x : Str} {t : String} (h : tyName x = some t) : (x = "int" ∧ t = "int") ∨ (x = "str" ∧ t = "str") ∨ (x = "bool" ∧ t = "bool") ∨ (x = "tuple" ∧ t = "tuple") ∨ (x = "list" ∧ t = "list") ∨ (x = "dict" ∧ t = "dict") := by
  unfold tyName at h
  exact (ite_or h).imp id fun h => (ite_or h).imp id fun h => (ite_or h).imp id fun h => (ite_or h).imp id fun h => (ite_or h).imp id fun h => (ite_or h).elim id fun h => by cases h
theorem blt_free {x : Str} {f : BF} (h : bltOf x = some f) : isFree x = true := by
  rcases blt_cases h with ⟨rfl, _⟩ | ⟨rfl, _⟩ | ⟨rfl, _⟩ | ⟨rfl, _⟩ | ⟨rfl, _⟩ | ⟨rfl, _⟩ | ⟨rfl, _⟩ | ⟨rfl, _⟩ | ⟨rfl, _⟩ | ⟨rfl, _⟩ | ⟨rfl, _⟩ | ⟨rfl, _⟩ | ⟨rfl, _⟩ <;> decide +kernel
theorem ty_free {x : Str} {t : String} (h : tyName x = some t) : isFree x = true := by
  rcases ty_cases h with ⟨rfl, _⟩ | ⟨rfl, _⟩ | ⟨rfl, _⟩ | ⟨rfl, _⟩ | ⟨rfl, _⟩ | ⟨rfl, _⟩ <;> decide +kernel
theorem e_callBF {c : Cc} {C : Ora} {k : Nat} (ok : CxB G c C X W k) {x : Str} {f : BF} (hcalm : x ≠ "repr" → x ≠ "str" → c.calm = true) (h : bltOf x = some f) {e : Expr} {es : List Expr} {ees : Ev (List D)} {p pos : Pos} (hg : Gl X x) (ha : AOk G X W (e :: es) ees)
    (hn : x ≠ "__name__") (hdb : (x == ("__debug__" : Str)) = false) (he : starEach (e :: es) X.env = (false, eval e X.env) :: starEach es X.env) (hpl : (backTo pos (starEach es X.env)).any (·.1) = false) :
    EOk G X W (.Call (.Name x p) (e :: es) [] pos) fun τ S => (ees τ S).bind fun ds S => RA.lift S (bcall S f ds) := by
  have hm : X.mg x = none := ok.free x (blt_free h)
  rcases blt_cases h with ⟨rfl, rfl⟩ | ⟨rfl, rfl⟩ | ⟨rfl, rfl⟩ | ⟨rfl, rfl⟩ | ⟨rfl, rfl⟩ | ⟨rfl, rfl⟩ | ⟨rfl, rfl⟩ | ⟨rfl, rfl⟩ | ⟨rfl, rfl⟩ | ⟨rfl, rfl⟩ | ⟨rfl, rfl⟩ | ⟨rfl, rfl⟩ | ⟨rfl, rfl⟩
  · exact e_blt (bD_len ok.K) hg hm rfl ha hn hdb he hpl
  · exact e_blt bD_abs hg hm rfl ha hn hdb he hpl
  · obtain ⟨cal, rm, tk⟩ := ok.calm (hcalm (by decide) (by decide))
    have hh := rm.room.hd
    exact e_blt (bD_max ok.K ok.un cal hh) hg hm rfl ha hn hdb he hpl
  · obtain ⟨cal, rm, tk⟩ := ok.calm (hcalm (by decide) (by decide))
    have hh := rm.room.hd
    exact e_blt (bD_min ok.K ok.un cal hh) hg hm rfl ha hn hdb he hpl
  · obtain ⟨cal, rm, tk⟩ := ok.calm (hcalm (by decide) (by decide))
    have hh := rm.room.hd
    exact e_blt (bD_sum cal) hg hm rfl ha hn hdb he hpl
  · obtain ⟨cal, rm, tk⟩ := ok.calm (hcalm (by decide) (by decide))
    have hh := rm.room.hd
    exact e_blt (bD_all cal) hg hm rfl ha hn hdb he hpl
  · obtain ⟨cal, rm, tk⟩ := ok.calm (hcalm (by decide) (by decide))
    have hh := rm.room.hd
    exact e_blt (bD_any cal) hg hm rfl ha hn hdb he hpl
  · exact e_bty (bD_tuple ok.K) hg hm rfl ha hn hdb he hpl
  · exact e_bty (bD_list ok.K) hg hm rfl ha hn hdb he hpl
  · exact e_bty bD_int hg hm rfl ha hn hdb he hpl
  · exact e_bty bD_str hg hm rfl ha hn hdb he hpl
  · exact e_blt (bD_repr ok.K ok.un ok.gd) hg hm rfl ha hn hdb he hpl
  · exact e_blt (bD_isinst ok.K) hg hm rfl ha hn hdb he hpl
/-! ### what is proved of the fuel n -/
structure Snd (G : Gd) (n : Nat) : Prop where
  e : ∀ {c C X W k e ir}, CxOk G c C X W k → cE n c e = some ir → EOk G X W e (evalE C ir) ∧ (noTest e = false → TOk G X W e (evalE C ir))
  b : ∀ {c C X W k op vs pos ir}, CxOk G c C X W k → cB n c op vs = some ir → EOk G X W (.BoolOp op vs pos) (evalE C ir) ∧ PW X (.BoolOp op vs pos) (rdB G W (evalE C ir))
  es : ∀ {c C X W k es irs}, CxOk G c C X W k → cEs n c es = some irs → AOk G X W es (evalEs C irs) ∧ (∀ e ∈ es, isStar e = false) ∧ irs.length = es.length
  o : ∀ {c C X W k o ir}, CxOk G c C X W k → cO n c o = some ir → OOk G X W o (evalE C ir)
  call : ∀ {c C X W k x es p pos ir}, CxOk G c C X W k → cCall n c x es pos = some ir → EOk G X W (.Call (.Name x p) es [] pos) (evalE C ir)
  i : ∀ {c C X W k tg e sk irs}, CxOk G c C X W k → cI n c (isTuple tg) e = some (sk, irs) → IOk G X W tg e (fun τ S => (evalEs C irs τ S).bind fun ds S => RA.lift S (srcOf S sk ds)) ∧ ∀ env x, foldedSetIterable e env x = pure x
  l : ∀ {c C X W k elt gs scope ir}, CxOk G c C X W k → cL n c elt gs scope = some ir → CompOk G X W elt gs scope (evalE C ir)
  st : ∀ {c C X W k es ir}, CxOk G c C X W k → cStars n c es = some ir → AOk G X W es (itemsEv (evalE C ir)) ∧ ∀ τ S d S', evalE C ir τ S = .ok d S' → ∃ ds, d = .tup ds ∧ ds.length ≤ LINE
theorem snd_zero : Snd G 0 := ⟨fun _ h => (by cases h), fun _ h => (by cases h), fun _ h => (by cases h), fun _ h => (by cases h), fun _ h => (by cases h), fun _ h => (by cases h), fun _ h => (by cases h), fun _ h => (by cases h)⟩
end
end RA

set_option Elab.async false
set_option linter.all false
set_option maxRecDepth 100000
set_option maxHeartbeats 4000000
set_option autoImplicit false
/-! B14: an expression's tree, one more step. -/
namespace RA
open PySem PySem.Spec PyProof.Rows L2 LamX
section
variable {G : Gd} {X : Cx} {W : WX} {n : Nat} {c : Cc} {C : Ora} {k : Nat}
theorem snd_name (ok : CxOk G c C X W k) {x : Str} {p : Pos} {ir : E} (h : cName c x = some ir) : EOk G X W (.Name x p) (evalE C ir) := by
  unfold cName at h
  cases e1 : slotOf c x with
  | some i =>
    rw [e1] at h
    cases h
    obtain ⟨h1, h2, h3⟩ := slotOf_ok e1
    obtain ⟨n1, n2, n3⟩ := okName_1 h1
    exact EOk.congr (e_var (i := i) (by rw [ok.N]; exact h3) (by rw [ok.sc]; exact seen_vis h2) n1 n2) fun τ S => rfl
  | none =>
    rw [e1] at h
    dsimp only at h
    by_cases q : (okName x && isGlob c.sc x) = true
    case neg => rw [if_neg q] at h; cases h
    rw [if_pos q] at h
    rw [Bool.and_eq_true] at q
    obtain ⟨n1, n2, n3⟩ := okName_1 q.1
    have hg : Gl X x := by
      show X.env.scope.names.lookup x = _
      rw [ok.sc]; exact isGlob_gl q.2
    cases e2 : c.cons.lookup x with
    | some d =>
      rw [e2] at h
      cases h
      obtain ⟨u, v, h1, h2, h3⟩ := ok.cons x d e2
      exact EOk.congr (e_con (pe_glob hg h1 h2 n1) h3) fun τ S => rfl
    | none =>
      rw [e2] at h
      cases e3 : c.fns.lookup x with
      | some i =>
        rw [e3] at h
        cases h
        obtain ⟨f, h1, h2⟩ := ok.fns x i e3
        exact EOk.congr (e_con (pe_glob (v := .ref f) hg h1 rfl n1) fun m H => .fn h2) fun τ S => rfl
      | none =>
        rw [e3] at h
        obtain ⟨t, e4, e5⟩ := Option.map_eq_some_iff.mp h
        subst e5
        have hm : X.mg x = none := ok.free x (ty_free e4)
        have hv : bootBuiltins x = some (.type t) := by
          rcases ty_cases e4 with ⟨rfl, rfl⟩ | ⟨rfl, rfl⟩ | ⟨rfl, rfl⟩ | ⟨rfl, rfl⟩ | ⟨rfl, rfl⟩ | ⟨rfl, rfl⟩ <;> rfl
        exact EOk.congr (e_con (pe_bltn (v := .ty t) hg hm hv rfl n3 n1) fun m H => .ty t) fun τ S => rfl
/-- a value's truth is looked at, for these -/
theorem t_of (hK : X.K = G.K) {a : Expr} {ea : Ev D} (h : EOk G X W a ea) (he : ∀ whole, isTrue a X.env whole = (do let v ← whole; standAt a.pos; holding [v] (truthy v))) : EOk G X W a ea ∧ (noTest a = false → TOk G X W a ea) := ⟨h, fun _ => t_val hK h he⟩
theorem snd_B (s : Snd G n) {op : PySem.BoolOp} {vs : List Expr} {pos : Pos} {ir : E} (ok : CxOk G c C X W k) (h : cB (n + 1) c op vs = some ir) : EOk G X W (.BoolOp op vs pos) (evalE C ir) ∧ PW X (.BoolOp op vs pos) (rdB G W (evalE C ir)) := by
  match vs, h with
  | [a], h =>
    replace h : (if noTest a then none else cE n c a) = some ir := h
    by_cases hn : noTest a = true
    case pos => rw [if_pos hn] at h; cases h
    rw [if_neg hn] at h
    have hn' : noTest a = false := by simpa using hn
    obtain ⟨h1, h2⟩ := s.e ok h
    refine ⟨e_one h1, ?_⟩
    cases op with
    | And => exact t_and1 (h2 hn')
    | Or => exact t_or1 (h2 hn')
  | a :: b :: r, h =>
    replace h : (if noTest a then none else (cE n c a).bind fun x => (cB n c op (b :: r)).map fun y => boolE op x y) = some ir := h
    by_cases hn : noTest a = true
    case pos => rw [if_pos hn] at h; cases h
    rw [if_neg hn] at h
    have hn' : noTest a = false := by simpa using hn
    obtain ⟨x, e1, h⟩ := some_bind h
    obtain ⟨y, e2, h⟩ := Option.map_eq_some_iff.mp h
    obtain ⟨h1, h2⟩ := s.e ok e1
    obtain ⟨h3, h4⟩ := s.b (pos := pos) ok e2
    cases op with
    | And =>
      cases h
      exact ⟨EOk.congr (e_and ok.K h1 h3) fun τ S => rfl, t_and (h2 hn') h4⟩
    | Or =>
      cases h
      exact ⟨EOk.congr (e_or ok.K h1 h3) fun τ S => rfl, t_or (h2 hn') h4⟩
theorem snd_Es (s : Snd G n) {es : List Expr} {irs : List E} (ok : CxOk G c C X W k) (h : cEs (n + 1) c es = some irs) : AOk G X W es (evalEs C irs) ∧ (∀ e ∈ es, isStar e = false) ∧ irs.length = es.length := by
  match es, h with
  | [], h =>
    cases h
    exact ⟨a_nil, (fun e he => nomatch he), rfl⟩
  | e :: r, h =>
    replace h : (if isStar e then none else (cE n c e).bind fun x => (cEs n c r).map fun l => x :: l) = some irs := h
    by_cases hn : isStar e = true
    case pos => rw [if_pos hn] at h; cases h
    rw [if_neg hn] at h
    have hn' : isStar e = false := by simpa using hn
    obtain ⟨x, e1, h⟩ := some_bind h
    obtain ⟨l, e2, h⟩ := Option.map_eq_some_iff.mp h
    cases h
    obtain ⟨h3, h4, h5⟩ := s.es ok e2
    refine ⟨a_cons (s.e ok e1).1 h3 (star_ok hn'), fun e' he' => ?_, by rw [List.length_cons, List.length_cons, h5]⟩
    rcases List.mem_cons.mp he' with z | z
    · rw [z]; exact hn'
    · exact h4 e' z
theorem AOk.part {es : List Expr} {ev ev' : Ev (List D)} (h : AOk G X W es ev) (q : ∀ τ S, ev' τ S = .bad ∨ ev' τ S = ev τ S) : AOk G X W es ev' :=
  PA.weak h fun σ H Q ⟨m, S, τ, c, sr, p⟩ => ⟨m, S, τ, c, sr, by
    rcases q τ S with z | z
    · rw [z] at p; exact p.elim
    · rw [← z]; exact p⟩
theorem add_tups {S : Store} {a : List D} {d r : D} (h : binop S .add (.tup a) d = some r) : ∃ b, d = .tup b ∧ a.length + b.length ≤ LINE ∧ r = .tup (a ++ b) := by
  cases d with
  | tup b =>
    replace h : (if a.length + b.length ≤ LINE then some (D.tup (a ++ b)) else none) = some r := h
    by_cases hl : a.length + b.length ≤ LINE
    · rw [if_pos hl] at h; cases h; exact ⟨b, rfl, hl, rfl⟩
    · rw [if_neg hl] at h; cases h
  | _ => cases h
theorem add_items {S : Store} {a b : List D} (hl : a.length + b.length ≤ LINE) : binop S .add (.tup a) (.tup b) = some (.tup (a ++ b)) := if_pos hl
/-- the items a, then those of y -/
theorem stars_eq {C : Ora} {y : E} {a : List D} {τ : Sig} {S : Store} {r : Res D} (h : r = (evalE C y τ S).bind fun b S => RA.lift S (binop S .add (.tup a) b)) :
    (r.bind fun d S => match d with | .tup ds => .ok ds S | _ => .bad) = .bad ∨ (r.bind fun d S => match d with | .tup ds => Res.ok ds S | _ => .bad) = (itemsEv (evalE C y) τ S).bind fun ds S => .ok (a ++ ds) S := by
  subst h
  unfold itemsEv
  cases e : evalE C y τ S with
  | bad => exact .inl rfl
  | exc x S' => exact .inr rfl
  | ok d S' =>
    show ((RA.lift S' (binop S' .add (.tup a) d)).bind _) = .bad ∨ ((RA.lift S' (binop S' .add (.tup a) d)).bind _) = _
    cases z : binop S' .add (.tup a) d with
    | none => exact .inl rfl
    | some r =>
      obtain ⟨b, e1, _, e3⟩ := add_tups z
      subst e1 e3
      exact .inr rfl
theorem stars_tup {C : Ora} {y : E} {a : List D} {τ : Sig} {S S' : Store} {d : D} (h : ((evalE C y τ S).bind fun b S => RA.lift S (binop S .add (.tup a) b)) = .ok d S') : ∃ ds, d = .tup ds ∧ ds.length ≤ LINE := by
  cases e : evalE C y τ S with
  | bad => rw [e] at h; cases h
  | exc x S' => rw [e] at h; cases h
  | ok b S1 =>
    rw [e] at h
    replace h : RA.lift S1 (binop S1 .add (.tup a) b) = .ok d S' := h
    cases z : binop S1 .add (.tup a) b with
    | none => rw [z] at h; cases h
    | some r =>
      obtain ⟨b, _, e2, e3⟩ := add_tups z
      rw [z, e3] at h
      cases h
      exact ⟨_, rfl, by rw [List.length_append]; exact e2⟩
theorem snd_St (s : Snd G n) {es : List Expr} {ir : E} (ok : CxOk G c C X W k) (h : cStars (n + 1) c es = some ir) : AOk G X W es (itemsEv (evalE C ir)) ∧ ∀ τ S d S', evalE C ir τ S = .ok d S' → ∃ ds, d = .tup ds ∧ ds.length ≤ LINE := by
  have plain : ∀ e r, isStar e = false → ((cE n c e).bind fun x => (cStars n c r).map fun y => E.bin .add (.tup [x]) y) = some ir → AOk G X W (e :: r) (itemsEv (evalE C ir)) ∧ ∀ τ S d S', evalE C ir τ S = .ok d S' → ∃ ds, d = .tup ds ∧ ds.length ≤ LINE := by
    intro e r hs h
    obtain ⟨x, e1, h⟩ := some_bind h
    obtain ⟨y, e2, h⟩ := Option.map_eq_some_iff.mp h
    subst h
    obtain ⟨h1, h2⟩ := s.st ok e2
    refine ⟨AOk.part (a_cons (s.e ok e1).1 h1 (star_ok hs)) fun τ S => ?_, fun τ S d S' q => ?_⟩
    · show ((((((evalE C x τ S).bind fun d S => Res.ok [d] S).bind fun ds S => Res.ok (D.tup ds) S).bind fun a S => (evalE C y τ S).bind fun b S => RA.lift S (binop S .add a b)).bind fun d S => match d with | .tup ds => Res.ok ds S | _ => .bad) = .bad) ∨ _
      cases z : evalE C x τ S with
      | bad => exact .inl rfl
      | exc w S' => exact .inr (by unfold itemsEv; simp only [evalE, evalEs, z, Res.bind])
      | ok d S' =>
        rcases stars_eq (C := C) (y := y) (a := [d]) (τ := τ) (S := S') rfl with q | q
        · exact .inl q
        · refine .inr ?_
          unfold itemsEv at q ⊢
          simp only [evalE, evalEs, z, Res.bind] at q ⊢
          exact q
    · replace q : ((((evalE C x τ S).bind fun d S => Res.ok [d] S).bind fun ds S => Res.ok (D.tup ds) S).bind fun a S => (evalE C y τ S).bind fun b S => RA.lift S (binop S .add a b)) = .ok d S' := q
      cases z : evalE C x τ S with
      | bad => rw [z] at q; cases q
      | exc w S' => rw [z] at q; cases q
      | ok d' S1 =>
        rw [z] at q
        exact stars_tup q
  match es, h with
  | [], h =>
    cases h
    exact ⟨AOk.congr a_nil fun τ S => rfl, fun τ S d S' e => by cases e; exact ⟨[], rfl, Nat.zero_le _⟩⟩
  | e :: r, h =>
    by_cases hs : isStar e = true
    case neg =>
      have q : cStars (n + 1) c (e :: r) = (if isStar e then none else (cE n c e).bind fun x => (cStars n c r).map fun y => E.bin .add (.tup [x]) y) := by
        cases e <;> first | rfl | exact absurd rfl hs
      rw [q, if_neg hs] at h
      exact plain e r (by simpa using hs) h
    case pos =>
      cases e <;> first | (cases hs; done) | skip
      rename_i e p
      replace h : ((cE n c e).bind fun x => (cStars n c r).map fun y => E.bin .add (.bcall .tuple [x]) y) = some ir := h
      obtain ⟨x, e1, h⟩ := some_bind h
      obtain ⟨y, e2, h⟩ := Option.map_eq_some_iff.mp h
      subst h
      obtain ⟨h1, h2⟩ := s.st ok e2
      refine ⟨AOk.part (a_star ok.K (s.e ok e1).1 h1) fun τ S => ?_, fun τ S d S' q => ?_⟩
      · cases z : evalE C x τ S with
        | bad => exact .inl (by unfold itemsEv; simp only [evalE, evalEs, z, Res.bind])
        | exc w S' => exact .inr (by unfold itemsEv; simp only [evalE, evalEs, z, Res.bind])
        | ok d S' =>
          cases w : asQ S' d with
          | none => exact .inl (by unfold itemsEv; simp only [evalE, evalEs, z, Res.bind, bcall, one, w, Option.map, RA.lift])
          | some xs =>
            rcases stars_eq (C := C) (y := y) (a := xs) (τ := τ) (S := S') rfl with q | q
            · refine .inl ?_
              unfold itemsEv
              simp only [evalE, evalEs, z, Res.bind, bcall, one, w, Option.map, RA.lift] at q ⊢
              exact q
            · refine .inr ?_
              unfold itemsEv at q ⊢
              simp only [evalE, evalEs, z, Res.bind, bcall, one, w, Option.map, RA.lift] at q ⊢
              exact q
      · cases z : evalE C x τ S with
        | bad => simp only [evalE, evalEs, z, Res.bind] at q; cases q
        | exc w S' => simp only [evalE, evalEs, z, Res.bind] at q; cases q
        | ok d' S1 =>
          simp only [evalE, evalEs, z, Res.bind, bcall, one] at q
          cases w : asQ S1 d' with
          | none => simp only [w, Option.map, RA.lift] at q; cases q
          | some xs =>
            simp only [w, Option.map, RA.lift] at q
            exact stars_tup q
theorem snd_O (s : Snd G n) {o : Option Expr} {ir : E} (ok : CxOk G c C X W k) (h : cO (n + 1) c o = some ir) : OOk G X W o (evalE C ir) := by
  match o, h with
  | none, h =>
    cases h
    exact o_none
  | some e, h =>
    obtain ⟨x, e1, h⟩ := Option.map_eq_some_iff.mp (show (cE n c e).map E.ofInt = some ir from h)
    subst h
    exact o_some (s.e ok e1).1
theorem noParams_ok {ps : Arguments} (h : noParams ps = true) : ps = ⟨[], [], none, [], [], none, []⟩ := by
  unfold noParams at h
  split at h
  · rfl
  · cases h
theorem snd_call (s : Snd G n) {x : Str} {es : List Expr} {p pos : Pos} {ir : E} (ok : CxOk G c C X W k) (h : cCall (n + 1) c x es pos = some ir) : EOk G X W (.Call (.Name x p) es [] pos) (evalE C ir) := by
  unfold cCall at h
  by_cases hx : (!okName x) = true
  case pos => rw [if_pos hx] at h; cases h
  rw [if_neg hx] at h
  have hx' : okName x = true := by simpa using hx
  obtain ⟨n1, n2, n3⟩ := okName_1 hx'
  have key : ∀ (e : Expr) (r : List Expr), (if !c.calm && !(x = "repr" || x = "str") then none else match slotOf c x with
      | some i => if c.calm then (cEs n c (e :: r)).map fun l => E.callv (.var i) l else none
      | none => if isGlob c.sc x then (match c.fns.lookup x with
        | some i => if c.calm then (cEs n c (e :: r)).map fun l => E.call i l else none
        | none => (bltOf x).bind fun f => (cEs n c (e :: r)).bind fun l => if isNew c pos then (if f = .list then some (E.new (.bcall f l)) else none) else some (.bcall f l)) else none) = some ir → EOk G X W (.Call (.Name x p) (e :: r) [] pos) (evalE C ir) := by
    intro e r h
    by_cases hq : (!c.calm && !(x = "repr" || x = "str")) = true
    case pos => rw [if_pos hq] at h; cases h
    rw [if_neg hq] at h
    have hcalm : x ≠ "repr" → x ≠ "str" → c.calm = true := fun z1 z2 => by
      cases hc : c.calm with
      | true => rfl
      | false => exact absurd (by rw [hc]; simp [z1, z2]) hq
    cases e1 : slotOf c x with
    | some i =>
      rw [e1] at h
      dsimp only at h
      by_cases hc : c.calm = true
      case neg => rw [if_neg hc] at h; cases h
      · rw [if_pos hc] at h
        obtain ⟨l, e2, h⟩ := Option.map_eq_some_iff.mp h
        subst h
        obtain ⟨h1, h2, h3⟩ := slotOf_ok e1
        obtain ⟨a1, a2, a3⟩ := s.es ok e2
        obtain ⟨cal, rm', tk⟩ := ok.calm hc
        have rm := rm'.mono (Nat.le_succ k)
        exact EOk.congr (e_callv (fn := C.fn) ok.prom rm tk (by rw [ok.N]; exact h3) (by rw [ok.sc]; exact seen_vis h2) a1 n1 n2 (star_ok (a2 e List.mem_cons_self)) (stars_ok fun e' he => a2 e' (List.mem_cons_of_mem _ he))) fun τ S => rfl
    | none =>
      rw [e1] at h
      dsimp only at h
      by_cases hgl : isGlob c.sc x = true
      case neg => rw [if_neg hgl] at h; cases h
      rw [if_pos hgl] at h
      have hg : Gl X x := by
        show X.env.scope.names.lookup x = _
        rw [ok.sc]; exact isGlob_gl hgl
      cases e3 : c.fns.lookup x with
      | some i =>
        rw [e3] at h
        dsimp only at h
        by_cases hc : c.calm = true
        case neg => rw [if_neg hc] at h; cases h
        · rw [if_pos hc] at h
          obtain ⟨l, e2, h⟩ := Option.map_eq_some_iff.mp h
          subst h
          obtain ⟨f, h1, h2⟩ := ok.fns x i e3
          obtain ⟨a1, a2, a3⟩ := s.es ok e2
          obtain ⟨cal, rm', tk⟩ := ok.calm hc
          have rm := rm'.mono (Nat.le_succ k)
          exact EOk.congr (e_call (ev := C.fn i) (ok.prom i f h2) rm tk hg h1 a1 n1 (star_ok (a2 e List.mem_cons_self)) (stars_ok fun e' he => a2 e' (List.mem_cons_of_mem _ he))) fun τ S => rfl
        | none =>
        rw [e3] at h
        obtain ⟨f, e4, h⟩ := some_bind h
        obtain ⟨l, e2, h⟩ := some_bind h
        obtain ⟨a1, a2, a3⟩ := s.es ok e2
        have b1 := star_ok (env := X.env) (es := r) (a2 e List.mem_cons_self)
        have b2 := stars_ok (env := X.env) (pos := pos) fun e' he => a2 e' (List.mem_cons_of_mem _ he)
        by_cases hnew : isNew c pos = true
        · rw [if_pos hnew] at h
          by_cases hf : f = .list
          case neg => rw [if_neg hf] at h; cases h
          rw [if_pos hf] at h
          cases h
          subst hf
          have hxl : x = "list" := by rcases blt_cases e4 with z | z | z | z | z | z | z | z | z | z | z | z | z <;> first | exact z.1 | cases z.2
          subst hxl
          exact EOk.congr (e_new (f_list ok.K hg (ok.free _ (by decide +kernel)) a1 b1 b2)) fun τ S => rfl
        · rw [if_neg hnew] at h
          cases h
          exact EOk.congr (e_callBF ok.toCxB hcalm e4 hg a1 n3 n1 b1 b2) fun τ S => rfl
  match es, h with
  | [], h => cases h
  | [e], h =>
    cases e with
    | Lambda ps body scope lpos =>
      replace h : (if c.top && isGlob c.sc x && noParams ps && lamSB c.sc scope then (c.lams.lookup x).bind fun i => (cE n (lamCc c scope) body).map fun b => E.lam i b else none) = some ir := h
      by_cases hq : (c.top && isGlob c.sc x && noParams ps && lamSB c.sc scope) = true
      case neg => rw [if_neg hq] at h; cases h
      rw [if_pos hq] at h
      simp only [Bool.and_eq_true] at hq
      obtain ⟨i, e1, h⟩ := some_bind h
      obtain ⟨b, e2, h⟩ := Option.map_eq_some_iff.mp h
      subst h
      exact EOk.congr (ok.lam hq.1.1.1 x i ps body scope p lpos pos (evalE C b) e1 hq.1.1.2 hx' hq.1.2 hq.2 fun X' W' ok' => (s.e (ok'.ok rfl) e2).1) fun τ S => rfl
    | _ => exact key _ [] h
  | e :: e2 :: r, h =>
    cases e <;> exact key _ (e2 :: r) h
end
end RA

set_option Elab.async false
set_option linter.all false
set_option maxRecDepth 100000
set_option maxHeartbeats 4000000
set_option autoImplicit false
/-! B15: an expression's tree reads as the interpreter has it. -/
namespace RA
open PySem PySem.Spec PyProof.Rows L2 LamX
section
variable {G : Gd} {X : Cx} {W : WX} {n : Nat} {c : Cc} {C : Ora} {k : Nat}
theorem IOk.congr {tg e : Expr} {ev ev' : Ev (List D × Option Nat)} (h : IOk G X W tg e ev) (q : ∀ τ S, ev' τ S = ev τ S) : IOk G X W tg e ev' := by
  have : ev' = ev := funext fun τ => funext fun S => q τ S
  rw [this]; exact h
theorem i_valR (s : Snd G n) {tg e : Expr} {y : E} (ok : CxOk G c C X W k) (h : cE n c e = some y) (hs : isSet e = false) :
    IOk G X W tg e (fun τ S => (evalEs C [y] τ S).bind fun ds S => RA.lift S (srcOf S .val ds)) ∧ ∀ env x, foldedSetIterable e env x = pure x := by
  refine ⟨IOk.congr (i_val ok.K (s.e ok h).1) fun τ S => ?_, fun env x => ?_⟩
  · show ((evalE C y τ S).bind fun d S => (Res.ok [] S).bind fun ds S => .ok (d :: ds) S).bind _ = _
    rw [bind_assoc]
    rfl
  · cases e <;> first | rfl | cases hs
theorem snd_I (s : Snd G n) {tg e : Expr} {sk : SK} {irs : List E} (ok : CxOk G c C X W k) (h : cI (n + 1) c (isTuple tg) e = some (sk, irs)) :
    IOk G X W tg e (fun τ S => (evalEs C irs τ S).bind fun ds S => RA.lift S (srcOf S sk ds)) ∧ ∀ env x, foldedSetIterable e env x = pure x := by
  have val : (cE n c e).map (fun y => (SK.val, [y])) = some (sk, irs) → isSet e = false → (IOk G X W tg e (fun τ S => (evalEs C irs τ S).bind fun ds S => RA.lift S (srcOf S sk ds)) ∧ ∀ env x, foldedSetIterable e env x = pure x) := fun h hs => by
    obtain ⟨y, e1, e2⟩ := Option.map_eq_some_iff.mp h
    cases e2
    exact i_valR (tg := tg) (X := X) (W := W) s ok e1 hs
  have gl : ∀ {x : Str}, isGlob c.sc x = true → Gl X x := fun q => by
    show X.env.scope.names.lookup _ = _
    rw [ok.sc]; exact isGlob_gl q
  unfold cI at h
  split at h
  · rename_i x p a pos
    by_cases q : (decide (x = "range") && isGlob c.sc x && !isStar a) = true
    · rw [if_pos q] at h
      simp only [Bool.and_eq_true, decide_eq_true_eq, Bool.not_eq_true'] at q
      obtain ⟨⟨rfl, q2⟩, q3⟩ := q
      obtain ⟨y, e1, e2⟩ := Option.map_eq_some_iff.mp h
      cases e2
      exact ⟨IOk.congr (i_rng1 (gl q2) (ok.free _ (by decide +kernel)) (a_cons (s.e ok e1).1 a_nil (star_ok q3)) (star_ok q3)) fun τ S => rfl, fun _ _ => rfl⟩
    rw [if_neg q] at h
    by_cases q : (decide (x = "enumerate") && isGlob c.sc x && !isStar a && isTuple tg) = true
    · rw [if_pos q] at h
      simp only [Bool.and_eq_true, decide_eq_true_eq, Bool.not_eq_true'] at q
      obtain ⟨⟨⟨rfl, q2⟩, q3⟩, q4⟩ := q
      obtain ⟨y, e1, e2⟩ := Option.map_eq_some_iff.mp h
      cases e2
      cases tg with
      | Tuple elts kk tpos => exact ⟨IOk.congr (i_enum ok.K (gl q2) (ok.free _ (by decide +kernel)) (a_cons (s.e ok e1).1 a_nil (star_ok q3)) (star_ok q3)) fun τ S => rfl, fun _ _ => rfl⟩
      | _ => cases q4
    · rw [if_neg q] at h
      exact val h rfl
  · rename_i x p a b pos
    by_cases q : (decide (x = "range") && isGlob c.sc x && !isStar a && !isStar b) = true
    · rw [if_pos q] at h
      simp only [Bool.and_eq_true, decide_eq_true_eq, Bool.not_eq_true'] at q
      obtain ⟨⟨⟨rfl, q2⟩, q3⟩, q4⟩ := q
      obtain ⟨y, e1, h⟩ := some_bind h
      obtain ⟨z, e2, e3⟩ := Option.map_eq_some_iff.mp h
      cases e3
      refine ⟨IOk.congr (i_rng2 (gl q2) (ok.free _ (by decide +kernel)) (a_cons (s.e ok e1).1 (a_cons (s.e ok e2).1 a_nil (star_ok q4)) (star_ok q3)) ?_ (star_ok q4)) fun τ S => rfl, fun _ _ => rfl⟩
      rw [star_ok q3, star_ok q4]
      rfl
    rw [if_neg q] at h
    by_cases q : (decide (x = "zip") && isGlob c.sc x && !isStar a && !isStar b && isTuple tg) = true
    · rw [if_pos q] at h
      simp only [Bool.and_eq_true, decide_eq_true_eq, Bool.not_eq_true'] at q
      obtain ⟨⟨⟨⟨rfl, q2⟩, q3⟩, q4⟩, q5⟩ := q
      obtain ⟨y, e1, h⟩ := some_bind h
      obtain ⟨z, e2, e3⟩ := Option.map_eq_some_iff.mp h
      cases e3
      cases tg with
      | Tuple elts kk tpos => exact ⟨IOk.congr (i_zip ok.K (gl q2) (ok.free _ (by decide +kernel)) (a_cons (s.e ok e1).1 (a_cons (s.e ok e2).1 a_nil (star_ok q4)) (star_ok q3)) (star_ok q3) (stars_ok fun e he => by rw [List.mem_singleton.mp he]; exact q4)) fun τ S => rfl, fun _ _ => rfl⟩
      | _ => cases q5
    · rw [if_neg q] at h
      exact val h rfl
  · cases h
  · rename_i h1 h2 h3
    refine val h ?_
    cases e <;> first | rfl | exact absurd rfl (h3 _ _ _)
theorem own_ix (N : List Str) (scope : Scope) : (ownOf N scope).map (·.2) = ownIx N scope := rfl
theorem snd_L (s : Snd G n) {elt : Expr} {gs : List Comprehension} {scope : Scope} {ir : E} (ok : CxOk G c C X W k) (h : cL (n + 1) c elt gs scope = some ir) : CompOk G X W elt gs scope (evalE C ir) := by
  unfold cL at h
  by_cases hc : (!c.calm) = true
  case pos => rw [if_pos hc] at h; cases h
  rw [if_neg hc] at h
  have hc' : c.calm = true := by simpa using hc
  split at h
  case h_2 => cases h
  rename_i tg iter ifs
  obtain ⟨⟨sk, irs⟩, e1, h⟩ := some_bind h
  by_cases hb : L2.blkC c.N c.sc scope (ownOf c.N scope) = true
  case neg => rw [if_neg hb] at h; cases h
  rw [if_pos hb] at h
  obtain ⟨⟨tup, is⟩, e2, h⟩ := some_bind h
  by_cases ho : (is.all fun i => (ownIx c.N scope).contains i) = true
  case neg => rw [if_neg ho] at h; cases h
  rw [if_pos ho] at h
  obtain ⟨f, e3, h⟩ := some_bind h
  obtain ⟨y, e4, h⟩ := Option.map_eq_some_iff.mp h
  subst h
  obtain ⟨i1, i2⟩ := s.i (tg := tg) ok e1
  obtain ⟨g, g1, g2⟩ := target_ok (G := G) e2
  have bo : ∀ (s : Shared) (H : Hp) (CC : Addr) (cl : List (Str × Addr)) (fp : List Addr), CxB G (blkCc c scope) C (X.blk s H scope (compEnvC scope cl CC X.env) fp) WNo k := fun s H CC cl fp => ok.toCxB.blk hc' scope s H _ fp rfl
  refine ⟨tg, iter, ifs, ownOf c.N scope, tup, is, g, _, evalE C f, evalE C y, rfl, (ok.calm hc').1, i1, by rw [ok.N, ok.sc]; exact blkOk_by hb, fun i hi => ?_, g1, fun s' H CC cl fp => g2 _ (bo s' H CC cl fp).setX, fun s' H CC cl fp => ?_, fun s' H CC cl fp => (s.e ((bo s' H CC cl fp).ok rfl) e4).1, fun x => i2 _ x, fun τ S => ?_⟩
  · have := List.all_eq_true.mp ho i hi
    rw [own_ix]
    simpa using this
  · match ifs, e3 with
    | [], e3 =>
      cases e3
      exact pts_b0
    | [t], e3 =>
      replace e3 : (if noTest t then none else cE n (blkCc c scope) t) = some f := e3
      by_cases hn : noTest t = true
      case pos => rw [if_pos hn] at e3; cases e3
      rw [if_neg hn] at e3
      exact pts_one ((s.e ((bo s' H CC cl fp).ok rfl) e3).2 (by simpa using hn))
    | _ :: _ :: _, e3 => cases e3
  · show ((evalEs C irs τ S).bind fun ds S => match srcOf S sk ds with
      | none => Res.bad
      | some it => (compL (compG tup (ownIx c.N scope) is (evalE C f) (evalE C y) τ) (fun S => still S it) it.1 S []).bind fun l S => .ok (D.vl l) S) = _
    unfold compEv
    rw [bind_assoc]
    cases evalEs C irs τ S with
    | bad => rfl
    | exc x S' => rfl
    | ok ds S' =>
      rw [r_ok, r_ok]
      cases srcOf S' sk ds <;> rfl
end
end RA

set_option Elab.async false
set_option linter.all false
set_option maxRecDepth 100000
set_option maxHeartbeats 4000000
set_option autoImplicit false
/-! B16: .. the step, all fuels. -/
namespace RA
open PySem PySem.Spec PyProof.Rows L2 LamX
section
variable {G : Gd} {X : Cx} {W : WX} {n : Nat} {c : Cc} {C : Ora} {k : Nat}
theorem neg_of {b : Bool} (h : ¬ b = true) : b = false := by simpa using h
theorem setArg_some {x : Str} {es : List Expr} {a : Expr} (h : setArg x es = some a) : x = "sorted" ∧ ∃ p q, es = [.Call (.Name "set" p) [a] [] q] := by
  unfold setArg at h
  split at h
  · split at h
    · rename_i g
      simp only [Bool.and_eq_true, decide_eq_true_eq] at g
      obtain ⟨rfl, rfl⟩ := g
      cases h
      exact ⟨rfl, _, _, rfl⟩
    · cases h
  · cases h
theorem lst_lists {ees : Ev (List D)} : Lists fun τ S => (ees τ S).bind fun ds S => Res.ok (.vl ds) S := fun τ S d S' e => by
  dsimp only at e
  cases e1 : ees τ S with
  | bad => rw [e1] at e; cases e
  | exc x S1 => rw [e1] at e; cases e
  | ok ds S1 =>
    rw [e1] at e
    cases e
    exact ⟨ds, rfl⟩
theorem binF (hK : X.K = G.K) {op : Operator} {o : BOp} (h : bopOf op = some o) (ho : o = .add ∨ o = .mul) : OpR X (binaryOp op) (rDF G fun S => binop S o) := by
  rcases ho with rfl | rfl
  · cases op <;> first | exact opD_addF hK | cases h
  · cases op <;> first | exact opD_mulF | cases h
theorem snd_E (s : Snd G n) {e : Expr} {ir : E} (ok : CxOk G c C X W k) (h : cE (n + 1) c e = some ir) : EOk G X W e (evalE C ir) ∧ (noTest e = false → TOk G X W e (evalE C ir)) := by
  cases e with
  | Name x p => exact t_of ok.K (snd_name ok h) fun _ => rfl
  | Constant v j p =>
    obtain ⟨d, e1, h⟩ := Option.map_eq_some_iff.mp (show (cConst v).map E.con = some ir from h)
    subst h
    refine t_of ok.K ?_ fun _ => rfl
    cases v <;> first | (cases e1; done) | skip
    all_goals cases e1
    · exact EOk.congr (e_con pe_non fun _ _ => .non) fun τ S => rfl
    · exact EOk.congr (e_con pe_bl fun _ _ => .bl _) fun τ S => rfl
    · exact EOk.congr (e_con pe_int fun _ _ => .int _) fun τ S => rfl
    · exact EOk.congr (e_con pe_str fun _ _ => .str _) fun τ S => rfl
  | BinOp a op b pos =>
    obtain ⟨o, e1, h⟩ := some_bind (show ((bopOf op).bind fun o => (cE n c a).bind fun x => (cE n c b).bind fun y => if isNew c pos then (if o = .add || o = .mul then some (E.new (.bin o x y)) else none) else some (.bin o x y)) = some ir from h)
    obtain ⟨x, e2, h⟩ := some_bind h
    obtain ⟨y, e3, h⟩ := some_bind h
    refine t_of ok.K ?_ fun _ => rfl
    by_cases hn : isNew c pos = true
    · rw [if_pos hn] at h
      by_cases ho : (decide (o = .add) || decide (o = .mul)) = true
      case neg => rw [if_neg ho] at h; cases h
      rw [if_pos ho] at h
      cases h
      have ho' : o = .add ∨ o = .mul := by simpa using ho
      refine EOk.congr (e_new (f_bin (binF ok.K e1 ho') (s.e ok e2).1 (s.e ok e3).1)) fun τ S => ?_
      show ((evalE C x τ S).bind fun d1 S => (evalE C y τ S).bind fun d2 S => RA.lift S (binop S o d1 d2)).bind _ = _
      simp only [bind_assoc]
      refine congrArg _ (funext fun d1 => funext fun S1 => congrArg _ (funext fun d2 => funext fun S2 => congrArg _ (funext fun d => funext fun S3 => ?_)))
      cases d <;> rfl
    · rw [if_neg hn] at h
      cases h
      exact EOk.congr (e_bin (opB ok.K e1) (s.e ok e2).1 (s.e ok e3).1) fun τ S => rfl
  | UnaryOp op a pos =>
    cases op with
    | Not =>
      obtain ⟨x, e1, h⟩ := some_bind (show ((cE n c a).bind fun x => if noTest a then none else some (E.not x)) = some ir from h)
      by_cases hn : noTest a = true
      case pos => rw [if_pos hn] at h; cases h
      rw [if_neg hn] at h
      cases h
      obtain ⟨h1, h2⟩ := s.e ok e1
      exact ⟨EOk.congr (e_not ok.K h1) fun τ S => rfl, fun _ => TOk.congr (t_not (h2 (neg_of hn))) fun τ S => rfl⟩
    | USub =>
      obtain ⟨x, e1, h⟩ := Option.map_eq_some_iff.mp (show (cE n c a).map E.neg = some ir from h)
      subst h
      exact t_of ok.K (EOk.congr (e_neg (s.e ok e1).1) fun τ S => rfl) fun _ => rfl
    | _ => cases h
  | BoolOp op vs pos =>
    obtain ⟨h1, h2⟩ := s.b (pos := pos) ok (show cB n c op vs = some ir from h)
    exact ⟨h1, fun _ => h2.pt⟩
  | IfExp t a b pos =>
    replace h : (if noTest t then none else (cE n c t).bind fun x => (cE n c a).bind fun y => (cE n c b).map fun z => E.ife x y z) = some ir := h
    by_cases hn : noTest t = true
    case pos => rw [if_pos hn] at h; cases h
    rw [if_neg hn] at h
    obtain ⟨x, e1, h⟩ := some_bind h
    obtain ⟨y, e2, h⟩ := some_bind h
    obtain ⟨z, e3, h⟩ := Option.map_eq_some_iff.mp h
    subst h
    exact ⟨EOk.congr (e_ife ((s.e ok e1).2 (neg_of hn)) (s.e ok e2).1 (s.e ok e3).1) fun τ S => rfl, fun z => by cases z⟩
  | Compare a ops bs pos =>
    match ops, bs, h with
    | [op], [b], h =>
      replace h : (if isSet b then none else (cE n c a).bind fun x => (cE n c b).map fun y => E.cmp (copOf op) x y) = some ir := h
      by_cases hs : isSet b = true
      case pos => rw [if_pos hs] at h; cases h
      rw [if_neg hs] at h
      obtain ⟨x, e1, h⟩ := some_bind h
      obtain ⟨y, e2, h⟩ := Option.map_eq_some_iff.mp h
      subst h
      have hm := mark_ok (op := op) (neg_of hs)
      exact ⟨EOk.congr (e_cmp (opC ok.K ok.un op) (s.e ok e1).1 (s.e ok e2).1 hm) fun τ S => rfl, fun _ => TOk.congr (t_cmp (opC ok.K ok.un op) (s.e ok e1).1 (s.e ok e2).1 hm fun S x y d e => cmpop_bool e) fun τ S => rfl⟩
    | [o1, o2], [b, d], h =>
      replace h : (if isSet b || isSet d then none else (cE n c a).bind fun x => (cE n c b).bind fun y => (cE n c d).map fun z => E.chain (copOf o1) (copOf o2) x y z) = some ir := h
      by_cases hs : (isSet b || isSet d) = true
      case pos => rw [if_pos hs] at h; cases h
      rw [if_neg hs] at h
      obtain ⟨x, e1, h⟩ := some_bind h
      obtain ⟨y, e2, h⟩ := some_bind h
      obtain ⟨z, e3, h⟩ := Option.map_eq_some_iff.mp h
      subst h
      have hm := marks_ok (o1 := o1) (o2 := o2) (b := b) (e := d) (by
        have := neg_of hs
        rw [Bool.or_eq_false_iff] at this
        exact this.2)
      exact ⟨EOk.congr (e_chainR ok.K ok.un (s.e ok e1).1 (s.e ok e2).1 (s.e ok e3).1 hm) fun τ S => rfl, fun _ => TOk.congr (t_chainR ok.K ok.un (s.e ok e1).1 (s.e ok e2).1 (s.e ok e3).1 hm) fun τ S => rfl⟩
    | [], _, h => cases h
    | [_], [], h => cases h
    | [_], _ :: _ :: _, h => cases h
    | [_, _], [], h => cases h
    | [_, _], [_], h => cases h
    | [_, _], _ :: _ :: _ :: _, h => cases h
    | _ :: _ :: _ :: _, _, h => cases h
  | Tuple es j pos =>
    replace h : (if es.any isStar then cStars n c es else if es.length ≤ 1000 then (cEs n c es).map E.tup else none) = some ir := h
    by_cases hstar : es.any isStar = true
    · rw [if_pos hstar] at h
      obtain ⟨a1, a2⟩ := s.st ok h
      refine t_of ok.K (EOk.congr (e_tupL a1 fun τ S ds S' e => ?_) fun τ S => ?_) fun _ => rfl
      · unfold itemsEv at e
        cases z : evalE C ir τ S with
        | bad => rw [z] at e; cases e
        | exc x S' => rw [z] at e; cases e
        | ok d S1 =>
          obtain ⟨es', e1, e2⟩ := a2 _ _ _ _ z
          subst e1
          rw [z] at e
          cases e
          exact e2
      · unfold itemsEv
        cases z : evalE C ir τ S with
        | bad => rfl
        | exc x S' => rfl
        | ok d S1 =>
          obtain ⟨es', e1, _⟩ := a2 _ _ _ _ z
          subst e1
          rfl
    rw [if_neg hstar] at h
    by_cases hl : es.length ≤ 1000
    case neg => rw [if_neg hl] at h; cases h
    rw [if_pos hl] at h
    obtain ⟨l, e1, h⟩ := Option.map_eq_some_iff.mp h
    subst h
    obtain ⟨a1, a2, a3⟩ := s.es ok e1
    exact t_of ok.K (EOk.congr (e_tup a1 (Nat.le_trans hl (by decide)) fun τ S ds S' e => (evalEs_len e).trans a3) fun τ S => rfl) fun _ => rfl
  | List es pos =>
    replace h : (if es.length ≤ 1000 then (cEs n c es).map fun l => made c pos (.lst l) else none) = some ir := h
    by_cases hl : es.length ≤ 1000
    case neg => rw [if_neg hl] at h; cases h
    rw [if_pos hl] at h
    obtain ⟨l, e1, h⟩ := Option.map_eq_some_iff.mp h
    subst h
    obtain ⟨a1, a2, a3⟩ := s.es ok e1
    have f := f_lst (pos := pos) a1 (Nat.le_trans hl (by decide)) fun τ S ds S' e => (evalEs_len e).trans a3
    refine t_of ok.K ?_ fun _ => rfl
    unfold made
    by_cases hn : isNew c pos = true
    · rw [if_pos hn]
      exact EOk.congr (e_new f) fun τ S => rfl
    · rw [if_neg hn]
      exact EOk.congr (e_ofF f lst_lists) fun τ S => rfl
  | Subscript a i pos =>
    refine t_of ok.K ?_ fun _ => rfl
    by_cases hi : isSlice i = true
    · cases i with
      | Slice lo up st p2 =>
        replace h : (if isOneRev lo up st then (cE n c a).map E.rev else match (generalizing := false) st with
          | none => (cE n c a).bind fun x => (cO n c lo).bind fun y => (cO n c up).map fun z => E.slice x y z
          | _ => none) = some ir := h
        by_cases hr : isOneRev lo up st = true
        · rw [if_pos hr] at h
          obtain ⟨x, e1, h⟩ := Option.map_eq_some_iff.mp h
          subst h
          unfold isOneRev at hr
          split at hr
          · have hr' := eq_of_beq hr
            subst hr'
            exact EOk.congr (e_rev ok.K (s.e ok e1).1) fun τ S => rfl
          · cases hr
        · rw [if_neg hr] at h
          cases st with
          | some z => cases h
          | none =>
            obtain ⟨x, e1, h⟩ := some_bind h
            obtain ⟨y, e2, h⟩ := some_bind h
            obtain ⟨z, e3, h⟩ := Option.map_eq_some_iff.mp h
            subst h
            exact EOk.congr (e_slice ok.K (s.e ok e1).1 (s.o ok e2) (s.o ok e3)) fun τ S => rfl
      | Tuple es j p => cases h
      | _ => cases hi
    · have h' : (if isSlice i then none else (cE n c a).bind fun x => (cE n c i).map fun y => E.sub x y) = some ir := by
        cases i <;> first | exact h | exact absurd rfl hi
      rw [if_neg hi] at h'
      obtain ⟨x, e1, h2⟩ := some_bind h'
      obtain ⟨y, e2, h3⟩ := Option.map_eq_some_iff.mp h2
      subst h3
      exact EOk.congr (e_sub ok.K (s.e ok e1).1 (s.e ok e2).1 (ix_ok (neg_of hi))) fun τ S => rfl
  | Call f es ks pos =>
    refine t_of ok.K ?_ fun _ => rfl
    match ks, h with
    | [⟨none, _, _⟩], h => cases f <;> cases h
    | ⟨none, _, _⟩ :: _ :: _, h => cases f <;> cases h
    | ⟨some _, v, _⟩ :: _ :: _, h => cases v <;> cases f <;> cases h
    | [⟨some q, v, kp⟩], h =>
      cases v with
      | Name y py =>
        cases f with
        | Name x p =>
          match es, h with
          | [], h => cases h
          | _ :: _ :: _, h => cases h
          | [e], h =>
            have hh : (if x = "sorted" && q = "key" && isGlob c.sc x && isGlob c.sc y && okName y && !isStar e && c.calm then (c.fns.lookup y).bind fun i => (cE n c e).map fun z => made c pos (.sortk i z) else none) = some ir := h
            clear h
            by_cases g : (decide (x = "sorted") && decide (q = "key") && isGlob c.sc x && isGlob c.sc y && okName y && !isStar e && c.calm) = true
            case neg => rw [if_neg g] at hh; cases hh
            rw [if_pos g] at hh
            simp only [Bool.and_eq_true, decide_eq_true_eq, Bool.not_eq_true'] at g
            obtain ⟨⟨⟨⟨⟨⟨rfl, rfl⟩, g1⟩, g2⟩, g3⟩, g4⟩, g5⟩ := g
            obtain ⟨i, e1, hh⟩ := some_bind hh
            obtain ⟨z, e2, hh⟩ := Option.map_eq_some_iff.mp hh
            subst hh
            obtain ⟨f, h1, h2⟩ := ok.fns y i e1
            obtain ⟨cal, rm, tk⟩ := ok.calm g5
            have gl : ∀ {x : Str}, isGlob c.sc x = true → Gl X x := fun q => by
              show X.env.scope.names.lookup _ = _
              rw [ok.sc]; exact isGlob_gl q
            have f := f_sortk (p := p) (py := py) (kp := kp) (pos := pos) ok.K (ok.prom i f h2) rm (gl g1) (ok.free _ (by decide +kernel)) (s.e ok e2).1 (gl g2) h1 (okName_1 g3).1 (star_ok g4)
            unfold made
            by_cases hn : isNew c pos = true
            · rw [if_pos hn]
              exact EOk.congr (e_new f) fun τ S => rfl
            · rw [if_neg hn]
              refine EOk.congr (e_ofF f fun τ S d S' e => ?_) fun τ S => rfl
              cases q1 : evalE C z τ S with
              | bad => rw [q1] at e; cases e
              | exc x S1 => rw [q1] at e; cases e
              | ok x S1 =>
                rw [q1, r_ok] at e
                cases q2 : asLR S1 x with
                | none => simp only [q2] at e; cases e
                | some ds =>
                  simp only [q2] at e
                  cases q3 : keysL (fun d S => C.fn i [d] S) ds S1 with
                  | bad => rw [q3] at e; cases e
                  | exc x S1 => rw [q3] at e; cases e
                  | ok ks S2 =>
                    rw [q3, r_ok] at e
                    cases q4 : sortBy ds ks with
                    | none => rw [q4] at e; cases e
                    | some l => rw [q4] at e; cases e; exact ⟨l, rfl⟩
        | _ => cases h
      | _ => cases h
    | [], h =>
      cases f with
      | Name x p =>
        have hh : (match setArg x es with
          | some a => if isGlob c.sc "sorted" && isGlob c.sc "set" && !isStar a && c.calm then (cE n c a).map fun z => made c pos (.sortset z) else none
          | none => cCall n c x es pos) = some ir := h
        cases e0 : setArg x es with
        | none =>
          rw [e0] at hh
          exact s.call ok hh
        | some a =>
          rw [e0] at hh
          obtain ⟨rfl, p2, q, rfl⟩ := setArg_some e0
          by_cases g : (isGlob c.sc "sorted" && isGlob c.sc "set" && !isStar a && c.calm) = true
          case neg => dsimp only at hh; rw [if_neg g] at hh; cases hh
          dsimp only at hh
          rw [if_pos g] at hh
          simp only [Bool.and_eq_true, Bool.not_eq_true'] at g
          obtain ⟨⟨⟨g1, g2⟩, g3⟩, g4⟩ := g
          obtain ⟨z, e2, hh⟩ := Option.map_eq_some_iff.mp hh
          subst hh
          have gl : ∀ {x : Str}, isGlob c.sc x = true → Gl X x := fun q => by
            show X.env.scope.names.lookup _ = _
            rw [ok.sc]; exact isGlob_gl q
          have f := f_sortset (p := p) (p2 := p2) (q := q) (pos := pos) ok.K (ok.calm g4).1 (gl g1) (ok.free _ (by decide +kernel)) (gl g2) (ok.free _ (by decide +kernel)) (s.e ok e2).1 (star_ok g3)
          unfold made
          by_cases hn : isNew c pos = true
          · rw [if_pos hn]
            exact EOk.congr (e_new f) fun τ S => rfl
          · rw [if_neg hn]
            refine EOk.congr (e_ofF f fun τ S d S' e => ?_) fun τ S => rfl
            cases q1 : evalE C z τ S with
            | bad => rw [q1] at e; cases e
            | exc x S1 => rw [q1] at e; cases e
            | ok x S1 =>
              rw [q1, r_ok] at e
              cases q2 : sortSet S1 x with
              | none => rw [q2] at e; cases e
              | some l => rw [q2] at e; cases e; exact ⟨l, rfl⟩
      | Attribute o x apos =>
        match es, h with
        | [], h => cases h
        | _ :: _ :: _, h => cases h
        | [e], h =>
          replace h : (if isName o && !isStar e && (apos.endLine == pos.line) && c.calm then (cE n c o).bind fun a => (cE n c e).bind fun b => if x = "append" then some (E.append a b) else if x = "pop" then some (.pop a b) else none else none) = some ir := h
          by_cases q : (isName o && !isStar e && (apos.endLine == pos.line) && c.calm) = true
          case neg => rw [if_neg q] at h; cases h
          rw [if_pos q] at h
          simp only [Bool.and_eq_true, Bool.not_eq_true'] at q
          obtain ⟨⟨⟨q1, q2⟩, q3⟩, q4⟩ := q
          obtain ⟨a, e1, h⟩ := some_bind h
          obtain ⟨b, e2, h⟩ := some_bind h
          have hbase : ∀ y : Str, attributeBase o y X.env (eval o X.env) = eval o X.env := fun y => by cases o <;> first | rfl | cases q1
          have hfew : ((backTo pos (starEach [e] X.env)).all (fun x => !x.1) && (backToKw pos (keywordEach [] X.env)).all (fun x => x.1.isSome)
              && decide ([e].length + ([] : List Keyword).length + (if ([] : List Keyword).isEmpty then 0 else 1) < 30)) = true := by
            rw [star_ok q2]; rfl
          by_cases x1 : x = "append"
          · rw [if_pos x1] at h
            cases h
            subst x1
            exact EOk.congr (e_append ok.K (s.e ok e1).1 (s.e ok e2).1 (hbase _) hfew q3 (star_ok q2) rfl) fun τ S => rfl
          · rw [if_neg x1] at h
            by_cases x2 : x = "pop"
            case neg => rw [if_neg x2] at h; cases h
            rw [if_pos x2] at h
            cases h
            subst x2
            exact EOk.congr (e_pop ok.K (s.e ok e1).1 (s.e ok e2).1 (hbase _) hfew q3 (star_ok q2) rfl) fun τ S => rfl
      | _ => cases h
  | ListComp elt gs scope pos =>
    obtain ⟨x, e1, h⟩ := Option.map_eq_some_iff.mp (show (cL n c elt gs scope).map (made c pos) = some ir from h)
    subst h
    have cok := s.l ok e1
    have f := cok.fok (pos := pos) ok.nd
    refine t_of ok.K ?_ fun _ => rfl
    unfold made
    by_cases hn : isNew c pos = true
    · rw [if_pos hn]
      exact EOk.congr (e_new f) fun τ S => rfl
    · rw [if_neg hn]
      exact e_ofF f cok.lists
  | Dict ks vs pos =>
    match ks, vs, h with
    | [], [], h =>
      cases h
      exact t_of ok.K (EOk.congr e_dict0 fun τ S => rfl) fun _ => rfl
    | _ :: _, _, h => cases h
    | [], _ :: _, h => cases h
  | _ => cases h
theorem snd : ∀ n, Snd G n
  | 0 => snd_zero
  | n + 1 =>
    have s := snd n
    ⟨fun ok h => snd_E s ok h, fun ok h => snd_B s ok h, fun ok h => snd_Es s ok h, fun ok h => snd_O s ok h, fun ok h => snd_call s ok h, fun ok h => snd_I s ok h, fun ok h => snd_L s ok h, fun ok h => snd_St s ok h⟩
end
end RA

set_option Elab.async false
set_option linter.all false
set_option maxRecDepth 100000
set_option maxHeartbeats 4000000
set_option autoImplicit false
/-! B17: a statement's tree reads as the interpreter has it. -/
namespace RA
open PySem PySem.Spec PyProof.Rows L2 LamX
section
variable {G : Gd} {X : Cx} {W : WX} {n : Nat} {c : Cc} {C : Ora} {k : Nat}
/-! ### which stores are swapped -/
theorem sw_no {e : Expr} {o : Option Expr} {l : Nat} {env : Env} (h : isComp e = false) : swapsWith e o l env = pure false := by
  cases e <;> first | (cases o <;> rfl) | cases h
theorem sole_no {e t : Expr} {l : Nat} {env : Env} (h : isComp e = false) : swapsWithSole [t] e l env = pure false := sw_no h
theorem st_sub {e o i : Expr} {p : Pos} {env : Env} : swappedStores [.Subscript o i p] e env = pure none := by
  cases e <;> rfl
theorem st_tup {ts : List Expr} {k : Nat} {q : Pos} {e : Expr} {env : Env} (h : isTuple e = false) : swappedStores [.Tuple ts k q] e env = pure none := by
  cases e <;> first | rfl | cases h
theorem names_short {α β : Type} {f : α → Option β} : ∀ {l : List α}, (∃ a ∈ l, f a = none) → (l.filterMap f).length < l.length
  | [], ⟨a, h, _⟩ => nomatch h
  | b :: l, ⟨a, h, e⟩ => by
    rw [List.length_cons]
    cases q : f b with
    | none =>
      rw [List.filterMap_cons_none q]
      exact Nat.lt_succ_of_le (List.length_filterMap_le f l)
    | some y =>
      rw [List.filterMap_cons_some q, List.length_cons]
      have : ∃ a ∈ l, f a = none := by
        rcases List.mem_cons.mp h with z | z
        · rw [z, q] at e; cases e
        · exact ⟨a, z, e⟩
      exact Nat.succ_lt_succ (names_short this)
theorem st_cell {ts vs : List Expr} {k k2 : Nat} {q q2 : Pos} {env : Env} (hs : env.scope = c.sc) (h : anyCell c ts = true) : swappedStores [.Tuple ts k q] (.Tuple vs k2 q2) env = pure none := by
  unfold anyCell at h
  obtain ⟨t, ht, h⟩ := List.any_eq_true.mp h
  unfold swappedStores
  dsimp only
  by_cases c1 : (!(ts.length == 2 || ts.length == 3) || vs.length != ts.length || env.blockKind != .function) = true
  · exact if_pos c1
  refine (if_neg c1).trans ?_
  refine (apply_ite (fun z => z = pure none) _ _ _).mpr ?_
  split
  · rfl
  · refine if_pos ?_
    simp only [Bool.or_eq_true]
    refine .inl ?_
    simp only [bne_iff_ne, ne_eq]
    refine Nat.ne_of_lt (names_short ⟨t, ht, ?_⟩)
    cases t with
    | Name x p =>
      have hx : plainLoc c.sc x = false := by simpa using h
      have hk : (env.kindOf x == some NameKind.local) = false := by
        show (env.scope.names.lookup x == some NameKind.local) = false
        rw [hs]
        unfold plainLoc at hx
        split at hx
        · cases hx
        · rename_i hn
          cases e : c.sc.names.lookup x with
          | none => rfl
          | some kd => cases kd <;> first | rfl | exact absurd e hn
      dsimp only
      rw [hk]
      rfl
    | _ => cases h
theorem as_sub {o i : Expr} {tpos : Pos} {env : Env} (h : isSlice i = false) (v : Value) : assign (.Subscript o i tpos) env v = (do
      let ov ← holding [v] (eval o env)
      let iv ← holding [v, ov] (eval i env)
      standAt tpos
      holding [v, ov, iv] (setItem ov iv v)
      release [v, ov, iv] []) := by cases i <;> first | rfl | cases h
theorem st_par {x y : Str} {px py pt pos pt2 : Pos} {kt k2 : Nat} {a b : Expr} {env : Env} (hs : env.scope = c.sc) (h : parGood c x y px py [a, b] = true) :
    swappedStores [.Tuple [.Name x px, .Name y py] kt pt] (.Tuple [a, b] k2 pt2) env = pure (some [x, y]) ∧ env.scope.names.lookup x = some .local ∧ env.scope.names.lookup y = some .local ∧ x ≠ y := by
  unfold parGood at h
  simp only [Bool.and_eq_true, Bool.not_eq_true'] at h
  obtain ⟨⟨⟨⟨⟨⟨⟨h1, h2⟩, h3⟩, h4⟩, h5⟩, h6⟩, h7⟩, h8⟩ := h
  have k1 : env.kindOf x = some .local := by show env.scope.names.lookup x = _; rw [hs]; exact plainLoc_loc h1
  have k2' : env.kindOf y = some .local := by show env.scope.names.lookup y = _; rw [hs]; exact plainLoc_loc h2
  have kf : env.scope.kind = .function := by
    rw [hs]
    split at h5
    · assumption
    · cases h5
  have bk : env.blockKind = .function := by unfold Env.blockKind; rw [kf]; rfl
  have st : ∀ f : Expr → Bool, (∀ e, f e = isStar e) → [a, b].any f = false := fun f hf => by
    rw [show f = isStar from funext hf]; exact h6
  have l1 : (px.line == px.line) = true := by simp
  have l2 : (py.line == px.line) = true := by
    have := eq_of_beq h4
    rw [this]; simp
  have ne : (x == y) = false := h3
  have nm : ∀ f : Expr → Option Str, f (.Name x px) = some x → f (.Name y py) = some y → List.filterMap f [.Name x px, .Name y py] = [x, y] := fun f e1 e2 => by
    rw [List.filterMap_cons_some e1, List.filterMap_cons_some e2, List.filterMap_nil]
  have ed : [x, y].eraseDups.length = 2 := by
    have : (y == x) = false := by
      rw [← ne]; exact BEq.comm
    simp [List.eraseDups_cons, this]
  refine ⟨?_, k1, k2', fun z => by rw [z] at ne; simp at ne⟩
  unfold swappedStores
  dsimp only
  rw [bk]
  refine (if_neg (by simp)).trans ?_
  refine (if_neg ?_).trans ?_
  · rw [st _ fun e => by cases e <;> rfl]; decide
  rw [nm _ (by dsimp only; rw [k1]; exact if_pos l1) (by dsimp only; rw [k2']; exact if_pos l2), ed]
  refine (if_neg (by simp)).trans ?_
  refine (if_neg ?_).trans ?_
  · rw [h7]; decide
  refine (if_neg ?_).trans rfl
  rw [h8]; decide
theorem st_par3 {x y z : Str} {px py pz pt pos pt2 : Pos} {kt k2 : Nat} {a b d : Expr} {env : Env} (hs : env.scope = c.sc) (h : parGood3 c x y z px py pz [a, b, d] = true) :
    swappedStores [.Tuple [.Name x px, .Name y py, .Name z pz] kt pt] (.Tuple [a, b, d] k2 pt2) env = pure (some [x, y, z]) ∧ (env.scope.names.lookup x = some .local ∧ env.scope.names.lookup y = some .local ∧ env.scope.names.lookup z = some .local) ∧ x ≠ y ∧ x ≠ z ∧ y ≠ z := by
  unfold parGood3 at h
  simp only [Bool.and_eq_true, Bool.not_eq_true'] at h
  obtain ⟨⟨⟨⟨⟨⟨⟨⟨⟨⟨⟨h1, h2⟩, h2b⟩, n1⟩, n2⟩, n3⟩, h4⟩, h4b⟩, h5⟩, h6⟩, h7⟩, h8⟩ := h
  have k1 : env.kindOf x = some .local := by show env.scope.names.lookup x = _; rw [hs]; exact plainLoc_loc h1
  have k2' : env.kindOf y = some .local := by show env.scope.names.lookup y = _; rw [hs]; exact plainLoc_loc h2
  have k3' : env.kindOf z = some .local := by show env.scope.names.lookup z = _; rw [hs]; exact plainLoc_loc h2b
  have kf : env.scope.kind = .function := by
    rw [hs]
    split at h5
    · assumption
    · cases h5
  have bk : env.blockKind = .function := by unfold Env.blockKind; rw [kf]; rfl
  have st : ∀ f : Expr → Bool, (∀ e, f e = isStar e) → [a, b, d].any f = false := fun f hf => by
    rw [show f = isStar from funext hf]; exact h6
  have l1 : (px.line == px.line) = true := by simp
  have l2 : (py.line == px.line) = true := by rw [eq_of_beq h4]; simp
  have l3 : (pz.line == px.line) = true := by rw [eq_of_beq h4b]; simp
  have nm : ∀ f : Expr → Option Str, f (.Name x px) = some x → f (.Name y py) = some y → f (.Name z pz) = some z → List.filterMap f [.Name x px, .Name y py, .Name z pz] = [x, y, z] := fun f e1 e2 e3 => by
    rw [List.filterMap_cons_some e1, List.filterMap_cons_some e2, List.filterMap_cons_some e3, List.filterMap_nil]
  have b1 : (y == x) = false := by rw [← n1]; exact BEq.comm
  have b2 : (z == x) = false := by rw [← n2]; exact BEq.comm
  have b3 : (z == y) = false := by rw [← n3]; exact BEq.comm
  have ed : [x, y, z].eraseDups.length = 3 := by simp [List.eraseDups_cons, b1, b2, b3]
  refine ⟨?_, ⟨k1, k2', k3'⟩, fun q => by rw [q] at n1; simp at n1, fun q => by rw [q] at n2; simp at n2, fun q => by rw [q] at n3; simp at n3⟩
  unfold swappedStores
  dsimp only
  rw [bk]
  refine (if_neg (by simp)).trans ?_
  refine (if_neg ?_).trans ?_
  · rw [st _ fun e => by cases e <;> rfl]; decide
  rw [nm _ (by dsimp only; rw [k1]; exact if_pos l1) (by dsimp only; rw [k2']; exact if_pos l2) (by dsimp only; rw [k3']; exact if_pos l3), ed]
  refine (if_neg (by simp)).trans ?_
  refine (if_neg ?_).trans ?_
  · rw [h7]; decide
  refine (if_neg ?_).trans rfl
  rw [h8]; decide
/-! ### the context of a statement -/
/-- a class of exceptions without its own __init__ -/
structure ExcC (G : Gd) (X : Cx) (x : Str) (f : Addr) : Prop where
  mg : X.mg x = some (.ref f)
  facts : ∃ B newId initId bmB, ExcBaseFacts B newId initId bmB ∧ PySem.W.excIn X.K f bmB newId = true
  keep : PySem.W.keepIn X.K (.ref f) = true
  sub : PySem.W.subIn X.K (.ref f) (.type "BaseException") = some true
  ty : PySem.W.typeIn X.K (.ref f) = some (.type "type")
/-- a class of exceptions that keeps what it is given as f -/
structure KeepX (G : Gd) (X : Cx) (x : Str) (a : Addr) (f : Str) : Prop where
  mg : X.mg x = some (.ref a)
  keep : PySem.W.keepIn X.K (.ref a) = true
  sub : PySem.W.subIn X.K (.ref a) (.type "BaseException") = some true
  ty : PySem.W.typeIn X.K (.ref a) = some (.type "type")
  run : L2.Mod X.K X.mg X.base → KeepC X.prog X.w X.base a f
  xf : XfC X.K a
  no : PySem.W.findIn X.K (.ref a) f = some none
structure StOk (G : Gd) (T : Cls) (c : Cc) (C : Ora) (X : Cx) (W : WX) (k : Nat) : Prop extends CxOk G c C X W k where
  pass : c.calm = true → PassesOwn (model X.prog X.w) X.A X.env X.xe
  stk : c.top = true → X.stack = X.env :: X.outer ∧ X.env.frame = some X.env.locals
  cls : ∀ x i, c.clss.lookup x = some i → ∃ f, ExcC G X x f ∧ G.CA i = some f
  sub : SubOk G T.sub
  kp : ∀ x i, c.clss.lookup x = some i → T.keeps i = []
  kc : ∀ x i f, c.kcls.lookup x = some (i, f) → ∃ a, KeepX G X x a f ∧ G.CA i = some a
theorem SOk.congr {e : Stmt} {ev ev' : Ev Out} (h : SOk G X W e ev) (q : ∀ τ S, ev' τ S = ev τ S) : SOk G X W e ev' := by
  have : ev' = ev := funext fun τ => funext fun S => q τ S
  rw [this]; exact h
theorem SsOk.congr {e : List Stmt} {ev ev' : Ev Out} (h : SsOk G X W e ev) (q : ∀ τ S, ev' τ S = ev τ S) : SsOk G X W e ev' := by
  have : ev' = ev := funext fun τ => funext fun S => q τ S
  rw [this]; exact h
theorem glob_of {c : Cc} (hs : X.env.scope = c.sc) {x : Str} (h : isGlob c.sc x = true) : Gl X x := by
  show X.env.scope.names.lookup x = _
  rw [hs]; exact isGlob_gl h
/-- the clauses -/
def hsOf (T : Cls) (C : Ora) : List Hd → List (Nat × (Exn → Ev Out))
  | [] => []
  | .mk k _ b :: r => (k, fun z => execs T { C with ex := some z } b) :: hsOf T C r
theorem handle_eq {T : Cls} {C : Ora} {x : Exn} : ∀ (hs : List Hd) (τ : Sig) (S : Store), handle T C x hs τ S = handleEv T.sub x (hsOf T C hs) τ S
  | [], τ, S => rfl
  | .mk k o b :: r, τ, S => by
    show (if T.sub x.k k then (execs T { C with ex := some x } b τ S).noexc else handle T C x r τ S) = if T.sub x.k k then (execs T { C with ex := some x } b τ S).noexc else handleEv T.sub x (hsOf T C r) τ S
    rw [handle_eq r]
/-- what is proved of the fuel n -/
structure SndS (G : Gd) (T : Cls) (n : Nat) : Prop where
  s : ∀ {c C X W k st ir}, StOk G T c C X W k → cS n c st = some ir → SOk G X W st (execS T C ir)
  ss : ∀ {c C X W k sts irs}, StOk G T c C X W k → cSs n c sts = some irs → SsOk G X W sts (execs T C irs)
  hs : ∀ {c C X W k hds irs}, StOk G T c C X W k → cHs n c hds = some irs → HOk G X hds (hsOf T C irs) ∧ irs.length = hds.length
theorem sndS_zero {T : Cls} : SndS G T 0 := ⟨fun _ h => (by cases h), fun _ h => (by cases h), fun _ h => (by cases h)⟩
variable {T : Cls}
theorem sndS_ss (s : SndS G T n) {sts : List Stmt} {irs : List St} (ok : StOk G T c C X W k) (h : cSs (n + 1) c sts = some irs) : SsOk G X W sts (execs T C irs) := by
  match sts, h with
  | [], h =>
    cases h
    exact ss_nil
  | st :: r, h =>
    obtain ⟨l, e2, h⟩ := Option.map_eq_some_iff.mp (show (cSs n c r).map (fun l => (cS n c st).getD .stuck :: l) = some irs from h)
    subst h
    have one : SOk G X W st (execS T C ((cS n c st).getD .stuck)) := by
      cases e1 : cS n c st with
      | none => exact ⟨fun pins s σ H D I ⟨m, S, τ, c, sr, l, p⟩ => p.elim⟩
      | some x => exact s.s ok e1
    exact SsOk.congr (ss_cons one (s.ss ok e2)) fun τ S => rfl
/-- the context of an except's suite -/
theorem StOk.suite (ok : StOk G T c C X W k) (a : Addr) (oe : Obj) (pn : List (Addr × Obj)) (y : Exn) : StOk G T (suiteCc c) { C with ex := some y } (X.suite a ((a, oe) :: pn)) WNo k where
  N := ok.N
  nd := ok.nd
  sc := ok.sc
  K := ok.K
  calm := fun z => by cases z
  un := ok.un
  gd := ok.gd
  fn := ok.fn
  cons := ok.cons
  fns := ok.fns
  free := ok.free
  prom := ok.prom
  lam := fun z => by cases z
  pass := fun z => by cases z
  stk := fun z => by cases z
  cls := fun x i h => by
    obtain ⟨f, h1, h2⟩ := ok.cls x i h
    exact ⟨f, ⟨h1.mg, h1.facts, h1.keep, h1.sub, h1.ty⟩, h2⟩
  sub := ok.sub
  kp := ok.kp
  kc := fun x i f h => by
    obtain ⟨a, h1, h2⟩ := ok.kc x i f h
    exact ⟨a, ⟨h1.mg, h1.keep, h1.sub, h1.ty, h1.run, h1.xf, h1.no⟩, h2⟩
theorem field_ev {C : Ora} {y : Exn} {τ : Sig} {S S' : Store} {o : Out} {k : Nat} {f w : Str} (z : execs T { C with ex := some y } [.ret (.bin .add (.con (.str w)) (.bcall .repr [.exf k f]))] τ S = .ok o S') :
    ∃ dv p, y.k = k ∧ y.fs.lookup f = some dv ∧ reprD S dv = some (.str p) ∧ w.length + p.length ≤ LINE ∧ o = .ret (.str (w ++ p)) ∧ S' = S := by
  have e : execs T { C with ex := some y } [.ret (.bin .add (.con (.str w)) (.bcall .repr [.exf k f]))] τ S = ((((((if y.k = k then RA.lift S (y.fs.lookup f) else .bad).bind fun d S => (Res.ok [] S).bind fun ds S => Res.ok (d :: ds) S).bind fun ds S => RA.lift S (bcall S .repr ds)).bind fun r S => RA.lift S (binop S .add (.str w) r)).bind fun d S => Res.ok (Out.ret d) S).bind fun o S => match o with
      | .nx σ => Res.ok (Out.nx σ) S
      | .ret d => Res.ok (Out.ret d) S) := rfl
  rw [e] at z
  by_cases hk : y.k = k
  case neg => rw [if_neg hk] at z; cases z
  rw [if_pos hk] at z
  cases hl : y.fs.lookup f with
  | none => rw [hl] at z; cases z
  | some dv =>
    rw [hl] at z
    replace z : (((RA.lift S (reprD S dv)).bind fun r S => RA.lift S (binop S .add (.str w) r)).bind fun d S => Res.ok (Out.ret d) S).bind (fun o S => match o with
      | .nx σ => Res.ok (Out.nx σ) S
      | .ret d => Res.ok (Out.ret d) S) = .ok o S' := z
    cases hr : reprD S dv with
    | none => rw [hr] at z; cases z
    | some r =>
      obtain ⟨pv, _, e3⟩ := some_bind (show ((pd S dv).bind fun p => if p.showable = true ∧ p.depth ≤ 60 ∧ p.shown.length + 64 ≤ LINE then some (D.str p.shown) else none) = some r from hr)
      obtain ⟨_, rfl⟩ := some_if e3
      rw [hr] at z
      by_cases hw : w.length + pv.shown.length ≤ LINE
      · have b : binop S .add (.str w) (.str pv.shown) = some (.str (w ++ pv.shown)) := if_pos hw
        replace z : ((RA.lift S (binop S .add (.str w) (.str pv.shown))).bind fun d S => Res.ok (Out.ret d) S).bind (fun o S => match o with
          | .nx σ => Res.ok (Out.nx σ) S
          | .ret d => Res.ok (Out.ret d) S) = .ok o S' := z
        rw [b] at z
        have z' : Res.ok (Out.ret (.str (w ++ pv.shown))) S = Res.ok o S' := z
        injection z' with z1 z2
        exact ⟨dv, pv.shown, hk, rfl, hr, hw, z1.symm, z2.symm⟩
      · have b : binop S .add (.str w) (.str pv.shown) = none := if_neg hw
        replace z : ((RA.lift S (binop S .add (.str w) (.str pv.shown))).bind fun d S => Res.ok (Out.ret d) S).bind (fun o S => match o with
          | .nx σ => Res.ok (Out.nx σ) S
          | .ret d => Res.ok (Out.ret d) S) = .ok o S' := z
        rw [b] at z
        cases z
theorem sndS_hs (s : SndS G T n) {hds : List ExceptHandler} {irs : List Hd} (ok : StOk G T c C X W k) (h : cHs (n + 1) c hds = some irs) :
    HOk G X hds (hsOf T C irs) ∧ irs.length = hds.length := by
  unfold cHs at h
  split at h
  · cases h
    exact ⟨.nil, rfl⟩
  · rename_i x np b body pos r
    by_cases q : (okName x && isGlob c.sc x) = true
    case neg => rw [if_neg q] at h; cases h
    rw [if_pos q] at h
    rw [Bool.and_eq_true] at q
    obtain ⟨i, e1, h⟩ := some_bind h
    obtain ⟨y, e2, h⟩ := some_bind h
    obtain ⟨l, e3, h⟩ := Option.map_eq_some_iff.mp h
    subst h
    obtain ⟨f, h1, h2⟩ := ok.cls x i e1
    obtain ⟨h3, h5⟩ := s.hs ok e3
    obtain ⟨n1, n2, n3⟩ := okName_1 q.1
    exact ⟨.cons ⟨glob_of ok.sc q.2, n1, .inl h1.mg⟩ h2 (fun a oe cls d pn z _ _ => s.ss (ok.suite a oe pn z) e2) h3, by rw [List.length_cons, List.length_cons, h5]⟩
  · rename_i x np v w kk q0 g q1 v' q2 f q3 q4 q5 q6 pos r
    by_cases q : (okName x && isGlob c.sc x && decide (g = "repr") && isGlob c.sc g && decide (v' = v) && okName v && plainLoc c.sc v) = true
    case neg => rw [if_neg q] at h; cases h
    rw [if_pos q] at h
    simp only [Bool.and_eq_true, decide_eq_true_eq] at q
    obtain ⟨⟨⟨⟨⟨⟨q7, q8⟩, rfl⟩, q9⟩, rfl⟩, q10⟩, q11⟩ := q
    obtain ⟨kf, e1, h⟩ := some_bind h
    by_cases hf : kf.2 = f
    case neg => rw [if_neg hf] at h; cases h
    rw [if_pos hf] at h
    subst hf
    obtain ⟨i, e2, h⟩ := some_bind h
    obtain ⟨l, e3, h⟩ := Option.map_eq_some_iff.mp h
    subst h
    obtain ⟨a, h1, h2⟩ := ok.kc x kf.1 kf.2 e1
    obtain ⟨h3, h5⟩ := s.hs ok e3
    obtain ⟨n1, n2, n3⟩ := okName_1 q7
    obtain ⟨m1, m2, m3⟩ := okName_1 q10
    refine ⟨.named (i := i) ⟨glob_of ok.sc q8, n1, .inl h1.mg⟩ h2 (by rw [ok.N]; exact slotIn_at e2) (by show X.env.scope.names.lookup _ = _; rw [ok.sc]; exact plainLoc_loc q11) (glob_of ok.sc q9) (ok.free "repr" (by decide +kernel)) ok.un ok.gd h1.xf h1.no m1 m2 rfl rfl ?_ h3, by rw [List.length_cons, List.length_cons, h5]⟩
    exact fun y τ S o S' z => field_ev z
  · cases h
/-- the context of a try's body -/
theorem StOk.tr (ok : StOk G T c C X W k) (hc : c.calm = true) {W' : WX} {pn : List (Addr × Obj)} {xe : Value → Shared → Prop} (tk : Takes (X.tr pn xe) W') (hp : PassesOwn (model X.prog X.w) X.A X.env xe) : StOk G T { c with top := false } C (X.tr pn xe) W' k where
  N := ok.N
  nd := ok.nd
  sc := ok.sc
  K := ok.K
  calm := fun _ => ⟨(ok.toCxOk.calm hc).1, (ok.toCxOk.calm hc).2.1, tk⟩
  un := ok.un
  gd := ok.gd
  fn := ok.fn
  cons := ok.cons
  fns := ok.fns
  free := ok.free
  prom := ok.prom
  lam := fun z => by cases z
  pass := fun _ => hp
  stk := fun z => by cases z
  cls := fun x i h => by
    obtain ⟨f, h1, h2⟩ := ok.cls x i h
    exact ⟨f, ⟨h1.mg, h1.facts, h1.keep, h1.sub, h1.ty⟩, h2⟩
  sub := ok.sub
  kp := ok.kp
  kc := fun x i f h => by
    obtain ⟨a, h1, h2⟩ := ok.kc x i f h
    exact ⟨a, ⟨h1.mg, h1.keep, h1.sub, h1.ty, h1.run, h1.xf, h1.no⟩, h2⟩
end
end RA

set_option Elab.async false
set_option linter.all false
set_option maxRecDepth 100000
set_option maxHeartbeats 4000000
set_option autoImplicit false
/-! B18: .. the step, all fuels. -/
namespace RA
open PySem PySem.Spec PyProof.Rows L2 LamX
section
variable {G : Gd} {X : Cx} {W : WX} {n : Nat} {c : Cc} {C : Ora} {k : Nat} {T : Cls}
theorem swaps_ok {x : Str} {p : Pos} {e : Expr} (h : swaps c x p e = true) : ∃ elt gs scope pos, e = .ListComp elt gs scope pos ∧ c.sc.kind = .function ∧ c.sc.names.lookup x = some .local ∧ (p.line == pos.line) = true ∧ (scope.names.any fun (n, k) => n == x && (k == .local || k == .cell)) = false := by
  unfold swaps at h
  split at h
  · rename_i elt gs scope pos
    simp only [Bool.and_eq_true, Bool.not_eq_true'] at h
    obtain ⟨⟨⟨h1, h2⟩, h3⟩, h4⟩ := h
    refine ⟨elt, gs, scope, pos, rfl, ?_, plainLoc_loc h2, h3, h4⟩
    split at h1
    · assumption
    · cases h1
  · cases h
theorem set_name (ok : StOk G T c C X W k) {x : Str} {p pos : Pos} {e : Expr} {i : Nat} {v : E} (hs : isComp e = true → swaps c x p e = true) (e1 : setOf c x = some i) (e2 : cE n c e = some v) : SetOk G X W (.Assign [.Name x p] e pos) i (evalE C v) := by
  obtain ⟨h1, h2, h3⟩ := setOf_ok e1
  by_cases hc : isComp e = true
  · obtain ⟨elt, gs, scope, pos2, rfl, k1, k2, k3, k4⟩ := swaps_ok (hs hc)
    cases n with
    | zero => cases e2
    | succ m =>
      obtain ⟨y, e3, e4⟩ := Option.map_eq_some_iff.mp (show (cL m c elt gs scope).map (made c pos2) = some v from e2)
      subst e4
      obtain ⟨tg, iter, ifs, own, tup, is, g, ei, ef, ee, rfl, hcl, c1, c2, c3, c4, c5, c6, c7, c8, c9⟩ := (snd m).l ok.toCxOk e3
      have hev : evalE C y = compEv (own.map (·.2)) tup is ei ef ee := funext fun τ => funext fun S => c9 τ S
      refine set_comp hcl ok.nd (by rw [ok.N]; exact h3) (by rw [ok.sc]; exact k2) (sw_true (by rw [ok.sc]; exact k1) (by rw [ok.sc]; exact k2) k3 k4) c1 c2 c3 c4 c5 c6 c7 c8 ?_
      unfold made
      by_cases hn : isNew c pos2 = true
      · rw [if_pos hn]
        have : evalE C (.new y) = newEv (evalE C y) := rfl
        rw [this, hev]
        exact takes_new
      · rw [if_neg hn, hev]
        exact takes_vl (comp_lists _ _ _ _ _ _)
  · exact set_of ok.nd (by rw [ok.N]; exact h3) (by rw [ok.sc]; exact h1) ((snd n).e ok.toCxOk e2).1 (sw_no (neg_of hc)) (by rw [ok.sc]; exact h2.imp (ok.fn x) id)
theorem sndS_s (s : SndS G T n) {st : Stmt} {ir : St} (ok : StOk G T c C X W k) (h : cS (n + 1) c st = some ir) : SOk G X W st (execS T C ir) := by
  have se := snd (G := G) n
  have okX := ok.toCxOk
  cases st with
  | Assign ts e pos =>
    obtain ⟨t, e0, h⟩ := some_bind (show ((oneOf ts).bind fun t => cAsg n c t e) = some ir from h)
    have ht0 : ts = [t] := by
      unfold oneOf at e0
      split at e0
      · cases e0; rfl
      · cases e0
    subst ht0
    cases t with
    | Name x p =>
      replace h : (if isComp e && !swaps c x p e then none else (setOf c x).bind fun i => (cE n c e).map fun v => St.asg i v) = some ir := h
      by_cases q : (isComp e && !swaps c x p e) = true
      case pos => rw [if_pos q] at h; cases h
      rw [if_neg q] at h
      obtain ⟨i, e1, h⟩ := some_bind h
      obtain ⟨v, e2, h⟩ := Option.map_eq_some_iff.mp h
      subst h
      refine SOk.congr (s_set (set_name ok (fun hc => ?_) e1 e2)) fun τ S => rfl
      cases hs : swaps c x p e with
      | true => rfl
      | false => exact absurd (by rw [hc, hs]; rfl) q
    | Subscript o i tp =>
      replace h : (if isComp e || isSlice i then none else (cE n c e).bind fun v => (cE n c o).bind fun x => (cE n c i).map fun y => St.seti x y v) = some ir := h
      by_cases q : (isComp e || isSlice i) = true
      case pos => rw [if_pos q] at h; cases h
      rw [if_neg q] at h
      have q' := neg_of q
      rw [Bool.or_eq_false_iff] at q'
      obtain ⟨v, e1, h⟩ := some_bind h
      obtain ⟨x, e2, h⟩ := some_bind h
      obtain ⟨y, e3, h⟩ := Option.map_eq_some_iff.mp h
      subst h
      exact SOk.congr (s_seti (se.e okX e1).1 (se.e okX e2).1 (se.e okX e3).1 (sole_no q'.1) st_sub rfl (as_sub q'.2)) fun τ S => rfl
    | Tuple ts j q =>
      replace h : (if isTuple e && !anyCell c ts then cPar n c ts (eltsOf e) else if isComp e then none else (cTarget c (.Tuple ts j q)).bind fun t => (cE n c e).map fun v => St.asgT t.2 v) = some ir := h
      by_cases ht : (isTuple e && !anyCell c ts) = true
      · rw [if_pos ht] at h
        rw [Bool.and_eq_true] at ht
        replace ht := ht.1
        cases e with
        | Tuple vs j2 q2 =>
          replace h : cPar n c ts vs = some ir := h
          unfold cPar at h
          split at h
          · rename_i x px y py a b _
            by_cases g : (parGood c x y px py [a, b] && c.calm) = true
            case neg => rw [if_neg g] at h; cases h
            rw [if_pos g] at h
            rw [Bool.and_eq_true] at g
            obtain ⟨i, e1, h⟩ := some_bind h
            obtain ⟨j', e2, h⟩ := some_bind h
            obtain ⟨l, e3, h⟩ := Option.map_eq_some_iff.mp h
            subst h
            obtain ⟨w1, w2, w3, w4⟩ := st_par (pt := q) (pos := pos) (pt2 := q2) (kt := j) (k2 := j2) ok.sc g.1
            obtain ⟨_, _, i1⟩ := setOf_ok e1
            obtain ⟨_, _, i2⟩ := setOf_ok e2
            have hij : i ≠ j' := fun z => by
              rw [z, i2] at i1
              exact w4 (Option.some.inj i1).symm
            exact SOk.congr (s_par (okX.calm g.2).1 ok.nd (by rw [ok.N]; exact i1) (by rw [ok.N]; exact i2) hij w2 w3 (se.es okX e3).1 w1 rfl) fun τ S => rfl
          · rename_i x px y py z pz a b d _
            by_cases g : (parGood3 c x y z px py pz [a, b, d] && c.calm) = true
            case neg => rw [if_neg g] at h; cases h
            rw [if_pos g] at h
            rw [Bool.and_eq_true] at g
            obtain ⟨i, e1, h⟩ := some_bind h
            obtain ⟨j', e2, h⟩ := some_bind h
            obtain ⟨l', e2b, h⟩ := some_bind h
            obtain ⟨l, e3, h⟩ := Option.map_eq_some_iff.mp h
            subst h
            obtain ⟨w1, ⟨w2, w3, w3b⟩, w4, w5, w6⟩ := st_par3 (pt := q) (pos := pos) (pt2 := q2) (kt := j) (k2 := j2) ok.sc g.1
            obtain ⟨_, _, i1⟩ := setOf_ok e1
            obtain ⟨_, _, i2⟩ := setOf_ok e2
            obtain ⟨_, _, i3⟩ := setOf_ok e2b
            have ne : ∀ {p q : Nat} {u v : Str}, c.N[p]? = some u → c.N[q]? = some v → u ≠ v → p ≠ q := fun h1 h2 hn z => by
              rw [z, h2] at h1
              exact hn (Option.some.inj h1).symm
            exact SOk.congr (s_par3 (okX.calm g.2).1 ok.nd (by rw [ok.N]; exact i1) (by rw [ok.N]; exact i2) (by rw [ok.N]; exact i3) (ne i1 i2 w4) (ne i1 i3 w5) (ne i2 i3 w6) w2 w3 w3b (se.es okX e3).1 w1 rfl) fun τ S => rfl
          · cases h
        | _ => cases ht
      · rw [if_neg ht] at h
        by_cases hc : isComp e = true
        case pos => rw [if_pos hc] at h; cases h
        rw [if_neg hc] at h
        obtain ⟨⟨tup, is⟩, e1, h⟩ := some_bind h
        obtain ⟨v, e2, h⟩ := Option.map_eq_some_iff.mp h
        subst h
        obtain ⟨g, g1, g2⟩ := target_ok (G := G) e1
        have : tup = true := by
          replace e1 : (if c.calm then (cNames c ts).map fun l => (true, l) else none) = some (tup, is) := e1
          split at e1
          · obtain ⟨l, _, h2⟩ := Option.map_eq_some_iff.mp e1
            cases h2; rfl
          · cases e1
        subst this
        have hsw : swappedStores [.Tuple ts j q] e X.env = pure none := by
          cases hx : isTuple e with
          | false => exact st_tup hx
          | true =>
            have hcell : anyCell c ts = true := by
              cases z : anyCell c ts with
              | true => rfl
              | false => exact absurd (by rw [hx, z]; rfl) ht
            cases e with
            | Tuple vs k2 q2 => exact st_cell ok.sc hcell
            | _ => cases hx
        exact SOk.congr (s_asgT (se.e okX e2).1 (g2 _ okX.toCxB.setX) g1 (sole_no (neg_of hc)) hsw rfl) fun τ S => rfl
    | _ => cases h
  | Expr e pos =>
    replace h : (if isComp e then none else (cE n c e).map St.exp) = some ir := h
    by_cases hc : isComp e = true
    case pos => rw [if_pos hc] at h; cases h
    rw [if_neg hc] at h
    obtain ⟨v, e2, h⟩ := Option.map_eq_some_iff.mp h
    subst h
    exact SOk.congr (s_exp (se.e okX e2).1 (sw_no (neg_of hc))) fun τ S => rfl
  | Return o pos =>
    cases o with
    | none =>
      cases h
      exact SOk.congr s_retN fun τ S => rfl
    | some e =>
      obtain ⟨v, e2, h⟩ := Option.map_eq_some_iff.mp (show (cE n c e).map St.ret = some ir from h)
      subst h
      exact SOk.congr (s_ret (se.e okX e2).1) fun τ S => rfl
  | If t a b pos =>
    replace h : (if noTest t then none else (cE n c t).bind fun x => (cSs n c a).bind fun y => (cSs n c b).map fun z => St.ite x y z) = some ir := h
    by_cases hn : noTest t = true
    case pos => rw [if_pos hn] at h; cases h
    rw [if_neg hn] at h
    obtain ⟨x, e1, h⟩ := some_bind h
    obtain ⟨y, e2, h⟩ := some_bind h
    obtain ⟨z, e3, h⟩ := Option.map_eq_some_iff.mp h
    subst h
    exact SOk.congr (s_if ((se.e okX e1).2 (neg_of hn)) (s.ss ok e2) (s.ss ok e3)) fun τ S => rfl
  | For tg iter body orelse pos =>
    match orelse, h with
    | _ :: _, h => cases h
    | [], h =>
      replace h : (if c.calm then (cI n c (isTuple tg) iter).bind fun (it : SK × List E) => (cTarget c tg).bind fun (t : Bool × List Nat) => (cSs n c body).map fun b => St.loop t.1 t.2 it.1 it.2 b else none) = some ir := h
      by_cases hc : c.calm = true
      case neg => rw [if_neg hc] at h; cases h
      rw [if_pos hc] at h
      obtain ⟨⟨sk, irs⟩, e1, h⟩ := some_bind h
      obtain ⟨⟨tup, is⟩, e2, h⟩ := some_bind h
      obtain ⟨b, e3, h⟩ := Option.map_eq_some_iff.mp h
      subst h
      obtain ⟨g, g1, g2⟩ := target_ok (G := G) e2
      obtain ⟨i1, i2⟩ := se.i (tg := tg) okX e1
      refine SOk.congr (s_for (ok.pass hc) (okX.calm hc).1 i1 (g2 _ okX.toCxB.setX) g1 (s.ss ok e3) fun x => i2 _ x) fun τ S => ?_
      unfold forEv
      show ((evalEs C irs τ S).bind fun ds S => match srcOf S sk ds with
        | none => Res.bad
        | some it => forL (fun d τ S => match target τ tup is d with
          | none => Res.bad
          | some τ2 => execs T C b τ2 S) (fun S => still S it) it.1 τ S) = _
      rw [bind_assoc]
      cases evalEs C irs τ S with
      | bad => rfl
      | exc x S' => rfl
      | ok ds S' =>
        rw [r_ok, r_ok]
        cases srcOf S' sk ds <;> rfl
  | While t body orelse pos =>
    match orelse, h with
    | _ :: _, h => cases h
    | [], h =>
      replace h : (if noTest t then none else if c.calm then (cE n c t).bind fun x => (cSs n c body).map fun b => St.while x b else none) = some ir := h
      by_cases hn : noTest t = true
      case pos => rw [if_pos hn] at h; cases h
      rw [if_neg hn] at h
      by_cases hc : c.calm = true
      case neg => rw [if_neg hc] at h; cases h
      rw [if_pos hc] at h
      obtain ⟨x, e1, h⟩ := some_bind h
      obtain ⟨b, e2, h⟩ := Option.map_eq_some_iff.mp h
      subst h
      exact SOk.congr (s_while (turns := C.turns) (ok.pass hc) ((se.e okX e1).2 (neg_of hn)) (s.ss ok e2)) fun τ S => rfl
  | Raise o cz pos =>
    match o, cz, h with
    | some e, none, h =>
      replace h : (if c.calm then (match (generalizing := false) cRaise c e with
        | some k => some (St.raise k [])
        | none => (keepOf c e).bind fun q => (cE n c q.2).map fun v => St.raisek q.1.1 q.1.2 v) else none) = some ir := h
      by_cases hc : c.calm = true
      case neg => rw [if_neg hc] at h; cases h
      rw [if_pos hc] at h
      obtain ⟨cal, rm, tk⟩ := okX.calm hc
      cases e1 : cRaise c e with
      | some i =>
        rw [e1] at h
        cases h
        unfold cRaise at e1
        split at e1
        · rename_i x p m j p2 p3
          by_cases q : (okName x && isGlob c.sc x) = true
          case neg => rw [if_neg q] at e1; cases e1
          rw [if_pos q] at e1
          rw [Bool.and_eq_true] at q
          obtain ⟨f, h1, h2⟩ := ok.cls x i e1
          obtain ⟨B, newId, initId, bmB, F, q2⟩ := h1.facts
          have hm := pmk_own (m := m) (j := j) (p := p) (p2 := p2) (pos := p3) F q2 h1.mg h1.keep (raises_own h1.sub h1.ty) (glob_of ok.sc q.2) (okName_1 q.1).1
          refine SOk.congr (s_raise cal tk hm h2) fun τ S => ?_
          show Res.exc ⟨i, (T.keeps i).zip []⟩ S = _
          rw [List.zip_nil_right]
        · cases e1
      | none =>
        rw [e1] at h
        obtain ⟨z, e2, h⟩ := some_bind (show ((keepOf c e).bind fun q => (cE n c q.2).map fun v => St.raisek q.1.1 q.1.2 v) = some ir from h)
        obtain ⟨v, e3, h⟩ := Option.map_eq_some_iff.mp h
        subst h
        unfold keepOf at e2
        split at e2
        · rename_i x p a p3
          by_cases q : (okName x && isGlob c.sc x && !isStar a) = true
          case neg => rw [if_neg q] at e2; cases e2
          rw [if_pos q] at e2
          simp only [Bool.and_eq_true, Bool.not_eq_true'] at q
          obtain ⟨⟨q1, q2⟩, q3⟩ := q
          obtain ⟨kf, e4, e5⟩ := Option.map_eq_some_iff.mp e2
          subst e5
          obtain ⟨ad, h1, h2⟩ := ok.kc x kf.1 kf.2 e4
          exact SOk.congr (s_raiseK cal tk ok.K (rm.mono (by omega)) h1.run (glob_of ok.sc q2) h1.mg h1.keep (raises_own h1.sub h1.ty) h2 (se.e okX e3).1 (okName_1 q1).1 (star_ok q3)) fun τ S => rfl
        · cases e2
    | some e, some z, h => cases h
    | none, _, h => cases h
  | Try body hds orelse fin pos =>
    match orelse, fin, h with
    | [], [], h =>
      replace h : (if c.top && c.calm then (cSs n { c with top := false } body).bind fun b => (cHs n c hds).bind fun l => (match (generalizing := false) l with | [] => none | _ => some (St.tri b l)) else none) = some ir := h
      by_cases hc : (c.top && c.calm) = true
      case neg => rw [if_neg hc] at h; cases h
      rw [if_pos hc] at h
      rw [Bool.and_eq_true] at hc
      obtain ⟨hc, hcalm⟩ := hc
      obtain ⟨b, e1, h⟩ := some_bind h
      obtain ⟨l, e2, h⟩ := some_bind h
      obtain ⟨h3, h5⟩ := s.hs ok e2
      cases l with
      | nil => cases h
      | cons y ys =>
        cases h
        cases hds with
        | nil => simp at h5
        | cons h0 hds =>
          obtain ⟨cal, rm, tk⟩ := okX.calm hcalm
          obtain ⟨s1, s2⟩ := ok.stk hc
          refine SOk.congr (s_try ok.nd ok.K ok.sub s1 s2 tk (fun W' pn xe tk' hp => s.ss (ok.tr hcalm tk' hp) e1) h3) fun τ S => ?_
          show (match execs T C b τ S with
            | .exc x S => handle T C x (y :: ys) (τ.map fun _ => none) S
            | r => r) = _
          unfold triEv
          cases execs T C b τ S with
          | exc x S' => exact handle_eq _ _ S'
          | bad => rfl
          | ok o S' => rfl
    | [], _ :: _, h => cases h
    | _ :: _, _, h => cases h
  | Pass pos =>
    cases h
    exact SOk.congr s_pass fun τ S => rfl
  | _ => cases h
theorem sndS : ∀ n, SndS G T n
  | 0 => sndS_zero
  | n + 1 =>
    have s := sndS n
    ⟨fun ok h => sndS_s s ok h, fun ok h => sndS_ss s ok h, fun ok h => sndS_hs s ok h⟩
end
end RA

set_option Elab.async false
set_option linter.all false
set_option maxRecDepth 100000
set_option maxHeartbeats 4000000
set_option autoImplicit false
/-! B19: the defs of a module, level by level. -/
namespace RA
open PySem PySem.Spec PyProof.Rows L2 LamX
/-- what is known of the module's names -/
structure Md where
  fns : List (Str × Nat)
  cons : List (Str × D)
  clss : List (Str × Nat)
  lams : List (Str × Nat)
  kcls : List (Str × Nat × Str)
/-- a def's text -/
structure Df where
  x : Str
  ps : List Str
  N : List Str
  scope : Scope
  body : List Stmt
  news : List (Nat × Nat)
  /-- it makes lambdas -/
  lam : Bool
def Md.cc (M : Md) (d : Df) : Cc := ⟨d.N, d.scope, M.fns, M.cons, M.clss, if d.lam then M.lams else [], d.news, fun _ => true, true, true, M.kcls⟩
def Md.cc0 (M : Md) (d : Df) : Cc := ⟨d.N, d.scope, M.fns, M.cons, M.clss, [], d.news, fun _ => true, true, false, M.kcls⟩
/-- the def at f -/
def DefAt (K : PySem.W.Frag) (d : Df) (f : Addr) (cdv : Value) : Prop :=
  PySem.W.keepIn K (.ref f) = true ∧ FnScope d.N d.ps d.scope ∧ ∃ (params : Arguments) (dV kV doc pm ct oc : Value) (an od : Option Addr) (osl : Array (Option Value)),
    K.lookup f = some ⟨oc, od, .func (PySem.W.fnOf d.x d.x params d.body d.scope dV kV doc pm an cdv ct), osl⟩ ∧ PySem.W.codeIn K cdv d.x = true ∧ L2.Binds K (PySem.W.fnOf d.x d.x params d.body d.scope dV kV doc pm an cdv ct) d.ps []
/-- .. of an exception's class -/
structure ExcK (K : PySem.W.Frag) (mg : Str → Option Value) (x : Str) (f : Addr) : Prop where
  mg : mg x = some (.ref f)
  facts : ∃ B newId initId bmB, ExcBaseFacts B newId initId bmB ∧ PySem.W.excIn K f bmB newId = true
  keep : PySem.W.keepIn K (.ref f) = true
  sub : PySem.W.subIn K (.ref f) (.type "BaseException") = some true
  ty : PySem.W.typeIn K (.ref f) = some (.type "type")
section
variable {G : Gd} {P : Program} {w : World} {K : PySem.W.Frag} {mg : Str → Option Value} {base : Heap} {M : Md} {T : Cls} {Γ : List Fn} {Wt : Nat}
/-- a class of exceptions that keeps what it is given as f -/
structure KeepM (P : Program) (w : World) (K : PySem.W.Frag) (mg : Str → Option Value) (base : Heap) (x : Str) (a : Addr) (f : Str) : Prop where
  at_ : mg x = some (.ref a)
  keep : PySem.W.keepIn K (.ref a) = true
  sub : PySem.W.subIn K (.ref a) (.type "BaseException") = some true
  ty : PySem.W.typeIn K (.ref a) = some (.type "type")
  run : L2.Mod K mg base → KeepC P w base a f
  xf : XfC K a
  no : PySem.W.findIn K (.ref a) f = some none
structure ModOk (G : Gd) (K : PySem.W.Frag) (mg : Str → Option Value) (M : Md) (T : Cls) (P : Program) (w : World) (base : Heap) : Prop where
  hK : K = G.K
  cons : ∀ x d, M.cons.lookup x = some d → ∃ u v, mg x = some u ∧ RelV v u ∧ ∀ m H, VR G m H v d
  fns : ∀ x i, M.fns.lookup x = some i → ∃ f, mg x = some (.ref f) ∧ G.FA i = some f
  free : ∀ x, isFree x = true → mg x = none
  cls : ∀ x i, M.clss.lookup x = some i → ∃ f, ExcK K mg x f ∧ G.CA i = some f
  sub : SubOk G T.sub
  kp : ∀ x i, M.clss.lookup x = some i → T.keeps i = []
  kc : ∀ x i f, M.kcls.lookup x = some (i, f) → ∃ a, KeepM P w K mg base x a f ∧ G.CA i = some a
/-- a def that makes lambdas has a table -/
def LamMk (G : Gd) (base : Heap) (mg : Str → Option Value) (d : Df) (cdv : Value) : Prop := d.lam = true → ∃ c P, cdv = .ref c ∧ TabB base mg c P ∧ (P, (d.x ++ (".<locals>." : Str)) ++ ("<lambda>" : Str)) ∈ G.T ∧ ∀ p ∈ G.T, p.1 = P → p.2 = (d.x ++ (".<locals>." : Str)) ++ ("<lambda>" : Str)
/-- a def that is handed a lambda -/
def LamTo (K : PySem.W.Frag) (mg : Str → Option Value) (M : Md) (Γ : List Fn) (x : Str) (i : Nat) : Prop := ∃ (g : Addr) (d : Df) (cdv : Value) (a : Str) (body : List St), d.x = x ∧ mg x = some (.ref g) ∧ DefAt K d g cdv ∧ d.ps = [a] ∧ okName a = true ∧ seen d.scope a = true ∧
  Γ[i]? = some ⟨1, d.N.length, body⟩ ∧ cLam 60 (M.cc0 d) a d.body = some body
/-- the context of a def's body -/
theorem stOk_def (mod : ModOk G K mg M T P w base) {d : Df} {f : Addr} {cdv : Value} {A : Around} {outer : List Env} {s : Shared} {H : Hp} {E : XK} {k : Nat} {c : Cc} {C : Ora} (nd : d.N.Nodup) (hr : RoomG (k + 1) (A.deeper (envOfC d.x d.scope s.heap.objs.size f cdv)))
    (prom : ∀ i f, G.FA i = some f → Prom P w K mg base k f (spI G (C.fn i))) (h1 : c.N = d.N) (h2 : c.sc = d.scope) (h3 : c.fns = M.fns) (h4 : c.cons = M.cons) (h5 : c.clss = M.clss) (h6 : c.kcls = M.kcls)
    (lam : c.top = true → ∀ (x : Str) (i : Nat) (ps : Arguments) (body : Expr) (scope : Scope) (p lpos pos : Pos) (eb : Ev D), c.lams.lookup x = some i → isGlob c.sc x = true → okName x = true → noParams ps = true → lamSB c.sc scope = true →
      (∀ X' W', CxB G (lamCc c scope) C X' W' k → EOk G X' W' body eb) → EOk G (cxOf (L2.CX P w) P w K mg base d.N d.x d.scope f cdv A outer s H E) (fun cls d _ H => E cls d H) (.Call (.Name x p) [.Lambda ps body scope lpos] [] pos) fun τ S => C.lam i (fun S => eb τ S) S) :
    StOk G T c C (cxOf (L2.CX P w) P w K mg base d.N d.x d.scope f cdv A outer s H E) (fun cls d _ H => E cls d H) k where
  N := h1.symm
  nd := nd
  sc := h2.symm
  K := mod.hK
  calm := fun _ => ⟨rfl, hr, takes_of (X := cxOf (L2.CX P w) P w K mg base d.N d.x d.scope f cdv A outer s H E) (E := E) (E₁ := fun e' s'' => L2.CX P w outer H s E e' s'') rfl rfl rfl rfl⟩
  un := hr.room.units
  gd := hr.gd
  fn := fun _ _ => rfl
  cons := fun x d h => mod.cons x d (h4 ▸ h)
  fns := fun x i h => mod.fns x i (h3 ▸ h)
  free := mod.free
  prom := prom
  lam := lam
  pass := fun _ => passes_of (X := cxOf (L2.CX P w) P w K mg base d.N d.x d.scope f cdv A outer s H E) (K := fun e s'' => L2.CX P w outer H s E e s'') (E₁ := fun e' s'' => L2.CX P w outer H s E e' s'') rfl
  stk := fun _ => ⟨rfl, rfl⟩
  cls := fun x i h => by
    obtain ⟨f, h1, h2⟩ := mod.cls x i (h5 ▸ h)
    exact ⟨f, ⟨h1.mg, h1.facts, h1.keep, h1.sub, h1.ty⟩, h2⟩
  sub := mod.sub
  kp := fun x i h => mod.kp x i (h5 ▸ h)
  kc := fun x i f h => by
    obtain ⟨a, h1, h2⟩ := mod.kc x i f (h6 ▸ h)
    exact ⟨a, ⟨h1.at_, h1.keep, h1.sub, h1.ty, h1.run, h1.xf, h1.no⟩, h2⟩
theorem cLam_ok {n : Nat} {c : Cc} {a : Str} {sts : List Stmt} {body : List St} (h : cLam n c a sts = some body) : ∃ (isRet : Bool) (p1 p2 p3 p4 : Pos) (hds : List ExceptHandler) (rest : List Stmt) (l : List Hd) (r : List St),
    sts = .Try [first isRet a p1 p2 p3] hds [] [] p4 :: rest ∧ hds ≠ [] ∧ cHs n c hds = some l ∧ cSs n c rest = some r ∧ body = .tri [if isRet then .ret .thunk else .exp .thunk] l :: r := by
  unfold cLam at h
  split at h
  · rename_i x p1 p2 p3 hds p4 rest
    split at h
    · rename_i e
      obtain ⟨e, hne⟩ := e
      obtain ⟨l, h1, h⟩ := some_bind h
      obtain ⟨r, h2, h⟩ := Option.map_eq_some_iff.mp h
      subst h e
      exact ⟨false, _, _, _, _, hds, rest, l, r, rfl, hne, h1, h2, rfl⟩
    · cases h
  · rename_i x p1 p2 p3 hds p4 rest
    split at h
    · rename_i e
      obtain ⟨e, hne⟩ := e
      obtain ⟨l, h1, h⟩ := some_bind h
      obtain ⟨r, h2, h⟩ := Option.map_eq_some_iff.mp h
      subst h e
      exact ⟨true, _, _, _, _, hds, rest, l, r, rfl, hne, h1, h2, rfl⟩
    · cases h
  · cases h
theorem lam_ok (mod : ModOk G K mg M T P w base) {d : Df} {f : Addr} {cdv : Value} {A : Around} {outer : List Env} {s : Shared} {H : Hp} {E : XK} {j : Nat} (nd : d.N.Nodup) (hr : RoomG (4 * j + 3) (A.deeper (envOfC d.x d.scope s.heap.objs.size f cdv)))
    (prom : ∀ i f, G.FA i = some f → Prom P w K mg base (4 * j) f (spI G (callF T Γ Wt j i))) (mk : LamMk G base mg d cdv) (to : ∀ x i, M.lams.lookup x = some i → LamTo K mg M Γ x i)
    (x : Str) (i : Nat) (ps : Arguments) (body : Expr) (scope : Scope) (p lpos pos : Pos) (eb : Ev D) (hx : (M.cc d).lams.lookup x = some i) (hg : isGlob d.scope x = true) (hn : okName x = true) (hps : noParams ps = true) (hl : lamSB d.scope scope = true)
    (hb : ∀ X' W', CxB G (lamCc (M.cc d) scope) (ora1 T Γ (callF T Γ Wt j) Wt) X' W' (4 * j) → EOk G X' W' body eb) :
    EOk G (cxOf (L2.CX P w) P w K mg base d.N d.x d.scope f cdv A outer s H E) (fun cls d _ H => E cls d H) (.Call (.Name x p) [.Lambda ps body scope lpos] [] pos) fun τ S => (ora1 T Γ (callF T Γ Wt j) Wt).lam i (fun S => eb τ S) S := by
  have hd : d.lam = true := by
    cases e : d.lam with
    | true => rfl
    | false =>
      have hx' : (if d.lam then M.lams else []).lookup x = some i := hx
      rw [e] at hx'
      cases hx'
  have hx' : M.lams.lookup x = some i := by
    have hx' : (if d.lam then M.lams else []).lookup x = some i := hx
    rw [hd] at hx'
    exact hx'
  obtain ⟨c, Pt, rfl, TB, hm, hu⟩ := mk hd
  obtain ⟨g, dg, cdg, a, gb, rfl, hmg, ⟨kp, Sf, params, dV, kV, doc, pm, ct, oc, an, od, osl, lk, hcd, bn⟩, hps', ha, hsa, hΓ, hcl⟩ := to x i hx'
  obtain ⟨isRet, p1, p2, p3, p4, hds, rest, l, r, eb0, hne, e1, e2, rfl⟩ := cLam_ok hcl
  have hN0 : dg.N[0]? = some a := by
    have := Sf.pre
    rw [hps'] at this
    cases hN : dg.N with
    | nil => rw [hN] at this; cases this
    | cons y ys =>
      rw [hN] at this
      have : [y] = [a] := this
      cases this
      rfl
  have St : ∀ (A : Around) (outer : List Env) (s : Shared) (H : Hp) (E : XK), RoomG (4 * j + 1 + 1) (A.deeper (envOfC dg.x dg.scope s.heap.objs.size g cdg)) → StOk G T (M.cc0 dg) (ora0 (callF T Γ Wt j) Wt) (cxOf (L2.CX P w) P w K mg base dg.N dg.x dg.scope g cdg A outer s H E) (fun cls d _ H => E cls d H) (4 * j) :=
    fun A outer s H E hr => stOk_def mod Sf.nd (hr.mono (by omega)) prom rfl rfl rfl rfl rfl rfl fun z => by cases z
  have sn := sndS (G := G) (T := T) 60
  cases hds with
  | nil => exact absurd rfl hne
  | cons h0 hds =>
  have hps0 := noParams_ok hps
  subst hps0
  obtain ⟨n1, n2, n3⟩ := okName_1 hn
  obtain ⟨a1, a2, a3⟩ := okName_1 ha
  rw [eb0] at lk bn
  rw [hps'] at bn Sf
  refine EOk.congr (e_lam (eb := eb) (k := 4 * j + 1) (er := execs T (ora0 (callF T Γ Wt j) Wt) r) (l := hsOf T (ora0 (callF T Γ Wt j) Wt) l) (sub := T.sub) mod.hK (glob_of (c := M.cc d) (X := cxOf (L2.CX P w) P w K mg base d.N d.x d.scope f (.ref c) A outer s H E) rfl hg) hmg kp lk hcd bn Sf hN0 (seen_vis hsa) TB rfl hm hu hr (lamS_by hl) rfl (fun _ _ _ _ _ => rfl) ?_ ?_ mod.sub ?_ ?_ n1 a1 a2) fun τ S => ?_
  · intro A' outer' s' H' E' f' c' L' hr'
    refine hb _ _ ?_
    exact { N := rfl, nd := nd, sc := rfl, K := mod.hK, calm := fun _ => ⟨rfl, hr'.mono (by omega), takes_lam⟩, un := hr'.room.units, gd := hr'.gd, fn := fun x z => z, cons := mod.cons, fns := mod.fns, free := mod.free, prom := prom }
  · exact takes_of (X := cxOf (L2.CX P w) P w K mg base d.N d.x d.scope f (.ref c) A outer s H E) (E := E) (E₁ := fun e' s'' => L2.CX P w outer H s E e' s'') rfl rfl rfl rfl
  · exact fun A' outer' s' H' E' hr' => (sn.hs (St A' outer' s' H' E' hr') e1).1
  · exact fun A' outer' s' H' E' hr' => sn.ss (St A' outer' s' H' E' hr') e2
  · show (match Γ[i]? with
      | none => Res.bad
      | some gn => lamRun T (ora0 (callF T Γ Wt j) Wt) gn.ns gn.body (fun S => eb τ S) S) = _
    rw [hΓ]
    unfold lamTri
    cases isRet with
    | false =>
      show lamEnd T (ora0 (callF T Γ Wt j) Wt) dg.N.length l r ((eb τ S).bind fun _ S => .ok (.nx (List.replicate dg.N.length none)) S) = _
      unfold lamEnd thenS
      dsimp only
      generalize eb τ S = R
      cases R with
      | bad => rfl
      | ok d S' => rfl
      | exc x S' =>
        show fin ((handle T _ x l _ S').bind _) = fin ((handleEv T.sub x _ _ S').bind _)
        rw [handle_eq] <;> rfl
    | true =>
      show lamEnd T (ora0 (callF T Γ Wt j) Wt) dg.N.length l r ((eb τ S).bind fun d S => .ok (.ret d) S) = _
      unfold lamEnd thenS
      dsimp only
      generalize eb τ S = R
      cases R with
      | bad => rfl
      | ok d S' => rfl
      | exc x S' =>
        show fin ((handle T _ x l _ S').bind _) = fin ((handleEv T.sub x _ _ S').bind _)
        rw [handle_eq] <;> rfl
/-- all calls, level by level -/
theorem levels (mod : ModOk G K mg M T P w base) (defs : ∀ i f, G.FA i = some f → ∃ (d : Df) (cdv : Value) (irs : List St), DefAt K d f cdv ∧ Γ[i]? = some ⟨d.ps.length, d.N.length, irs⟩ ∧ cSs 60 (M.cc d) d.body = some irs ∧ LamMk G base mg d cdv)
    (to : ∀ x i, M.lams.lookup x = some i → LamTo K mg M Γ x i) : ∀ j i f, G.FA i = some f → Prom P w K mg base (4 * j) f (spI G (callF T Γ Wt j i))
  | 0, i, f, h => by
    obtain ⟨d, cdv, irs, h1, _⟩ := defs i f h
    exact ⟨h1.1, fun A outer s H us vs Q E hr e0 r ⟨m, S, ds, c, rs, p⟩ => p.elim⟩
  | j + 1, i, f, h => by
    have ih := levels mod defs to j
    obtain ⟨d, cdv, irs, ⟨kp, Sf, params, dV, kV, doc, pm, ct, oc, an, od, osl, lk, hcd, bn⟩, hΓ, hc, mk⟩ := defs i f h
    have pr : Prom P w K mg base (4 * j + 3 + 1) f (spI G fun ds S => if ds.length = d.ps.length then fin (execs T (ora1 T Γ (callF T Γ Wt j) Wt) irs (RA.start d.N.length ds) S) else .bad) :=
      prom_of lk hcd Sf kp bn fun A outer s H E hr => (sndS (G := G) (T := T) 60).ss (stOk_def mod Sf.nd (hr.mono (by omega)) ih rfl rfl rfl rfl rfl rfl fun _ x i ps body scope p lpos pos eb hx hg hn hps hl hb => lam_ok mod Sf.nd hr ih mk to x i ps body scope p lpos pos eb hx hg hn hps hl hb) hc
    have e : callF T Γ Wt (j + 1) i = fun ds S => if ds.length = d.ps.length then fin (execs T (ora1 T Γ (callF T Γ Wt j) Wt) irs (RA.start d.N.length ds) S) else .bad := by
      funext ds S
      show (match Γ[i]? with
        | none => Res.bad
        | some fn => if ds.length = fn.np then fin (execs T (ora1 T Γ (callF T Γ Wt j) Wt) fn.body (RA.start fn.ns ds) S) else .bad) = _
      rw [hΓ]
    rw [e]
    exact pr
end
end RA

set_option Elab.async false
set_option linter.all false
set_option maxRecDepth 100000
set_option maxHeartbeats 4000000
set_option autoImplicit false
/-! B20: the end: the law's own call. -/
namespace RA
open PySem PySem.Spec PyProof.Rows L2 LamX
section
variable {P : Program} {w : World} {K : PySem.W.Frag} {mg mb : Str → Option Value} {k : Nat} {fa a : Addr} {cs : List (Addr × Addr)} {sp : Sp} {s : Shared} {vs : List Value} {ns : List Int}
/-- tracked at the start: the tables, the script unless it is written -/
def hp0 (K : PySem.W.Frag) (a : Addr) (vs : List Value) (ns : List Int) (ts : List Addr) : Hp := fun b =>
  if b ∈ ts then some (.tbl #[]) else if b = a ∧ (K.lookup a).isNone = true then some (.frz { cls := .type "list", data := .seq vs.toArray } (.lst (ns.map V.int))) else none
theorem hp0_cases {ts : List Addr} {b : Addr} : (b ∈ ts ∧ hp0 K a vs ns ts b = some (.tbl #[])) ∨ (b ∉ ts ∧ b = a ∧ K.lookup a = none ∧ hp0 K a vs ns ts b = some (.frz { cls := .type "list", data := .seq vs.toArray } (.lst (ns.map V.int)))) ∨ (b ∉ ts ∧ ¬ (b = a ∧ K.lookup a = none) ∧ hp0 K a vs ns ts b = none) := by
  unfold hp0
  by_cases h1 : b ∈ ts
  · exact .inl ⟨h1, if_pos h1⟩
  · by_cases h2 : b = a ∧ (K.lookup a).isNone = true
    · exact .inr (.inl ⟨h1, h2.1, Option.isNone_iff_eq_none.mp h2.2, by rw [if_neg h1, if_pos h2]⟩)
    · exact .inr (.inr ⟨h1, fun z => h2 ⟨z.1, Option.isNone_iff_eq_none.mpr z.2⟩, by rw [if_neg h1, if_neg h2]⟩)
theorem law_end (KX : K.In s.heap) (gN : s.heap.Ns mainGlobals mg) (bN : s.heap.Ns builtinsNs mb) (bB : ∀ x : Str, x ≠ "__name__" → mb x = bootBuiltins x) (lim : s.heap.NoLimit) (hg : s.gens = #[])
    (tab : ∀ p ∈ cs, s.heap.get? p.2 = some { cls := .none, data := .fields #[] } ∧ K.lookup p.2 = none ∧ PySem.W.CodeHd s.heap p.1 p.2)
    (mod : ∃ (bm : Addr) (ob : Obj), mg "__builtins__" = some (.ref bm) ∧ bm ≠ builtinsNs ∧ s.heap.get? bm = some ob ∧ ob.cls = .type "module" ∧ ob.dict = some builtinsNs ∧ ob.data = .plain)
    (ha : s.heap.get? a = some { cls := .type "list", data := .seq vs.toArray }) (hi : IntsAre vs ns) (hl : ns.length ≤ sizeLine) (hr : RoomG k callerA)
    (F : ∀ base : Heap, K.In base → base.Ns mainGlobals mg → (∀ p ∈ cs, TabB base mg p.1 p.2) → Prom P w K mg base k fa sp)
    (hsp : ∀ H : Hp, (∀ p ∈ cs, H p.2 = some (.tbl #[])) → SqL K H a (ns.map V.int) → sp [.ref a] H (fun v _ => v = .bl true) fun _ _ _ => False) :
    codeAny (model P w) callerA (.call (.ref fa) ⟨[.ref a], []⟩) (fun r s' => r = .ok (.ret (.bool true)) ∧ OldK s.heap s'.heap ∧ s'.os = s.os ∧ AllBare s'.gens) s := by
  have rv := vals_ints hi
  have lv := hi.length
  let ts := cs.map (·.2)
  let H := hp0 K a vs ns ts
  have mem : ∀ {p}, p ∈ cs → p.2 ∈ ts := fun hp => List.mem_map.mpr ⟨_, hp, rfl⟩
  have tabs : ∀ {b}, b ∈ ts → s.heap.get? b = some { cls := .none, data := .fields #[] } ∧ K.lookup b = none ∧ ∃ c, (c, b) ∈ cs := fun hb => by
    obtain ⟨p, hp, e⟩ := List.mem_map.mp hb
    subst e
    exact ⟨(tab p hp).1, (tab p hp).2.1, p.1, hp⟩
  have na : a ∉ ts := fun z => by
    have q := (tabs z).1
    rw [ha] at q
    have := congrArg Obj.data (Option.some.inj q)
    cases this
  have cases_ : ∀ b, (b ∈ ts ∧ H b = some (.tbl #[])) ∨ (b ∉ ts ∧ b = a ∧ K.lookup a = none ∧ H b = some (.frz { cls := .type "list", data := .seq vs.toArray } (.lst (ns.map V.int)))) ∨ (b ∉ ts ∧ ¬ (b = a ∧ K.lookup a = none) ∧ H b = none) := fun b => hp0_cases
  -- what the heap tracks is there
  have hok : L2.HOk P w H s.heap := fun b u e => by
    rcases cases_ b with ⟨h1, h2⟩ | ⟨h1, h2, h3, h4⟩ | ⟨h1, h2, h3⟩
    · rw [h2] at e; cases e
      exact (tabs h1).1
    · rw [h4] at e; cases e
      subst h2
      exact ⟨ha, by rw [List.length_map]; exact hl, vs, _, rv, ha⟩
    · rw [h3] at e; cases e
  have tH : ∀ p ∈ cs, H p.2 = some (.tbl #[]) := fun p hp => by
    rcases cases_ p.2 with z | z | z
    · exact z.2
    · exact absurd (mem hp) z.1
    · exact absurd (mem hp) z.1
  have sq : SqL K H a (ns.map V.int) := by
    cases e : K.lookup a with
    | none =>
      rcases cases_ a with z | z | z
      · exact absurd z.1 na
      · exact .inl (.inr ⟨_, z.2.2.2⟩)
      · exact absurd ⟨rfl, e⟩ z.2.1
    | some o =>
      have q := KX a o e
      rw [ha] at q
      cases q
      exact .inr ⟨_, vs.toArray, _, e, rfl, rfl, rfl, by rw [List.size_toArray, lv]; exact hl, by simpa using rv⟩
  -- what is neither a list nor an empty table is not tracked
  have plain : ∀ {b o}, s.heap.get? b = some o → (∀ xs n, o.data ≠ .seq xs n) → o.data ≠ .fields #[] → H b = none := fun {b o} e h1 h2 => by
    rcases cases_ b with z | z | z
    · rw [(tabs z.1).1] at e; cases e
      exact absurd rfl h2
    · rw [z.2.1, ha] at e; cases e
      exact absurd rfl (h1 _ _)
    · exact z.2.2
  have ofN : ∀ {b : Addr} {m : Str → Option Value}, s.heap.Ns b m → (hidT s.heap H).Ns b m := by
    rintro b m ⟨o, es, ep, e, d, r⟩
    refine ⟨o, es, ep, hidT_get e (plain e ?_ ?_), d, r⟩
    · intro xs n z; rw [d] at z; cases z
    · intro z; rw [d] at z; cases z
  have KB : K.In (hidT s.heap H) := fun b o e => hidT_get (KX b o e) (by
    rcases cases_ b with z | z | z
    · rw [(tabs z.1).2.1] at e; cases e
    · rw [z.2.1, z.2.2.1] at e; cases e
    · exact z.2.2)
  have TB : ∀ p ∈ cs, TabB (hidT s.heap H) mg p.1 p.2 := fun p hp => by
    obtain ⟨t1, _, t3⟩ := tab p hp
    refine ⟨?_, ?_, ?_⟩
    · obtain ⟨o, us, file, tf, flags, tg, inF, text, tt, e1, r1, r2, r3, r4⟩ := t3
      refine ⟨o, us, file, tf, flags, tg, inF, text, tt, hidT_get e1 (plain e1 ?_ ?_), r1, r2, r3, r4⟩
      · intro xs n z; rw [r2] at z; cases z
      · intro z; rw [r2] at z; cases z; simp at r3
    · obtain ⟨bm, ob, b1, b2, b3, b4, b5, b6⟩ := mod
      refine ⟨bm, ob, b1, b2, ?_, ?_, hidT_get b3 (plain b3 ?_ ?_), b4, b5, b6⟩
      · intro q
        obtain ⟨o, es, ep, e, hd, _⟩ := gN
        rw [q, e] at b3; cases b3
        rw [hd] at b6; cases b6
      · intro q; rw [q, t1] at b3; cases b3; cases b6
      · intro xs n z; rw [b6] at z; cases z
      · intro z; rw [b6] at z; cases z
    · intro z
      obtain ⟨o, es, ep, e, hd, _⟩ := gN
      rw [z, t1] at e; cases e; cases hd
  have e0 : Env0 P w K mg (hidT s.heap H) callerA [] s H :=
    { frames := rfl, mod := ⟨KB, ofN gN, ⟨mb, ofN bN, bB⟩, lim.elim fun mc z => ⟨mc, ofN z.1, z.2⟩⟩, bs := fun b o e => of_hidT e, bsz := Nat.le_of_eq (hidT_size _ _), funs := trivial, frf := fun b hb => (nomatch hb), hok := hok, bare := .of_eq hg }
  refine codeAny_mono ((F _ KB (ofN gN) TB).run callerA [] s H [.ref a] [.ref a] _ _ hr e0 (.cons rfl .nil) (hsp H tH sq)) fun r s' h => ?_
  match r, h with
  | .error e, ⟨_, _, _, _, _, _, _, _, _, _, _, _, z⟩ => exact z.elim
  | .ok (.ret u), ⟨v, H', os, bare, un, hok', ru, q⟩ =>
    have q' : v = .bl true := q
    subst q'
    obtain rfl : u = Value.bool true := ru
    have stays : ∀ {b o}, b ∉ ts → s.heap.get? b = some o → s'.heap.get? b = some o := fun {b o} nb e => by
      rcases cases_ b with z | z | z
      · exact absurd z.1 nb
      · have f2 := un.frzs b _ _ z.2.2.2
        have e1 := (hok b _ z.2.2.2).1
        have e2 := (hok' b _ f2).1
        rw [e] at e1; cases e1
        exact e2
      · exact un.keep b o e z.2.2 (fun z => nomatch z) (fun z => nomatch z)
    have grows : ∀ {b}, b ∈ ts → ∃ more : Array Value, s'.heap.get? b = some { cls := .none, data := .fields more } := fun {b} hb => by
      obtain ⟨p, hp, rfl⟩ := List.mem_map.mp hb
      obtain ⟨more, z⟩ := un.tbls p.2 #[] (tH p hp)
      exact ⟨_, hok' _ _ z⟩
    refine ⟨rfl, ⟨fun b o e => ?_, fun b o e => ?_⟩, os, bare⟩
    all_goals by_cases hb : b ∈ ts
    · obtain ⟨t1, t2, c, hc⟩ := tabs hb
      obtain ⟨more, hm⟩ := grows hb
      rw [t1] at e; cases e
      exact .inr (.inl ⟨((tab _ hc).2.2.tab t1).isCodeTable, rfl, #[], more, rfl, by rw [Array.empty_append]; exact hm⟩)
    · exact .inl (stays hb e)
    · obtain ⟨more, hm⟩ := grows hb
      exact ⟨_, hm⟩
    · exact ⟨o, stays hb e⟩
end
/-- the law's promise at the heap h, the tables that it uses -/
def LawP (l : PySem.W.OpenLaw) (w : World) (K : PySem.W.Frag) (k n : Nat) (mg : Str → Option Value) (fa : Addr) (h : Heap) : Prop :=
  ∃ (cs : List (Addr × Addr)) (sp : Sp), (∀ p ∈ cs, h.get? p.2 = some { cls := .none, data := .fields #[] } ∧ K.lookup p.2 = none ∧ PySem.W.CodeHd h p.1 p.2) ∧
    (∀ (H : Hp) (a : Addr) (ns : List Int), ns.length ≤ n → (∀ z ∈ ns, Builtin.Int.intBits z ≤ 1048576) → (∀ p ∈ cs, H p.2 = some (.tbl #[])) → SqL K H a (ns.map V.int) → sp [.ref a] H (fun v _ => v = .bl true) fun _ _ _ => False) ∧
    ∀ base : Heap, K.In base → base.Ns mainGlobals mg → (∀ p ∈ cs, TabB base mg p.1 p.2) → Prom l.prog w K mg base k fa sp
theorem walk_end {l : PySem.W.OpenLaw} {n k : Nat} {q : Program} {loose : List Str} {XP : (Str → Option Value) → Heap → Prop} {YP : World → Heap → Prop} {d : DefRec} {K : Params → PySem.W.Frag}
    (hn : l.most = some n) (hn2 : n ≤ sizeLine) (hdf : d.params.defaults = []) (hr : RoomG k callerA) (hY : ∀ (w : World) (h : Heap), YP w h → (K w.params).In h)
    (F : ∀ (w : World) (s₀ : Shared) (mg mb : Str → Option Value) (fa : Addr) (h : Heap), PyProof.Rows.Top q (PySem.W.looseW q loose) (ExcName.means s₀.heap) mg mb h → YP w h → (K w.params).In h → h.Ns mainGlobals mg → mg d.name = some (.ref fa) → LawP l w (K w.params) k n mg fa h) :
    PySem.W.WalkO q loose XP YP l.row.toRowW d [] (fun f vs => PySem.call f vs) := by
  refine Att.attach_callB hn hdf ?_
  intro w s₀ s₁ mg mb fa o pm cd doc a vs ns G Y ho hd hcd hmg hobj hints hlen hbits hg
  obtain ⟨cs, sp, h1, h2, h3⟩ := F w s₀ mg mb fa _ G.T Y (hY w _ Y) G.T.g hmg
  exact law_end (hY w _ Y) G.T.g G.T.b G.T.builtins G.T.nolimit hg h1 G.T.bmain hobj hints (Nat.le_trans hlen hn2) hr h3 fun H tH sq => h2 H a ns hlen hbits tH sq
/-- what the interpreter's answer gives -/
theorem law_sp {G : Gd} {K : PySem.W.Frag} (hK : K = G.K) {ev : List D → Store → Res D} {H : Hp} {a : Addr} {ns : List Int} (ht : Tabs G.T H) (sq : SqL K H a (ns.map V.int)) (h : ∃ S, ev [.ro (ns.map D.int)] [] = .ok (.bl true) S) :
    spI G ev [.ref a] H (fun v _ => v = .bl true) fun _ _ _ => False := by
  obtain ⟨S, e⟩ := h
  refine ⟨⟨[], []⟩, [], [.ro (ns.map D.int)], ⟨rfl, List.nodup_nil, fun n ds h => (by cases h), (fun a h => nomatch h), ht⟩, .cons (.ro ?_ (VRs.of_ints ns)) .nil, ?_⟩
  · rcases hK ▸ sq with z | z
    · exact .inl ⟨z, ⟨(fun z => nomatch z), (fun z => nomatch z)⟩⟩
    · exact .inr z
  · rw [e]
    intro v m' H' c st r
    cases r
    rfl
end RA

set_option Elab.async false
set_option linter.all false
set_option maxRecDepth 100000
set_option maxHeartbeats 4000000
set_option autoImplicit false
/-! B21: small things for a law's head. -/
namespace RA
open PySem PySem.Spec PyProof.Rows L2 LamX
theorem all_nil {α : Type} {Q : Str → α → Prop} : ∀ x d, ([] : List (Str × α)).lookup x = some d → Q x d := fun x d h => by cases h
theorem all_cons {α : Type} {Q : Str → α → Prop} {y : Str} {e : α} {l : List (Str × α)} (h : Q y e) (t : ∀ x d, l.lookup x = some d → Q x d) : ∀ x d, ((y, e) :: l).lookup x = some d → Q x d := fun x d q => by
  rw [List.lookup_cons] at q
  by_cases hx : (x == y) = true
  · rw [hx] at q
    cases q
    rw [eq_of_beq hx]
    exact h
  · have hx' : (x == y) = false := by simpa using hx
    rw [hx'] at q
    exact t x d q
/-- from the place k on -/
def AllIx {α : Type} (l : List (Option α)) (k : Nat) (Q : Nat → α → Prop) : Prop := ∀ i a, l[i]? = some (some a) → Q (k + i) a
theorem AllIx.nil {α : Type} {k : Nat} {Q : Nat → α → Prop} : AllIx [] k Q := fun i a h => by simp at h
theorem AllIx.some {α : Type} {l : List (Option α)} {k : Nat} {b : α} {Q : Nat → α → Prop} (h : Q k b) (t : AllIx l (k + 1) Q) : AllIx (Option.some b :: l) k Q := fun i a e => by
  cases i with
  | zero => cases e; exact h
  | succ i =>
    have := t i a (by simpa using e)
    rw [show k + (i + 1) = k + 1 + i from by omega]; exact this
theorem AllIx.none {α : Type} {l : List (Option α)} {k : Nat} {Q : Nat → α → Prop} (t : AllIx l (k + 1) Q) : AllIx (Option.none :: l) k Q := fun i a e => by
  cases i with
  | zero => cases e
  | succ i =>
    have := t i a (by simpa using e)
    rw [show k + (i + 1) = k + 1 + i from by omega]; exact this
theorem AllIx.get {α : Type} {l : List (Option α)} {Q : Nat → α → Prop} (h : AllIx l 0 Q) : ∀ i a, l.getD i Option.none = Option.some a → Q i a := fun i a e => by
  have : l[i]? = Option.some (Option.some a) := by
    rw [List.getD_eq_getElem?_getD] at e
    cases q : l[i]? with
    | none => rw [q] at e; cases e
    | some o => rw [q] at e; exact congrArg Option.some e
  have := h i a this
  rwa [Nat.zero_add] at this
theorem free_of {mg : Str → Option Value} (h : ∀ y ∈ freeNames, mg y = none) : ∀ x, isFree x = true → mg x = none := fun x hx => h x (by
  unfold isFree at hx
  simpa using hx)
theorem mem_nil {mg : Str → Option Value} : ∀ y ∈ ([] : List Str), mg y = none := fun y h => nomatch h
theorem mem_cons {mg : Str → Option Value} {x : Str} {l : List Str} (h : mg x = none) (t : ∀ y ∈ l, mg y = none) : ∀ y ∈ x :: l, mg y = none := fun y hy => by
  rcases List.mem_cons.mp hy with e | e
  · rw [e]; exact h
  · exact t y e
theorem exm_mk {K : PySem.W.Frag} {c c' : Addr} {v : Bool} (b : PySem.W.subIn K (.ref c') (.type "BaseException") = some true) (i : PySem.W.isClsIn K c' = true) (t : PySem.W.typeIn K (.ref c') = some (.type "type")) (s : PySem.W.subIn K (.ref c) (.ref c') = some v) : PySem.W.exmOne K (.ref c) (.ref c') = some v := by
  unfold PySem.W.exmOne
  rw [b, if_pos (by decide)]
  unfold PySem.W.kitCls
  have i' : (PySem.W.clsIn K c').isSome = true := i
  dsimp only
  rw [i', t, if_pos (by decide)]
  exact s
theorem roomG_caller {k : Nat} (h : L2.Room k callerA) : RoomG k callerA := ⟨h, rfl⟩
end RA

set_option Elab.async false
set_option linter.all false
set_option maxRecDepth 100000
set_option maxHeartbeats 4000000
set_option autoImplicit false
namespace RA
open PySem PySem.Spec PyProof.Rows PySem.W PySem.Calls
/-- the scope of such an __init__ -/
def iniScope (me x : Str) : Scope := { kind := .function, names := [(me, .local), (x, .local), ("__class__", .free), ("super", .globalImplicit)], isGenerator := false, isCoroutine := false, more := [] }
def iniArgs (me x : Str) (a b : Pos) : Arguments := { posonlyargs := [], args := [{ arg := me, annotation := none, pos := a }, { arg := x, annotation := none, pos := b }], vararg := none, kwonlyargs := [], kw_defaults := [], kwarg := none, defaults := [] }
section
variable {prog : Program} {w : World} {K : Frag} {mg : Str → Option Value} {base : Heap}
def PLX (q : Str) (q0 q1 q2 pj pa pb : Pos) (kV doc pm : Value) (cda : Addr) (ct : Value) (cc : Addr) (an : Option Addr) (p0 p1 p2 p3 p4 p5 p6 p7 p8 : Pos) (L fI : Addr) : Sem Bool := do return (← importBound (.Call (.Name "super" p0) [] [] p1) (callEnv (iniF "__init__" q "self" "given" "given" [.FormattedValue (.Name "given" q0) 114 none q1, .Constant (.str " is given") 0 q2] pj (iniScope "self" "given") .none kV doc pm an (iniArgs "self" "given" pa pb) cda ct cc p0 p1 p2 p3 p4 p5 p6 p7 p8) L fI)).getD true
theorem ini_eval {q : Str} {q0 q1 q2 pj pa pb : Pos} {kV doc pm : Value} {cda : Addr} {ct : Value} {cc : Addr} {an : Option Addr} {p0 p1 p2 p3 p4 p5 p6 p7 p8 : Pos} {L fI : Addr} (hln : (p2.endLine == p3.line) = true) :
    PySem.eval (.Call (.Attribute (.Call (.Name "super" p0) [] [] p1) "__init__" p2) [.JoinedStr [.FormattedValue (.Name "given" q0) 114 none q1, .Constant (.str " is given") 0 q2] pj] [] p3) (callEnv (iniF "__init__" q "self" "given" "given" [.FormattedValue (.Name "given" q0) 114 none q1, .Constant (.str " is given") 0 q2] pj (iniScope "self" "given") .none kV doc pm an (iniArgs "self" "given" pa pb) cda ct cc p0 p1 p2 p3 p4 p5 p6 p7 p8) L fI) = (do
      let ov ← attributeBase (.Call (.Name "super" p0) [] [] p1) "__init__" (callEnv (iniF "__init__" q "self" "given" "given" [.FormattedValue (.Name "given" q0) 114 none q1, .Constant (.str " is given") 0 q2] pj (iniScope "self" "given") .none kV doc pm an (iniArgs "self" "given" pa pb) cda ct cc p0 p1 p2 p3 p4 p5 p6 p7 p8) L fI) (PySem.eval (.Call (.Name "super" p0) [] [] p1) (callEnv (iniF "__init__" q "self" "given" "given" [.FormattedValue (.Name "given" q0) 114 none q1, .Constant (.str " is given") 0 q2] pj (iniScope "self" "given") .none kV doc pm an (iniArgs "self" "given" pa pb) cda ct cc p0 p1 p2 p3 p4 p5 p6 p7 p8) L fI))
      standAt p2.atName
      let (f, first) ← holding [ov] (getMethod ov "__init__" (PLX q q0 q1 q2 pj pa pb kV doc pm cda ct cc an p0 p1 p2 p3 p4 p5 p6 p7 p8 L fI))
      callWith p3 f first (backTo p3 (starEach [.JoinedStr [.FormattedValue (.Name "given" q0) 114 none q1, .Constant (.str " is given") 0 q2] pj] (callEnv (iniF "__init__" q "self" "given" "given" [.FormattedValue (.Name "given" q0) 114 none q1, .Constant (.str " is given") 0 q2] pj (iniScope "self" "given") .none kV doc pm an (iniArgs "self" "given" pa pb) cda ct cc p0 p1 p2 p3 p4 p5 p6 p7 p8) L fI))) []) := by
  rw [arm_eval_Call]
  generalize callEnv (iniF "__init__" q "self" "given" "given" [.FormattedValue (.Name "given" q0) 114 none q1, .Constant (.str " is given") 0 q2] pj (iniScope "self" "given") .none kV doc pm an (iniArgs "self" "given" pa pb) cda ct cc p0 p1 p2 p3 p4 p5 p6 p7 p8) L fI = env
  have form : methodCallForm ([Expr.JoinedStr [.FormattedValue (.Name "given" q0) 114 none q1, .Constant (.str " is given") 0 q2] pj].length + ([] : List Keyword).length) (backTo p3 (starEach [.JoinedStr [.FormattedValue (.Name "given" q0) 114 none q1, .Constant (.str " is given") 0 q2] pj] env)) (backToKw p3 (keywordEach [] env)) = true := rfl
  have at_ : ∀ o, methodCallPos true o env p2 p3 = pure p3 := fun o => by unfold methodCallPos; simp [hln]
  unfold methodCall PLX calleeOf
  rw [form]
  simp only [at_, if_true, pure_bind]
  rfl
theorem keep_self_given {C fI cc cda : Addr} {B i newId : String} {bmB : List Value} {q : Str} {q0 q1 q2 pj pa pb : Pos} {kV doc pm ccl cl ct : Value} {an od cdd cld : Option Addr} {osl ccs csl : Array (Option Value)} {p0 p1 p2 p3 p4 p5 p6 p7 p8 : Pos} {vs : Array Value} {file : Str} {tf : Tok} {cdD : ClassData}
    (mod : L2.Mod K mg base) (FB : ExcBaseFacts B newId i bmB) (KF : KxsFacts B i) (SF : StoreFacts B bmB "object.__setattr__" "object") (hi0 : findIn K (.ref C) "__init__" = some (some (.ref fI)))
    (lk : K.lookup fI = some ⟨.type "function", od, .func (iniF "__init__" q "self" "given" "given" [.FormattedValue (.Name "given" q0) 114 none q1, .Constant (.str " is given") 0 q2] pj (iniScope "self" "given") .none kV doc pm an (iniArgs "self" "given" pa pb) cda ct cc p0 p1 p2 p3 p4 p5 p6 p7 p8), osl⟩) (hcd : codeIn K (.ref cda) q = true) (qC : excInitIn K C bmB newId = true)
    (hln : (p2.endLine == p3.line) = true) (hcode : K.lookup cda = some ⟨ccl, cdd, .fields vs, ccs⟩) (hvs : vs[2]? = some (.str file tf)) (hfile : ((prog.main.file : Str) == file) = true)
    (hcell : K.lookup cc = some ⟨cl, cld, .cell (some (.ref C)), csl⟩) (hD : clsIn K C = some cdD) (hsub : mroIn K C (.ref C) = some true) (hsuper : mg "super" = none)
    (htop : (prog.main.scope.names.lookup ("super" : Str)).isSome = false) (ho : nsIn K cStatics "thirdparty.any" = some none) (hm : ks_superIn K C C "__init__" = some (some (.builtin i))) (hB : subIn K (.ref C) (.type B) = some true)
    (hs : findIn K (.ref C) "__setattr__" = some (some (.builtin "object.__setattr__"))) (hov : excOver K C bmB = true) (ht : takerIn K C "given" = some none) (hh : hasDictIn K C = true) : KeepC prog w base C "given" :=
  keepC_of (oc := .none) (pl := fun L => PLX q q0 q1 q2 pj pa pb kV doc pm cda ct cc an p0 p1 p2 p3 p4 p5 p6 p7 p8 L fI) mod FB KF SF hi0 lk hcd qC rfl rfl hcode hvs hfile hcell hD hsub hsuper rfl rfl rfl rfl (by decide) rfl htop rfl ho hm hB hs hov ht hh (by decide) rfl rfl (fun a b => rfl) (fun L => ini_eval hln) (fun L => rfl) (fun L => rfl) (fun L => rfl) (fun L => rfl) (by decide) (by decide) (by decide)
end
end RA

set_option Elab.async false
set_option linter.all false
set_option maxRecDepth 100000
set_option maxHeartbeats 4000000
set_option autoImplicit false
namespace Law
open PySem PySem.Spec PyProof.Rows L2 LamX RA
def top (i : Nat) : Stmt := PySem.Challenge.pw_roundsalike_k14_errors_of_rows.main.body.getD i (.Pass ⟨0, 0, 0, 0⟩)
def MD : Md := ⟨[(("is_integer" : Str), 0), (("require_width" : Str), 1), (("is_plain_row" : Str), 2), (("lead_in" : Str), 3), (("common_share" : Str), 4), (("lowest_row" : Str), 5), (("is_plain_lot" : Str), 6), (("dot" : Str), 7), (("sum_of_rows" : Str), 8), (("times_row" : Str), 9), (("less_by" : Str), 10), (("rest_by" : Str), 11), (("does_hold" : Str), 12), (("with_row" : Str), 13), (("lot_in" : Str), 14), (("apart_in" : Str), 15), (("is_row" : Str), 16), (("is_lot" : Str), 17), (("require_row" : Str), 18), (("require_rows" : Str), 19), (("require_lot" : Str), 20), (("row_plus" : Str), 21), (("row_times" : Str), 22), (("product" : Str), 23), (("lowest" : Str), 24), (("lot_of" : Str), 25), (("holds" : Str), 26), (("require_two_lots" : Str), 27), (("joined_lots" : Str), 28), (("met_lots" : Str), 29), (("rows_apart" : Str), 30), (("sum_in" : Str), 31), (("span_paper" : Str), 32), (("is_span_paper" : Str), 33), (("_law_dice" : Str), 34), (("_law_roll" : Str), 35), (("_law_pick" : Str), 36), (("_law_one" : Str), 38), (("_law_due" : Str), 39), (("_law_right" : Str), 40), (("law" : Str), 41)], [(("MAX_WIDTH" : Str), .int 120), (("SUM" : Str), .str ("sum" : Str)), (("APART" : Str), .str ("apart" : Str))], [(("RotaError" : Str), 0), (("InvalidRow" : Str), 1), (("InvalidLot" : Str), 2), (("InvalidOperation" : Str), 3)], [(("_law_met" : Str), 37)], [(("InvalidCount" : Str), 4, ("given" : Str))]⟩
def D0 : Df := ⟨"is_integer", [("value" : Str)], [("value" : Str)], defScope (top 10), defBody (top 10), [], false⟩
def D1 : Df := ⟨"require_width", [("width" : Str)], [("width" : Str)], defScope (top 11), defBody (top 11), [], false⟩
def D2 : Df := ⟨"is_plain_row", [("width" : Str), ("value" : Str)], [("width" : Str), ("value" : Str), ("one" : Str)], defScope (top 12), defBody (top 12), [], false⟩
def D3 : Df := ⟨"lead_in", [("row" : Str)], [("row" : Str), ("index" : Str), ("number" : Str)], defScope (top 13), defBody (top 13), [], false⟩
def D4 : Df := ⟨"common_share", [("one" : Str), ("other" : Str)], [("one" : Str), ("other" : Str)], defScope (top 14), defBody (top 14), [], false⟩
def D5 : Df := ⟨"lowest_row", [("row" : Str)], [("row" : Str), ("share" : Str), ("number" : Str)], defScope (top 15), defBody (top 15), [], false⟩
def D6 : Df := ⟨"is_plain_lot", [("width" : Str), ("value" : Str)], [("width" : Str), ("value" : Str), ("row" : Str), ("ahead" : Str), ("place" : Str), ("index" : Str), ("at" : Str), ("other" : Str)], defScope (top 16), defBody (top 16), [], false⟩
def D7 : Df := ⟨"dot", [("one" : Str), ("other" : Str)], [("one" : Str), ("other" : Str), ("left" : Str), ("right" : Str)], defScope (top 17), defBody (top 17), [], false⟩
def D8 : Df := ⟨"sum_of_rows", [("one" : Str), ("other" : Str)], [("one" : Str), ("other" : Str), ("left" : Str), ("right" : Str)], defScope (top 18), defBody (top 18), [], false⟩
def D9 : Df := ⟨"times_row", [("number" : Str), ("row" : Str)], [("number" : Str), ("row" : Str), ("one" : Str)], defScope (top 19), defBody (top 19), [], false⟩
def D10 : Df := ⟨"less_by", [("row" : Str), ("other" : Str)], [("row" : Str), ("other" : Str), ("index" : Str), ("one" : Str), ("two" : Str)], defScope (top 20), defBody (top 20), [], false⟩
def D11 : Df := ⟨"rest_by", [("lot" : Str), ("row" : Str)], [("lot" : Str), ("row" : Str), ("other" : Str)], defScope (top 21), defBody (top 21), [], false⟩
def D12 : Df := ⟨"does_hold", [("lot" : Str), ("row" : Str)], [("lot" : Str), ("row" : Str)], defScope (top 22), defBody (top 22), [], false⟩
def D13 : Df := ⟨"with_row", [("lot" : Str), ("row" : Str)], [("lot" : Str), ("row" : Str), ("left" : Str), ("found" : Str), ("other" : Str)], defScope (top 23), defBody (top 23), [], false⟩
def D14 : Df := ⟨"lot_in", [("rows" : Str)], [("rows" : Str), ("lot" : Str), ("row" : Str)], defScope (top 24), defBody (top 24), [], false⟩
def D15 : Df := ⟨"apart_in", [("width" : Str), ("lot" : Str)], [("width" : Str), ("lot" : Str), ("leads" : Str), ("share" : Str), ("found" : Str), ("row" : Str), ("lead" : Str), ("index" : Str), ("line" : Str)], defScope (top 25), defBody (top 25), [(85, 61), (90, 19)], false⟩
def D16 : Df := ⟨"is_row", [("width" : Str), ("value" : Str)], [("width" : Str), ("value" : Str)], defScope (top 26), defBody (top 26), [], false⟩
def D17 : Df := ⟨"is_lot", [("width" : Str), ("value" : Str)], [("width" : Str), ("value" : Str)], defScope (top 27), defBody (top 27), [], false⟩
def D18 : Df := ⟨"require_row", [("width" : Str), ("row" : Str)], [("width" : Str), ("row" : Str)], defScope (top 28), defBody (top 28), [], false⟩
def D19 : Df := ⟨"require_rows", [("width" : Str), ("rows" : Str)], [("width" : Str), ("rows" : Str), ("row" : Str)], defScope (top 29), defBody (top 29), [], false⟩
def D20 : Df := ⟨"require_lot", [("width" : Str), ("lot" : Str)], [("width" : Str), ("lot" : Str)], defScope (top 30), defBody (top 30), [], false⟩
def D21 : Df := ⟨"row_plus", [("width" : Str), ("one" : Str), ("other" : Str)], [("width" : Str), ("one" : Str), ("other" : Str)], defScope (top 31), defBody (top 31), [], false⟩
def D22 : Df := ⟨"row_times", [("width" : Str), ("number" : Str), ("row" : Str)], [("width" : Str), ("number" : Str), ("row" : Str)], defScope (top 32), defBody (top 32), [], false⟩
def D23 : Df := ⟨"product", [("width" : Str), ("one" : Str), ("other" : Str)], [("width" : Str), ("one" : Str), ("other" : Str)], defScope (top 33), defBody (top 33), [], false⟩
def D24 : Df := ⟨"lowest", [("width" : Str), ("row" : Str)], [("width" : Str), ("row" : Str)], defScope (top 34), defBody (top 34), [], false⟩
def D25 : Df := ⟨"lot_of", [("width" : Str), ("rows" : Str)], [("width" : Str), ("rows" : Str)], defScope (top 35), defBody (top 35), [], false⟩
def D26 : Df := ⟨"holds", [("width" : Str), ("lot" : Str), ("row" : Str)], [("width" : Str), ("lot" : Str), ("row" : Str)], defScope (top 36), defBody (top 36), [], false⟩
def D27 : Df := ⟨"require_two_lots", [("width" : Str), ("lot" : Str), ("other" : Str)], [("width" : Str), ("lot" : Str), ("other" : Str)], defScope (top 37), defBody (top 37), [], false⟩
def D28 : Df := ⟨"joined_lots", [("width" : Str), ("lot" : Str), ("other" : Str)], [("width" : Str), ("lot" : Str), ("other" : Str)], defScope (top 38), defBody (top 38), [], false⟩
def D29 : Df := ⟨"met_lots", [("width" : Str), ("lot" : Str), ("other" : Str)], [("width" : Str), ("lot" : Str), ("other" : Str)], defScope (top 39), defBody (top 39), [], false⟩
def D30 : Df := ⟨"rows_apart", [("width" : Str), ("lot" : Str)], [("width" : Str), ("lot" : Str)], defScope (top 40), defBody (top 40), [], false⟩
def D31 : Df := ⟨"sum_in", [("width" : Str), ("rows" : Str), ("row" : Str)], [("width" : Str), ("rows" : Str), ("row" : Str), ("many" : Str), ("lot" : Str), ("place" : Str), ("line" : Str), ("marks" : Str), ("at" : Str), ("left" : Str), ("told" : Str), ("share" : Str), ("number" : Str)], defScope (top 41), defBody (top 41), [(155, 28)], false⟩
def D32 : Df := ⟨"span_paper", [("width" : Str), ("rows" : Str), ("row" : Str)], [("width" : Str), ("rows" : Str), ("row" : Str), ("found" : Str), ("told" : Str), ("one" : Str)], defScope (top 42), defBody (top 42), [], false⟩
def D33 : Df := ⟨"is_span_paper", [("width" : Str), ("rows" : Str), ("row" : Str), ("value" : Str)], [("width" : Str), ("rows" : Str), ("row" : Str), ("value" : Str), ("line" : Str), ("found" : Str), ("number" : Str)], defScope (top 43), defBody (top 43), [], false⟩
def D34 : Df := ⟨"_law_dice", [("script" : Str), ("spot" : Str)], [("script" : Str), ("spot" : Str), ("cell" : Str), ("great" : Str), ("seed" : Str)], defScope (top 45), defBody (top 45), [(201, 11)], false⟩
def D35 : Df := ⟨"_law_roll", [("dice" : Str), ("total" : Str)], [("dice" : Str), ("total" : Str), ("found" : Str), ("one" : Str), ("two" : Str)], defScope (top 46), defBody (top 46), [], false⟩
def D36 : Df := ⟨"_law_pick", [("dice" : Str), ("items" : Str)], [("dice" : Str), ("items" : Str)], defScope (top 47), defBody (top 47), [], false⟩
def D37 : Df := ⟨"_law_met", [("call" : Str)], [("call" : Str), ("error" : Str)], defScope (top 48), defBody (top 48), [], false⟩
def D38 : Df := ⟨"_law_one", [("dice" : Str), ("right" : Str), ("wrong" : Str)], [("dice" : Str), ("right" : Str), ("wrong" : Str)], defScope (top 49), defBody (top 49), [], false⟩
def D39 : Df := ⟨"_law_due", [("pairs" : Str)], [("pairs" : Str), ("word" : Str), ("is_wrong" : Str)], defScope (top 50), defBody (top 50), [], false⟩
def D40 : Df := ⟨"_law_right", [("dice" : Str)], [("dice" : Str), ("real" : Str), ("width" : Str), ("no_width" : Str), ("bad_rows" : Str), ("one" : Str), ("no_one" : Str), ("other" : Str), ("no_other" : Str), ("bad_lots" : Str), ("lot" : Str), ("no_lot" : Str), ("more" : Str), ("no_more" : Str), ("rows" : Str), ("no_rows" : Str), ("by" : Str), ("no_by" : Str), ("wide" : Str), ("told" : Str), ("due" : Str), ("call" : Str)], defScope (top 51), defBody (top 51), [(243, 11), (246, 10), (247, 11), (250, 10), (251, 11), (254, 10), (259, 11), (262, 10), (263, 11), (266, 10)], true⟩
def D41 : Df := ⟨"law", [("script" : Str)], [("script" : Str), ("spot" : Str), ("dice" : Str), ("turn" : Str), ("told" : Str)], defScope (top 52), defBody (top 52), [], true⟩
def I0 : List RA.St := [(.ret (.and (.bcall .isinst [(.var 0), (.con (.ty "int"))]) (.not (.bcall .isinst [(.var 0), (.con (.ty "bool"))]))))]
def F0 : Fn := ⟨1, 1, I0⟩
def I1 : List RA.St := [(.ite (.or (.not (.call 0 [(.var 0)])) (.not (.chain .le .le (.con (.int 1)) (.var 0) (.con (.int 120))))) [(.raisek 4 ("given" : Str) (.var 0))] [])]
def F1 : Fn := ⟨1, 1, I1⟩
def I2 : List RA.St := [(.ret (.and (.bcall .isinst [(.var 1), (.con (.ty "tuple"))]) (.and (.cmp .eq (.bcall .len [(.var 1)]) (.var 0)) (.bcall .all [(.comp [2] false [2] .val [(.var 1)] (.con (.bl true)) (.call 0 [(.var 2)]))]))))]
def F2 : Fn := ⟨2, 3, I2⟩
def I3 : List RA.St := [(.loop true [1, 2] .enum [(.var 0)] [(.ite (.cmp .ne (.var 2) (.con (.int 0))) [(.ret (.var 1))] [])]),     (.ret (.con .non))]
def F3 : Fn := ⟨1, 3, I3⟩
def I4 : List RA.St := [(.while (.cmp .ne (.var 1) (.con (.int 0))) [(.par [0, 1] [(.var 1), (.bin .mod (.var 0) (.var 1))])]),     (.ret (.bcall .abs [(.var 0)]))]
def F4 : Fn := ⟨2, 2, I4⟩
def I5 : List RA.St := [(.asg 1 (.con (.int 0))),     (.loop false [2] .val [(.var 0)] [(.asg 1 (.call 4 [(.var 1), (.var 2)]))]),     (.ite (.cmp .eq (.var 1) (.con (.int 0))) [(.ret (.bcall .tuple [(.var 0)]))] []),     (.ite (.cmp .lt (.sub (.var 0) (.call 3 [(.var 0)])) (.con (.int 0))) [(.asg 1 (.bin .sub (.con (.int 0)) (.var 1)))] []),     (.ret (.bcall .tuple [(.comp [2] false [2] .val [(.var 0)] (.con (.bl true)) (.bin .fdiv (.var 2) (.var 1)))]))]
def F5 : Fn := ⟨1, 3, I5⟩
def I6 : List RA.St := [(.ite (.or (.not (.bcall .isinst [(.var 1), (.con (.ty "tuple"))])) (.not (.bcall .all [(.comp [2] false [2] .val [(.var 1)] (.con (.bl true)) (.call 2 [(.var 0), (.var 2)]))]))) [(.ret (.con (.bl false)))] []),     (.asg 3 (.neg (.con (.int 1)))),     (.loop true [4, 2] .enum [(.var 1)] [(.asg 5 (.call 3 [(.var 2)])),     (.ite (.or (.cmp .is (.var 5) (.con .non)) (.or (.cmp .le (.var 5) (.var 3)) (.cmp .ne (.call 5 [(.var 2)]) (.var 2)))) [(.ret (.con (.bl false)))] []),     (.ite (.bcall .any [(.comp [6, 7] true [6, 7] .enum [(.var 1)] (.cmp .ne (.var 6) (.var 4)) (.cmp .ne (.sub (.var 7) (.var 5)) (.con (.int 0))))]) [(.ret (.con (.bl false)))] []),     (.asg 3 (.var 5))]),     (.ret (.con (.bl true)))]
def F6 : Fn := ⟨2, 8, I6⟩
def I7 : List RA.St := [(.ret (.bcall .sum [(.comp [2, 3] true [2, 3] .zip [(.var 0), (.var 1)] (.con (.bl true)) (.bin .mul (.var 2) (.var 3)))]))]
def F7 : Fn := ⟨2, 4, I7⟩
def I8 : List RA.St := [(.ret (.bcall .tuple [(.comp [2, 3] true [2, 3] .zip [(.var 0), (.var 1)] (.con (.bl true)) (.bin .add (.var 2) (.var 3)))]))]
def F8 : Fn := ⟨2, 4, I8⟩
def I9 : List RA.St := [(.ret (.bcall .tuple [(.comp [2] false [2] .val [(.var 1)] (.con (.bl true)) (.bin .mul (.var 0) (.var 2)))]))]
def F9 : Fn := ⟨2, 3, I9⟩
def I10 : List RA.St := [(.asg 2 (.call 3 [(.var 1)])),     (.ite (.cmp .eq (.sub (.var 0) (.var 2)) (.con (.int 0))) [(.ret (.var 0))] []),     (.ret (.bcall .tuple [(.comp [3, 4] true [3, 4] .zip [(.var 0), (.var 1)] (.con (.bl true)) (.bin .sub (.bin .mul (.sub (.var 1) (.var 2)) (.var 3)) (.bin .mul (.sub (.var 0) (.var 2)) (.var 4))))]))]
def F10 : Fn := ⟨2, 5, I10⟩
def I11 : List RA.St := [(.loop false [2] .val [(.var 0)] [(.asg 1 (.call 10 [(.var 1), (.var 2)]))]),     (.ret (.var 1))]
def F11 : Fn := ⟨2, 3, I11⟩
def I12 : List RA.St := [(.ret (.cmp .is (.call 3 [(.call 11 [(.var 0), (.var 1)])]) (.con .non)))]
def F12 : Fn := ⟨2, 2, I12⟩
def I13 : List RA.St := [(.asg 2 (.call 5 [(.call 11 [(.var 0), (.var 1)])])),     (.ite (.cmp .is (.call 3 [(.var 2)]) (.con .non)) [(.ret (.var 0))] []),     (.asg 3 (.bin .add (.comp [4] false [4] .val [(.var 0)] (.con (.bl true)) (.call 5 [(.call 10 [(.var 4), (.var 2)])])) (.lst [(.var 2)]))),     (.ret (.bcall .tuple [(.sortk 3 (.var 3))]))]
def F13 : Fn := ⟨2, 5, I13⟩
def I14 : List RA.St := [(.asg 1 (.tup [])),     (.loop false [2] .val [(.var 0)] [(.asg 1 (.call 13 [(.var 1), (.var 2)]))]),     (.ret (.var 1))]
def F14 : Fn := ⟨1, 3, I14⟩
def I15 : List RA.St := [(.par [2, 3, 4] [(.comp [5] false [5] .val [(.var 1)] (.con (.bl true)) (.call 3 [(.var 5)])), (.con (.int 1)), (.new (.lst []))]),     (.loop true [6, 5] .zip [(.var 2), (.var 1)] [(.asg 3 (.bin .mul (.var 3) (.sub (.var 5) (.var 6))))]),     (.loop false [7] .rng1 [(.var 0)] [(.ite (.cmp .nin (.var 7) (.var 2)) [(.asg 8 (.new (.bin .mul (.new (.lst [(.con (.int 0))])) (.var 0)))),     (.seti (.var 8) (.var 7) (.var 3)),     (.loop true [6, 5] .zip [(.var 2), (.var 1)] [(.seti (.var 8) (.var 6) (.bin .sub (.con (.int 0)) (.bin .mul (.sub (.var 5) (.var 7)) (.bin .fdiv (.var 3) (.sub (.var 5) (.var 6))))))]),     (.exp (.append (.var 4) (.bcall .tuple [(.var 8)])))] [])]),     (.ret (.call 14 [(.var 4)]))]
def F15 : Fn := ⟨2, 9, I15⟩
def I16 : List RA.St := [(.exp (.call 1 [(.var 0)])),     (.ret (.call 2 [(.var 0), (.var 1)]))]
def F16 : Fn := ⟨2, 2, I16⟩
def I17 : List RA.St := [(.exp (.call 1 [(.var 0)])),     (.ret (.call 6 [(.var 0), (.var 1)]))]
def F17 : Fn := ⟨2, 2, I17⟩
def I18 : List RA.St := [(.ite (.not (.call 2 [(.var 0), (.var 1)])) [(.raise 1 [])] [])]
def F18 : Fn := ⟨2, 2, I18⟩
def I19 : List RA.St := [(.ite (.or (.not (.bcall .isinst [(.var 1), (.con (.ty "tuple"))])) (.not (.bcall .all [(.comp [2] false [2] .val [(.var 1)] (.con (.bl true)) (.call 2 [(.var 0), (.var 2)]))]))) [(.raise 1 [])] [])]
def F19 : Fn := ⟨2, 3, I19⟩
def I20 : List RA.St := [(.ite (.not (.call 6 [(.var 0), (.var 1)])) [(.raise 2 [])] [])]
def F20 : Fn := ⟨2, 2, I20⟩
def I21 : List RA.St := [(.exp (.call 1 [(.var 0)])),     (.exp (.call 18 [(.var 0), (.var 1)])),     (.exp (.call 18 [(.var 0), (.var 2)])),     (.ret (.call 8 [(.var 1), (.var 2)]))]
def F21 : Fn := ⟨3, 3, I21⟩
def I22 : List RA.St := [(.exp (.call 1 [(.var 0)])),     (.ite (.not (.call 0 [(.var 1)])) [(.raise 3 [])] []),     (.exp (.call 18 [(.var 0), (.var 2)])),     (.ret (.call 9 [(.var 1), (.var 2)]))]
def F22 : Fn := ⟨3, 3, I22⟩
def I23 : List RA.St := [(.exp (.call 1 [(.var 0)])),     (.exp (.call 18 [(.var 0), (.var 1)])),     (.exp (.call 18 [(.var 0), (.var 2)])),     (.ret (.call 7 [(.var 1), (.var 2)]))]
def F23 : Fn := ⟨3, 3, I23⟩
def I24 : List RA.St := [(.exp (.call 1 [(.var 0)])),     (.exp (.call 18 [(.var 0), (.var 1)])),     (.ret (.call 5 [(.var 1)]))]
def F24 : Fn := ⟨2, 2, I24⟩
def I25 : List RA.St := [(.exp (.call 1 [(.var 0)])),     (.exp (.call 19 [(.var 0), (.var 1)])),     (.ret (.call 14 [(.var 1)]))]
def F25 : Fn := ⟨2, 2, I25⟩
def I26 : List RA.St := [(.exp (.call 1 [(.var 0)])),     (.exp (.call 20 [(.var 0), (.var 1)])),     (.exp (.call 18 [(.var 0), (.var 2)])),     (.ret (.call 12 [(.var 1), (.var 2)]))]
def F26 : Fn := ⟨3, 3, I26⟩
def I27 : List RA.St := [(.exp (.call 1 [(.var 0)])),     (.exp (.call 20 [(.var 0), (.var 1)])),     (.exp (.call 20 [(.var 0), (.var 2)]))]
def F27 : Fn := ⟨3, 3, I27⟩
def I28 : List RA.St := [(.exp (.call 27 [(.var 0), (.var 1), (.var 2)])),     (.ret (.call 14 [(.bin .add (.var 1) (.var 2))]))]
def F28 : Fn := ⟨3, 3, I28⟩
def I29 : List RA.St := [(.exp (.call 27 [(.var 0), (.var 1), (.var 2)])),     (.ret (.call 15 [(.var 0), (.call 14 [(.bin .add (.call 15 [(.var 0), (.var 1)]) (.call 15 [(.var 0), (.var 2)]))])]))]
def F29 : Fn := ⟨3, 3, I29⟩
def I30 : List RA.St := [(.exp (.call 1 [(.var 0)])),     (.exp (.call 20 [(.var 0), (.var 1)])),     (.ret (.call 15 [(.var 0), (.var 1)]))]
def F30 : Fn := ⟨2, 2, I30⟩
def I31 : List RA.St := [(.par [3, 4] [(.bcall .len [(.var 1)]), (.new (.lst []))]),     (.loop true [5, 6] .enum [(.var 1)] [(.asg 7 (.bcall .tuple [(.comp [8] false [8] .rng1 [(.bin .add (.var 3) (.con (.int 1)))] (.con (.bl true)) (.ife (.cmp .eq (.var 8) (.var 5)) (.con (.int 1)) (.con (.int 0))))])),     (.asg 9 (.call 11 [(.var 4), (.bin .add (.var 6) (.var 7))])),     (.ite (.cmp .isn (.call 3 [(.slice (.var 9) (.con .non) (.ofInt (.var 0)))]) (.con .non)) [(.exp (.append (.var 4) (.call 5 [(.var 9)])))] [])]),     (.asg 9 (.call 11 [(.var 4), (.bin .add (.bin .add (.var 2) (.bin .mul (.tup [(.con (.int 0))]) (.var 3))) (.tup [(.con (.int 1))]))])),     (.ite (.cmp .isn (.call 3 [(.slice (.var 9) (.con .non) (.ofInt (.var 0)))]) (.con .non)) [(.ret (.con .non))] []),     (.asg 10 (.slice (.var 9) (.ofInt (.var 0)) (.con .non))),     (.asg 11 (.con (.int 0))),     (.loop false [12] .val [(.var 10)] [(.asg 11 (.call 4 [(.var 11), (.var 12)]))]),     (.ret (.tup [(.bin .fdiv (.sub (.var 10) (.neg (.con (.int 1)))) (.var 11)), (.bcall .tuple [(.comp [12] false [12] .val [(.slice (.var 10) (.con .non) (.ofInt (.neg (.con (.int 1)))))] (.con (.bl true)) (.bin .sub (.con (.int 0)) (.bin .fdiv (.var 12) (.var 11))))])]))]
def F31 : Fn := ⟨3, 13, I31⟩
def I32 : List RA.St := [(.exp (.call 1 [(.var 0)])),     (.exp (.call 19 [(.var 0), (.var 1)])),     (.exp (.call 18 [(.var 0), (.var 2)])),     (.asg 3 (.call 31 [(.var 0), (.var 1), (.var 2)])),     (.ite (.cmp .isn (.var 3) (.con .non)) [(.ret (.bin .add (.tup [(.con (.str ("sum" : Str)))]) (.bin .add (.bcall .tuple [(.var 3)]) (.tup []))))] []),     (.asg 4 (.comp [5] false [5] .val [(.call 15 [(.var 0), (.call 14 [(.var 1)])])] (.cmp .ne (.call 7 [(.var 5), (.var 2)]) (.con (.int 0))) (.var 5))),     (.ret (.tup [(.con (.str ("apart" : Str))), (.sub (.var 4) (.con (.int 0)))]))]
def F32 : Fn := ⟨3, 6, I32⟩
def I33 : List RA.St := [(.exp (.call 1 [(.var 0)])),     (.exp (.call 19 [(.var 0), (.var 1)])),     (.exp (.call 18 [(.var 0), (.var 2)])),     (.ite (.or (.not (.bcall .isinst [(.var 3), (.con (.ty "tuple"))])) (.or (.cmp .eq (.var 3) (.tup [])) (.not (.bcall .isinst [(.sub (.var 3) (.con (.int 0))), (.con (.ty "str"))])))) [(.ret (.con (.bl false)))] []),     (.ite (.cmp .eq (.sub (.var 3) (.con (.int 0))) (.con (.str ("apart" : Str)))) [(.ite (.or (.cmp .ne (.bcall .len [(.var 3)]) (.con (.int 2))) (.not (.call 2 [(.var 0), (.sub (.var 3) (.con (.int 1)))]))) [(.ret (.con (.bl false)))] []),     (.ret (.and (.bcall .all [(.comp [4] false [4] .val [(.var 1)] (.con (.bl true)) (.cmp .eq (.call 7 [(.var 4), (.sub (.var 3) (.con (.int 1)))]) (.con (.int 0))))]) (.cmp .ne (.call 7 [(.var 2), (.sub (.var 3) (.con (.int 1)))]) (.con (.int 0)))))] []),     (.ite (.or (.cmp .ne (.sub (.var 3) (.con (.int 0))) (.con (.str ("sum" : Str)))) (.or (.cmp .ne (.bcall .len [(.var 3)]) (.con (.int 3))) (.or (.not (.call 0 [(.sub (.var 3) (.con (.int 1)))])) (.cmp .lt (.sub (.var 3) (.con (.int 1))) (.con (.int 1)))))) [(.ret (.con (.bl false)))] []),     (.ite (.not (.call 2 [(.bcall .len [(.var 1)]), (.sub (.var 3) (.con (.int 2)))])) [(.ret (.con (.bl false)))] []),     (.asg 5 (.bin .mul (.tup [(.con (.int 0))]) (.var 0))),     (.loop true [6, 4] .zip [(.sub (.var 3) (.con (.int 2))), (.var 1)] [(.asg 5 (.call 8 [(.var 5), (.call 9 [(.var 6), (.var 4)])]))]),     (.ret (.cmp .eq (.var 5) (.call 9 [(.sub (.var 3) (.con (.int 1))), (.var 2)])))]
def F33 : Fn := ⟨4, 7, I33⟩
def I34 : List RA.St := [(.asg 2 (.ife (.cmp .lt (.var 1) (.bcall .len [(.var 0)])) (.bcall .int [(.sub (.var 0) (.var 1))]) (.bin .add (.bin .mul (.con (.int 131)) (.var 1)) (.con (.int 37))))),     (.asg 3 (.bin .mod (.bcall .int [(.bcall .abs [(.var 2)])]) (.bin .pow (.bin .pow (.con (.int 10)) (.con (.int 53))) (.con (.int 6))))),     (.asg 4 (.bin .add (.bin .add (.bin .add (.bin .mul (.bin .mod (.var 3) (.con (.int 2305843009213693907))) (.con (.int 73))) (.bin .mul (.con (.int 619)) (.var 1))) (.bin .mul (.con (.int 41)) (.bcall .int [(.cmp .lt (.var 2) (.con (.int 0)))]))) (.con (.int 17)))),     (.ret (.new (.lst [(.bcall .max [(.con (.int 0)), (.bin .sub (.var 3) (.bin .pow (.con (.int 10)) (.con (.int 16))))]), (.var 4), (.con (.int 0))])))]
def F34 : Fn := ⟨2, 5, I34⟩
def I35 : List RA.St := [(.ite (.cmp .gt (.sub (.var 0) (.con (.int 0))) (.con (.int 0))) [(.asg 2 (.bin .mod (.sub (.var 0) (.con (.int 0))) (.var 1))),     (.seti (.var 0) (.con (.int 0)) (.bin .fdiv (.sub (.var 0) (.con (.int 0))) (.var 1))),     (.ret (.bcall .int [(.var 2)]))] []),     (.seti (.var 0) (.con (.int 2)) (.bin .add (.sub (.var 0) (.con (.int 2))) (.con (.int 1)))),     (.asg 3 (.bin .mod (.bin .add (.sub (.var 0) (.con (.int 1))) (.bin .mul (.con (.int 49979687)) (.sub (.var 0) (.con (.int 2))))) (.con (.int 2305843009213693951)))),     (.asg 4 (.bin .add (.bin .mul (.bin .mod (.bin .add (.bin .mul (.var 3) (.var 3)) (.bin .mul (.con (.int 131)) (.sub (.var 0) (.con (.int 2))))) (.con (.int 2305843009213693921))) (.con (.int 32452843))) (.var 3))),     (.ret (.bin .mod (.bcall .int [(.bin .fdiv (.var 4) (.con (.int 65587)))]) (.var 1)))]
def F35 : Fn := ⟨2, 5, I35⟩
def I36 : List RA.St := [(.ret (.sub (.var 1) (.call 35 [(.var 0), (.bcall .len [(.var 1)])])))]
def F36 : Fn := ⟨2, 2, I36⟩
def I37 : List RA.St := [(.tri [(.exp .thunk)] [(.mk 4 (some 1) [(.ret (.bin .add (.con (.str ("count " : Str))) (.bcall .repr [(.exf 4 ("given" : Str))])))]), (.mk 1 none [(.ret (.con (.str ("row" : Str))))]), (.mk 2 none [(.ret (.con (.str ("lot" : Str))))]), (.mk 3 none [(.ret (.con (.str ("operation" : Str))))])]),     (.ret (.con (.str ("fine" : Str))))]
def F37 : Fn := ⟨1, 2, I37⟩
def I38 : List RA.St := [(.ite (.cmp .gt (.call 35 [(.var 0), (.con (.int 3))]) (.con (.int 0))) [(.ret (.tup [(.var 1), (.con (.bl false))]))] []),     (.ret (.tup [(.call 36 [(.var 0), (.var 2)]), (.con (.bl true))]))]
def F38 : Fn := ⟨3, 3, I38⟩
def I39 : List RA.St := [(.ret (.sub (.bin .add (.comp [1, 2] true [1, 2] .val [(.var 0)] (.var 2) (.var 1)) (.lst [(.con (.str ("fine" : Str)))])) (.con (.int 0))))]
def F39 : Fn := ⟨1, 3, I39⟩
def I40 : List RA.St := [(.asg 1 (.bin .add (.con (.int 1)) (.call 35 [(.var 0), (.con (.int 4))]))),     (.asgT [2, 3] (.call 38 [(.var 0), (.var 1), (.lst [(.con (.int 0)), (.con (.int 121)), (.neg (.con (.int 1))), (.con (.bl true)), (.con .non), (.con (.str ("2" : Str))), (.tup [(.con (.int 2))]), (.bin .pow (.con (.int 10)) (.con (.int 30)))])])),     (.asg 4 (.lst [(.con .non), (.tup []), (.bin .mul (.tup [(.con (.int 0))]) (.bin .add (.var 1) (.con (.int 1)))), (.bin .mul (.lst [(.con (.int 0))]) (.var 1)), (.bin .mul (.tup [(.con .non)]) (.var 1)), (.bin .mul (.tup [(.con (.bl true))]) (.var 1)), (.con (.int 0)), (.bin .mul (.tup [(.con (.str ("0" : Str)))]) (.var 1)), (.con (.vd [] []))])),     (.asgT [5, 6] (.call 38 [(.var 0), (.bin .mul (.tup [(.con (.int 2))]) (.var 1)), (.var 4)])),     (.asgT [7, 8] (.call 38 [(.var 0), (.bin .mul (.tup [(.con (.int 0))]) (.var 1)), (.var 4)])),     (.asg 9 (.lst [(.con .non), (.lst [(.tup [])]), (.tup [(.bin .mul (.tup [(.con (.int 0))]) (.var 1))]), (.tup [(.bin .mul (.tup [(.con (.int 2))]) (.var 1))]), (.tup [(.bin .mul (.tup [(.con (.int 1))]) (.bin .add (.var 1) (.con (.int 1))))]), (.con (.int 0)), (.tup [(.bin .mul (.tup [(.con (.bl true))]) (.var 1))]), (.con (.vd [] []))])),     (.asgT [10, 11] (.call 38 [(.var 0), (.tup [(.bin .mul (.tup [(.con (.int 1))]) (.var 1))]), (.var 9)])),     (.asgT [12, 13] (.call 38 [(.var 0), (.tup []), (.var 9)])),     (.asgT [14, 15] (.call 38 [(.var 0), (.tup [(.bin .mul (.tup [(.con (.int 3))]) (.var 1))]), (.lst [(.con .non), (.lst [(.bin .mul (.tup [(.con (.int 3))]) (.var 1))]), (.tup [(.bin .mul (.tup [(.con (.int 3))]) (.bin .add (.var 1) (.con (.int 1))))]), (.tup [(.con .non)]), (.tup [(.bin .mul (.tup [(.con (.bl true))]) (.var 1))]), (.con (.int 0))])])),     (.asgT [16, 17] (.call 38 [(.var 0), (.neg (.con (.int 4))), (.lst [(.con .non), (.con (.bl true)), (.con (.str ("3" : Str))), (.tup [(.con (.int 1))]), (.lst [])])])),     (.asg 18 (.tup [(.bin .add (.con (.str ("count " : Str))) (.bcall .repr [(.var 2)])), (.var 3)])),     (.asg 19 (.new (.lst [(.lam 37 (.call 21 [(.var 2), (.var 5), (.var 7)])), (.lam 37 (.call 22 [(.var 2), (.var 16), (.var 5)]))]))),     (.asg 20 (.new (.lst [(.call 39 [(.lst [(.var 18), (.tup [(.con (.str ("row" : Str))), (.var 6)]), (.tup [(.con (.str ("row" : Str))), (.var 8)])])]), (.call 39 [(.lst [(.var 18), (.tup [(.con (.str ("operation" : Str))), (.var 17)]), (.tup [(.con (.str ("row" : Str))), (.var 6)])])])]))),     (.asg 19 (.new (.bin .add (.var 19) (.lst [(.lam 37 (.call 23 [(.var 2), (.var 5), (.var 7)])), (.lam 37 (.call 24 [(.var 2), (.var 5)]))])))),     (.asg 20 (.new (.bin .add (.var 20) (.lst [(.call 39 [(.lst [(.var 18), (.tup [(.con (.str ("row" : Str))), (.var 6)]), (.tup [(.con (.str ("row" : Str))), (.var 8)])])]), (.call 39 [(.lst [(.var 18), (.tup [(.con (.str ("row" : Str))), (.var 6)])])])])))),     (.asg 19 (.new (.bin .add (.var 19) (.lst [(.lam 37 (.call 25 [(.var 2), (.var 14)])), (.lam 37 (.call 26 [(.var 2), (.var 10), (.var 5)]))])))),     (.asg 20 (.new (.bin .add (.var 20) (.lst [(.call 39 [(.lst [(.var 18), (.tup [(.con (.str ("row" : Str))), (.var 15)])])]), (.call 39 [(.lst [(.var 18), (.tup [(.con (.str ("lot" : Str))), (.var 11)]), (.tup [(.con (.str ("row" : Str))), (.var 6)])])])])))),     (.loop false [21] .val [(.tup [(.con (.fn 28)), (.con (.fn 29))])] [(.exp (.append (.var 19) (.lam 37 (.callv (.var 21) [(.var 2), (.var 10), (.var 12)])))),     (.exp (.append (.var 20) (.call 39 [(.lst [(.var 18), (.tup [(.con (.str ("lot" : Str))), (.var 11)]), (.tup [(.con (.str ("lot" : Str))), (.var 13)])])])))]),     (.asg 19 (.new (.bin .add (.var 19) (.lst [(.lam 37 (.call 30 [(.var 2), (.var 10)])), (.lam 37 (.call 32 [(.var 2), (.var 14), (.var 5)]))])))),     (.asg 20 (.new (.bin .add (.var 20) (.lst [(.call 39 [(.lst [(.var 18), (.tup [(.con (.str ("lot" : Str))), (.var 11)])])]), (.call 39 [(.lst [(.var 18), (.tup [(.con (.str ("row" : Str))), (.var 15)]), (.tup [(.con (.str ("row" : Str))), (.var 6)])])])])))),     (.asg 19 (.new (.bin .add (.var 19) (.lst [(.lam 37 (.call 16 [(.var 2), (.var 5)])), (.lam 37 (.call 17 [(.var 2), (.var 10)]))])))),     (.asg 20 (.new (.bin .add (.var 20) (.bin .mul (.lst [(.call 39 [(.lst [(.var 18)])])]) (.con (.int 2)))))),     (.exp (.append (.var 19) (.lam 37 (.call 33 [(.var 2), (.var 14), (.var 5), (.con .non)])))),     (.exp (.append (.var 20) (.call 39 [(.lst [(.var 18), (.tup [(.con (.str ("row" : Str))), (.var 15)]), (.tup [(.con (.str ("row" : Str))), (.var 6)])])]))),     (.ret (.cmp .eq (.var 19) (.var 20)))]
def F40 : Fn := ⟨1, 22, I40⟩
def I41 : List RA.St := [(.loop false [1] .rng1 [(.bcall .max [(.con (.int 1)), (.bcall .min [(.con (.int 6)), (.bcall .len [(.var 0)])])])] [(.asg 2 (.call 34 [(.var 0), (.var 1)])),     (.loop false [3] .rng1 [(.con (.int 6))] [(.ite (.not (.call 40 [(.var 2)])) [(.ret (.con (.bl false)))] [])])]),     (.asg 4 (.lst [(.lam 37 (.call 24 [(.con (.int 120)), (.bin .mul (.tup [(.con (.int 1))]) (.con (.int 120)))])), (.lam 37 (.call 24 [(.con (.int 1)), (.tup [(.con (.int 0))])])), (.lam 37 (.call 25 [(.con (.int 3)), (.tup [])]))])),     (.ret (.and (.cmp .eq (.con (.int 120)) (.con (.int 120))) (.cmp .eq (.var 4) (.bin .mul (.lst [(.con (.str ("fine" : Str)))]) (.con (.int 3))))))]
def F41 : Fn := ⟨1, 5, I41⟩
def GA : List Fn := [F0, F1, F2, F3, F4, F5, F6, F7, F8, F9, F10, F11, F12, F13, F14, F15, F16, F17, F18, F19, F20, F21, F22, F23, F24, F25, F26, F27, F28, F29, F30, F31, F32, F33, F34, F35, F36, F37, F38, F39, F40, F41]
def TC : Cls := ⟨fun i j => [(0, 0), (1, 0), (1, 1), (2, 0), (2, 2), (3, 0), (3, 3), (4, 4)].contains (i, j), fun _ => []⟩
set_option maxRecDepth 100000
theorem ci0 : cSs 60 (MD.cc D0) D0.body = some I0 := by kernel_rfl
theorem sc0 : FnScope D0.N D0.ps D0.scope := ⟨rfl, rfl, rfl, by decide +kernel, rfl, by decide +kernel, by decide +kernel⟩
theorem ci1 : cSs 60 (MD.cc D1) D1.body = some I1 := by kernel_rfl
theorem sc1 : FnScope D1.N D1.ps D1.scope := ⟨rfl, rfl, rfl, by decide +kernel, rfl, by decide +kernel, by decide +kernel⟩
theorem ci2 : cSs 60 (MD.cc D2) D2.body = some I2 := by kernel_rfl
theorem sc2 : FnScope D2.N D2.ps D2.scope := ⟨rfl, rfl, rfl, by decide +kernel, rfl, by decide +kernel, by decide +kernel⟩
theorem ci3 : cSs 60 (MD.cc D3) D3.body = some I3 := by kernel_rfl
theorem sc3 : FnScope D3.N D3.ps D3.scope := ⟨rfl, rfl, rfl, by decide +kernel, rfl, by decide +kernel, by decide +kernel⟩
theorem ci4 : cSs 60 (MD.cc D4) D4.body = some I4 := by kernel_rfl
theorem sc4 : FnScope D4.N D4.ps D4.scope := ⟨rfl, rfl, rfl, by decide +kernel, rfl, by decide +kernel, by decide +kernel⟩
theorem ci5 : cSs 60 (MD.cc D5) D5.body = some I5 := by kernel_rfl
theorem sc5 : FnScope D5.N D5.ps D5.scope := ⟨rfl, rfl, rfl, by decide +kernel, rfl, by decide +kernel, by decide +kernel⟩
theorem ci6 : cSs 60 (MD.cc D6) D6.body = some I6 := by kernel_rfl
theorem sc6 : FnScope D6.N D6.ps D6.scope := ⟨rfl, rfl, rfl, by decide +kernel, rfl, by decide +kernel, by decide +kernel⟩
theorem ci7 : cSs 60 (MD.cc D7) D7.body = some I7 := by kernel_rfl
theorem sc7 : FnScope D7.N D7.ps D7.scope := ⟨rfl, rfl, rfl, by decide +kernel, rfl, by decide +kernel, by decide +kernel⟩
theorem ci8 : cSs 60 (MD.cc D8) D8.body = some I8 := by kernel_rfl
theorem sc8 : FnScope D8.N D8.ps D8.scope := ⟨rfl, rfl, rfl, by decide +kernel, rfl, by decide +kernel, by decide +kernel⟩
theorem ci9 : cSs 60 (MD.cc D9) D9.body = some I9 := by kernel_rfl
theorem sc9 : FnScope D9.N D9.ps D9.scope := ⟨rfl, rfl, rfl, by decide +kernel, rfl, by decide +kernel, by decide +kernel⟩
theorem ci10 : cSs 60 (MD.cc D10) D10.body = some I10 := by kernel_rfl
theorem sc10 : FnScope D10.N D10.ps D10.scope := ⟨rfl, rfl, rfl, by decide +kernel, rfl, by decide +kernel, by decide +kernel⟩
theorem ci11 : cSs 60 (MD.cc D11) D11.body = some I11 := by kernel_rfl
theorem sc11 : FnScope D11.N D11.ps D11.scope := ⟨rfl, rfl, rfl, by decide +kernel, rfl, by decide +kernel, by decide +kernel⟩
theorem ci12 : cSs 60 (MD.cc D12) D12.body = some I12 := by kernel_rfl
theorem sc12 : FnScope D12.N D12.ps D12.scope := ⟨rfl, rfl, rfl, by decide +kernel, rfl, by decide +kernel, by decide +kernel⟩
theorem ci13 : cSs 60 (MD.cc D13) D13.body = some I13 := by kernel_rfl
theorem sc13 : FnScope D13.N D13.ps D13.scope := ⟨rfl, rfl, rfl, by decide +kernel, rfl, by decide +kernel, by decide +kernel⟩
theorem ci14 : cSs 60 (MD.cc D14) D14.body = some I14 := by kernel_rfl
theorem sc14 : FnScope D14.N D14.ps D14.scope := ⟨rfl, rfl, rfl, by decide +kernel, rfl, by decide +kernel, by decide +kernel⟩
theorem ci15 : cSs 60 (MD.cc D15) D15.body = some I15 := by kernel_rfl
theorem sc15 : FnScope D15.N D15.ps D15.scope := ⟨rfl, rfl, rfl, by decide +kernel, rfl, by decide +kernel, by decide +kernel⟩
theorem ci16 : cSs 60 (MD.cc D16) D16.body = some I16 := by kernel_rfl
theorem sc16 : FnScope D16.N D16.ps D16.scope := ⟨rfl, rfl, rfl, by decide +kernel, rfl, by decide +kernel, by decide +kernel⟩
theorem ci17 : cSs 60 (MD.cc D17) D17.body = some I17 := by kernel_rfl
theorem sc17 : FnScope D17.N D17.ps D17.scope := ⟨rfl, rfl, rfl, by decide +kernel, rfl, by decide +kernel, by decide +kernel⟩
theorem ci18 : cSs 60 (MD.cc D18) D18.body = some I18 := by kernel_rfl
theorem sc18 : FnScope D18.N D18.ps D18.scope := ⟨rfl, rfl, rfl, by decide +kernel, rfl, by decide +kernel, by decide +kernel⟩
theorem ci19 : cSs 60 (MD.cc D19) D19.body = some I19 := by kernel_rfl
theorem sc19 : FnScope D19.N D19.ps D19.scope := ⟨rfl, rfl, rfl, by decide +kernel, rfl, by decide +kernel, by decide +kernel⟩
theorem ci20 : cSs 60 (MD.cc D20) D20.body = some I20 := by kernel_rfl
theorem sc20 : FnScope D20.N D20.ps D20.scope := ⟨rfl, rfl, rfl, by decide +kernel, rfl, by decide +kernel, by decide +kernel⟩
theorem ci21 : cSs 60 (MD.cc D21) D21.body = some I21 := by kernel_rfl
theorem sc21 : FnScope D21.N D21.ps D21.scope := ⟨rfl, rfl, rfl, by decide +kernel, rfl, by decide +kernel, by decide +kernel⟩
theorem ci22 : cSs 60 (MD.cc D22) D22.body = some I22 := by kernel_rfl
theorem sc22 : FnScope D22.N D22.ps D22.scope := ⟨rfl, rfl, rfl, by decide +kernel, rfl, by decide +kernel, by decide +kernel⟩
theorem ci23 : cSs 60 (MD.cc D23) D23.body = some I23 := by kernel_rfl
theorem sc23 : FnScope D23.N D23.ps D23.scope := ⟨rfl, rfl, rfl, by decide +kernel, rfl, by decide +kernel, by decide +kernel⟩
theorem ci24 : cSs 60 (MD.cc D24) D24.body = some I24 := by kernel_rfl
theorem sc24 : FnScope D24.N D24.ps D24.scope := ⟨rfl, rfl, rfl, by decide +kernel, rfl, by decide +kernel, by decide +kernel⟩
theorem ci25 : cSs 60 (MD.cc D25) D25.body = some I25 := by kernel_rfl
theorem sc25 : FnScope D25.N D25.ps D25.scope := ⟨rfl, rfl, rfl, by decide +kernel, rfl, by decide +kernel, by decide +kernel⟩
theorem ci26 : cSs 60 (MD.cc D26) D26.body = some I26 := by kernel_rfl
theorem sc26 : FnScope D26.N D26.ps D26.scope := ⟨rfl, rfl, rfl, by decide +kernel, rfl, by decide +kernel, by decide +kernel⟩
theorem ci27 : cSs 60 (MD.cc D27) D27.body = some I27 := by kernel_rfl
theorem sc27 : FnScope D27.N D27.ps D27.scope := ⟨rfl, rfl, rfl, by decide +kernel, rfl, by decide +kernel, by decide +kernel⟩
theorem ci28 : cSs 60 (MD.cc D28) D28.body = some I28 := by kernel_rfl
theorem sc28 : FnScope D28.N D28.ps D28.scope := ⟨rfl, rfl, rfl, by decide +kernel, rfl, by decide +kernel, by decide +kernel⟩
theorem ci29 : cSs 60 (MD.cc D29) D29.body = some I29 := by kernel_rfl
theorem sc29 : FnScope D29.N D29.ps D29.scope := ⟨rfl, rfl, rfl, by decide +kernel, rfl, by decide +kernel, by decide +kernel⟩
theorem ci30 : cSs 60 (MD.cc D30) D30.body = some I30 := by kernel_rfl
theorem sc30 : FnScope D30.N D30.ps D30.scope := ⟨rfl, rfl, rfl, by decide +kernel, rfl, by decide +kernel, by decide +kernel⟩
theorem ci31 : cSs 60 (MD.cc D31) D31.body = some I31 := by kernel_rfl
theorem sc31 : FnScope D31.N D31.ps D31.scope := ⟨rfl, rfl, rfl, by decide +kernel, rfl, by decide +kernel, by decide +kernel⟩
theorem ci32 : cSs 60 (MD.cc D32) D32.body = some I32 := by kernel_rfl
theorem sc32 : FnScope D32.N D32.ps D32.scope := ⟨rfl, rfl, rfl, by decide +kernel, rfl, by decide +kernel, by decide +kernel⟩
theorem ci33 : cSs 60 (MD.cc D33) D33.body = some I33 := by kernel_rfl
theorem sc33 : FnScope D33.N D33.ps D33.scope := ⟨rfl, rfl, rfl, by decide +kernel, rfl, by decide +kernel, by decide +kernel⟩
theorem ci34 : cSs 60 (MD.cc D34) D34.body = some I34 := by kernel_rfl
theorem sc34 : FnScope D34.N D34.ps D34.scope := ⟨rfl, rfl, rfl, by decide +kernel, rfl, by decide +kernel, by decide +kernel⟩
theorem ci35 : cSs 60 (MD.cc D35) D35.body = some I35 := by kernel_rfl
theorem sc35 : FnScope D35.N D35.ps D35.scope := ⟨rfl, rfl, rfl, by decide +kernel, rfl, by decide +kernel, by decide +kernel⟩
theorem ci36 : cSs 60 (MD.cc D36) D36.body = some I36 := by kernel_rfl
theorem sc36 : FnScope D36.N D36.ps D36.scope := ⟨rfl, rfl, rfl, by decide +kernel, rfl, by decide +kernel, by decide +kernel⟩
theorem ci37 : cLam 60 (MD.cc0 D37) "call" D37.body = some I37 := by kernel_rfl
theorem sc37 : FnScope D37.N D37.ps D37.scope := ⟨rfl, rfl, rfl, by decide +kernel, rfl, by decide +kernel, by decide +kernel⟩
theorem ci38 : cSs 60 (MD.cc D38) D38.body = some I38 := by kernel_rfl
theorem sc38 : FnScope D38.N D38.ps D38.scope := ⟨rfl, rfl, rfl, by decide +kernel, rfl, by decide +kernel, by decide +kernel⟩
theorem ci39 : cSs 60 (MD.cc D39) D39.body = some I39 := by kernel_rfl
theorem sc39 : FnScope D39.N D39.ps D39.scope := ⟨rfl, rfl, rfl, by decide +kernel, rfl, by decide +kernel, by decide +kernel⟩
theorem ci40 : cSs 60 (MD.cc D40) D40.body = some I40 := by kernel_rfl
theorem sc40 : FnScope D40.N D40.ps D40.scope := ⟨rfl, rfl, rfl, by decide +kernel, rfl, by decide +kernel, by decide +kernel⟩
theorem ci41 : cSs 60 (MD.cc D41) D41.body = some I41 := by kernel_rfl
theorem sc41 : FnScope D41.N D41.ps D41.scope := ⟨rfl, rfl, rfl, by decide +kernel, rfl, by decide +kernel, by decide +kernel⟩
end Law

set_option linter.all false
set_option maxRecDepth 100000
set_option maxHeartbeats 4000000
set_option autoImplicit false
/-! R1: the dice of the laws: what each law's own drawing gives, in the interpreter. -/
namespace RA
open PySem (Str)
/-- by which simp does not take an equation for one that holds by definition (the kernel need not look it up again) -/
theorem nr {α : Sort _} {a b : α} (h : a = b) : a = b := h
theorem rk {α β : Type} (a : α) (S : Store) (f : α → Store → Res β) : (Res.ok a S).bind f = f a S := nr rfl
theorem lk {α : Type} (a : α) (S : Store) : RA.lift S (some a) = .ok a S := nr rfl
section
variable {C : Ora} {T : Cls} {τ : Sig} {S : Store}
theorem ev_con (d : D) : RA.evalE C (.con d) τ S = .ok d S := nr rfl
theorem ev_and (a b : E) : RA.evalE C (.and a b) τ S = (RA.evalE C a τ S).bind fun x S => (RA.lift S (truth S x)).bind fun k S => if k then RA.evalE C b τ S else .ok x S := nr rfl
theorem ev_or (a b : E) : RA.evalE C (.or a b) τ S = (RA.evalE C a τ S).bind fun x S => (RA.lift S (truth S x)).bind fun k S => if k then .ok x S else RA.evalE C b τ S := nr rfl
theorem ev_not (a : E) : RA.evalE C (.not a) τ S = (RA.evalE C a τ S).bind fun x S => RA.lift S ((truth S x).map fun b => .bl (!b)) := nr rfl
theorem ev_bin (o : BOp) (a b : E) : RA.evalE C (.bin o a b) τ S = (RA.evalE C a τ S).bind fun x S => (RA.evalE C b τ S).bind fun y S => RA.lift S (binop S o x y) := nr rfl
theorem ev_cmp (o : COp) (a b : E) : RA.evalE C (.cmp o a b) τ S = (RA.evalE C a τ S).bind fun x S => (RA.evalE C b τ S).bind fun y S => RA.lift S (cmpop S o x y) := nr rfl
theorem ev_chain (o1 o2 : COp) (a b c : E) : RA.evalE C (.chain o1 o2 a b c) τ S = (RA.evalE C a τ S).bind fun x S => (RA.evalE C b τ S).bind fun y S => (RA.lift S (cmpop S o1 x y)).bind fun k S => match k with
    | .bl true => (RA.evalE C c τ S).bind fun z S => RA.lift S (cmpop S o2 y z)
    | .bl false => .ok (.bl false) S
    | _ => .bad := nr rfl
theorem ev_ife (c a b : E) : RA.evalE C (.ife c a b) τ S = (RA.evalE C c τ S).bind fun x S => (RA.lift S (truth S x)).bind fun k S => if k then RA.evalE C a τ S else RA.evalE C b τ S := nr rfl
theorem ev_sub (a i : E) : RA.evalE C (.sub a i) τ S = (RA.evalE C a τ S).bind fun x S => (RA.evalE C i τ S).bind fun y S => RA.lift S (RA.sub S x y) := nr rfl
theorem ev_slice (a b c : E) : RA.evalE C (.slice a b c) τ S = (RA.evalE C a τ S).bind fun x S => (RA.evalE C b τ S).bind fun y S => (RA.evalE C c τ S).bind fun z S => RA.lift S (slice S x y z) := nr rfl
theorem ev_rev (a : E) : RA.evalE C (.rev a) τ S = (RA.evalE C a τ S).bind fun x S => RA.lift S (rev S x) := nr rfl
theorem ev_ofInt (a : E) : RA.evalE C (.ofInt a) τ S = (RA.evalE C a τ S).bind fun d S => match d with | .int i => .ok (.int i) S | _ => .bad := nr rfl
theorem ev_tup (es : List E) : RA.evalE C (.tup es) τ S = (RA.evalEs C es τ S).bind fun ds S => .ok (.tup ds) S := nr rfl
theorem ev_lst (es : List E) : RA.evalE C (.lst es) τ S = (RA.evalEs C es τ S).bind fun ds S => .ok (.vl ds) S := nr rfl
theorem ev_call (f : Nat) (es : List E) : RA.evalE C (.call f es) τ S = (RA.evalEs C es τ S).bind fun ds S => C.fn f ds S := nr rfl
theorem ev_bcall (f : BF) (es : List E) : RA.evalE C (.bcall f es) τ S = (RA.evalEs C es τ S).bind fun ds S => RA.lift S (bcall S f ds) := nr rfl
theorem ev_bcall1 (f : BF) (a : E) : RA.evalE C (.bcall f [a]) τ S = (RA.evalE C a τ S).bind fun d S => RA.lift S (bcall S f [d]) := by
  show ((RA.evalE C a τ S).bind fun d S => .ok [d] S).bind _ = _
  cases RA.evalE C a τ S <;> rfl
theorem ev_call1 (f : Nat) (a : E) : RA.evalE C (.call f [a]) τ S = (RA.evalE C a τ S).bind fun d S => C.fn f [d] S := by
  show ((RA.evalE C a τ S).bind fun d S => .ok [d] S).bind _ = _
  cases RA.evalE C a τ S <;> rfl
theorem es_nil : RA.evalEs C [] τ S = .ok [] S := nr rfl
theorem es_cons (e : E) (r : List E) : RA.evalEs C (e :: r) τ S = (RA.evalE C e τ S).bind fun d S => (RA.evalEs C r τ S).bind fun ds S => .ok (d :: ds) S := nr rfl
theorem xs_nil : RA.execs T C [] τ S = .ok (.nx τ) S := nr rfl
theorem xs_cons (s : RA.St) (r : List RA.St) : RA.execs T C (s :: r) τ S = (RA.execS T C s τ S).bind fun o S => match o with
    | .nx σ => RA.execs T C r σ S
    | .ret d => .ok (.ret d) S := nr rfl
theorem st_ret (e : E) : RA.execS T C (.ret e) τ S = (RA.evalE C e τ S).bind fun d S => .ok (.ret d) S := nr rfl
theorem st_asg (i : Nat) (e : E) : RA.execS T C (.asg i e) τ S = (RA.evalE C e τ S).bind fun d S => .ok (.nx (τ.set i (some d))) S := nr rfl
theorem st_exp (e : E) : RA.execS T C (.exp e) τ S = (RA.evalE C e τ S).bind fun _ S => .ok (.nx τ) S := nr rfl
theorem st_ite (c : E) (a b : List RA.St) : RA.execS T C (.ite c a b) τ S = (RA.evalE C c τ S).bind fun x S => (RA.lift S (truth S x)).bind fun k S => if k then RA.execs T C a τ S else RA.execs T C b τ S := nr rfl
end
section
variable {T : Cls} {Γ : List Fn} {W : Nat}
theorem callF_eq {k f : Nat} {ds : List D} {S : Store} {fn : Fn} (h : Γ[f]? = some fn) (hl : ds.length = fn.np) : callF T Γ W (k + 1) f ds S = fin (RA.execs T (ora1 T Γ (callF T Γ W k) W) fn.body (RA.start fn.ns ds) S) := by
  show (match Γ[f]? with | none => Res.bad | some fn => if ds.length = fn.np then fin (RA.execs T (ora1 T Γ (callF T Γ W k) W) fn.body (RA.start fn.ns ds) S) else .bad) = _
  rw [h]
  exact if_pos hl
/-- _law_roll -/
def Iroll : List RA.St := [(.ite (.cmp .gt (.sub (.var 0) (.con (.int 0))) (.con (.int 0))) [(.asg 2 (.bin .mod (.sub (.var 0) (.con (.int 0))) (.var 1))),
    (.seti (.var 0) (.con (.int 0)) (.bin .fdiv (.sub (.var 0) (.con (.int 0))) (.var 1))), (.ret (.bcall .int [(.var 2)]))] []),
    (.seti (.var 0) (.con (.int 2)) (.bin .add (.sub (.var 0) (.con (.int 2))) (.con (.int 1)))),
    (.asg 3 (.bin .mod (.bin .add (.sub (.var 0) (.con (.int 1))) (.bin .mul (.con (.int 49979687)) (.sub (.var 0) (.con (.int 2))))) (.con (.int 2305843009213693951)))),
    (.asg 4 (.bin .add (.bin .mul (.bin .mod (.bin .add (.bin .mul (.var 3) (.var 3)) (.bin .mul (.con (.int 131)) (.sub (.var 0) (.con (.int 2))))) (.con (.int 2305843009213693921))) (.con (.int 32452843))) (.var 3))),
    (.ret (.bin .mod (.bcall .int [(.bin .fdiv (.var 4) (.con (.int 65587)))]) (.var 1)))]
/-- dice at place n: what was thrown at most B times -/
def Dice (S : Store) (n : Nat) (B : Nat) : Prop := ∃ a b c : Int, S[n]? = some (.lst [.int a, .int b, .int c]) ∧ 0 ≤ a ∧ 0 ≤ b ∧ b < 2 ^ 200 ∧ 0 ≤ c ∧ c ≤ B
/-- the same but for the dice -/
def SameBut (n : Nat) (S S' : Store) : Prop := S'.length = S.length ∧ ∀ i, i ≠ n → S'[i]? = S[i]?
theorem SameBut.refl {n : Nat} {S : Store} : SameBut n S S := ⟨rfl, fun _ _ => rfl⟩
theorem SameBut.trans {n : Nat} {S S1 S2 : Store} (a : SameBut n S S1) (b : SameBut n S1 S2) : SameBut n S S2 := ⟨b.1.trans a.1, fun i h => (b.2 i h).trans (a.2 i h)⟩
theorem SameBut.set {n : Nat} {S : Store} {o : SO} : SameBut n S (S.set n o) := ⟨List.length_set, fun i h => List.getElem?_set_ne (Ne.symm h)⟩
theorem log_lt {x : Int} {n : Nat} (h0 : 0 ≤ x) (h : x < 2 ^ n) : x.natAbs.log2 ≤ n := by
  by_cases e : x.natAbs = 0
  · rw [e]; exact Nat.zero_le _
  · have hx : (x.natAbs : Int) = x := Int.natAbs_of_nonneg h0
    have : x.natAbs < 2 ^ n := by
      have : (x.natAbs : Int) < ((2 ^ n : Nat) : Int) := by rw [hx]; push_cast; exact h
      exact_mod_cast this
    exact Nat.le_of_lt ((Nat.log2_lt e).mpr this)
theorem roll {i k n B : Nat} {S : Store} {t : Int} (hi : Γ[i]? = some ⟨2, 5, Iroll⟩) (d : Dice S n B) (hB : B ≤ 1000000) (ht : 0 < t) (htl : t.natAbs.log2 < 9000) :
    ∃ (r : Int) (S' : Store), callF T Γ W (k + 1) i [.ref n, .int t] S = .ok (.int r) S' ∧ 0 ≤ r ∧ r < t ∧ Dice S' n (B + 1) ∧ SameBut n S S' := by
  obtain ⟨a, b, c, h, ha, hb, hb2, hc, hcB⟩ := d
  rw [callF_eq hi rfl]
  have hn : n < S.length := (List.getElem?_eq_some_iff.mp h).1
  have ht0 : t ≠ 0 := by omega
  have n0 : natIx 3 0 = some 0 := rfl
  have n1 : natIx 3 1 = some 1 := rfl
  have n2 : natIx 3 2 = some 2 := rfl
  have s1 : RA.start 5 [.ref n, .int t] = [some (.ref n), some (.int t), none, none, none] := rfl
  by_cases hp : 0 < a
  · refine ⟨a.fmod t, S.set n (.lst [.int (a.fdiv t), .int b, .int c]), ?_, Int.fmod_nonneg_of_pos _ ht, Int.fmod_lt_of_pos _ ht, ⟨a.fdiv t, b, c, List.getElem?_set_self hn, Int.fdiv_nonneg ha (Int.le_of_lt ht), hb, hb2, hc, by omega⟩, SameBut.set⟩
    simp only [Iroll, s1, RA.execs, RA.execS, RA.evalE, RA.evalEs, rk, lk, List.getElem?_cons_zero, List.getElem?_cons_succ, RA.sub, asQ, asL, h, List.length_cons, List.length_nil, Nat.zero_add, Nat.reduceAdd, n0, Option.bind_some, cmpop, lts, Option.map_some, truth, hp, decide_true, binop, if_pos ht0,
      List.set_cons_zero, List.set_cons_succ, if_pos (And.intro ht0 htl), bcall, one, intD, fin, ite_true]
  · have h' : (S.set n (.lst [.int a, .int b, .int (c + 1)]))[n]? = some (.lst [.int a, .int b, .int (c + 1)]) := List.getElem?_set_self hn
    have c1 : (c + 1).natAbs.log2 ≤ 200 := log_lt (by omega) (by
      have : c + 1 ≤ 1000001 := by omega
      exact Int.lt_of_le_of_lt this (by decide))
    have e0 : (49979687 : Int).natAbs.log2 ≤ 200 := by decide
    have e1 : (131 : Int).natAbs.log2 ≤ 200 := by decide
    have e2 : (32452843 : Int).natAbs.log2 ≤ 200 := by decide
    have m1 : (2305843009213693951 : Int) ≠ 0 := by decide
    have m2 : (2305843009213693921 : Int) ≠ 0 := by decide
    have m3 : (65587 : Int) ≠ 0 ∧ (65587 : Int).natAbs.log2 < 9000 := by decide
    generalize hone : (b + 49979687 * (c + 1)).fmod 2305843009213693951 = one'
    have o1 : one'.natAbs.log2 ≤ 200 := log_lt (by rw [← hone]; exact Int.fmod_nonneg_of_pos _ (by decide)) (by
      rw [← hone]; exact Int.lt_trans (Int.fmod_lt_of_pos _ (by decide)) (by decide))
    generalize htwo : (one' * one' + 131 * (c + 1)).fmod 2305843009213693921 = two'
    have o2 : two'.natAbs.log2 ≤ 200 := log_lt (by rw [← htwo]; exact Int.fmod_nonneg_of_pos _ (by decide)) (by
      rw [← htwo]; exact Int.lt_trans (Int.fmod_lt_of_pos _ (by decide)) (by decide))
    have q1 : (49979687 : Int).natAbs.log2 + (c + 1).natAbs.log2 < 1000000 := by omega
    have q2 : one'.natAbs.log2 + one'.natAbs.log2 < 1000000 := by omega
    have q3 : (131 : Int).natAbs.log2 + (c + 1).natAbs.log2 < 1000000 := by omega
    have q4 : two'.natAbs.log2 + (32452843 : Int).natAbs.log2 < 1000000 := by omega
    refine ⟨((two' * 32452843 + one').fdiv 65587).fmod t, S.set n (.lst [.int a, .int b, .int (c + 1)]), ?_, Int.fmod_nonneg_of_pos _ ht, Int.fmod_lt_of_pos _ ht, ⟨a, b, c + 1, h', ha, hb, hb2, by omega, by push_cast; omega⟩, SameBut.set⟩
    simp only [Iroll, s1, RA.execs, RA.execS, RA.evalE, RA.evalEs, rk, lk, List.getElem?_cons_zero, List.getElem?_cons_succ, RA.sub, asQ, asL, h, List.length_cons, List.length_nil, Nat.zero_add, Nat.reduceAdd, n0, n1, n2, Option.bind_some, cmpop, lts, Option.map_some, truth, hp, decide_false, Bool.false_eq_true, binop, if_pos ht0,
      List.set_cons_zero, List.set_cons_succ, if_pos (And.intro ht0 htl), bcall, one, intD, fin, ite_true, ite_false, h', if_pos q1, if_pos m1, if_pos m2, if_pos m3, hone, if_pos q2, if_pos q3, htwo, if_pos q4]
end
end RA

set_option linter.all false
set_option maxRecDepth 100000
set_option maxHeartbeats 4000000
set_option autoImplicit false
/-! RN: the equations by which a body is run. -/
namespace RA
open PySem (Str)
theorem bind_cong {α β : Type} {r r' : Res α} (f : α → Store → Res β) (h : r = r') : r.bind f = r'.bind f := by rw [h]
section
variable {C : Ora} {T : Cls} {τ : Sig} {S : Store}
theorem ev_var (i : Nat) : RA.evalE C (.var i) τ S = match τ[i]? with
  | some (some d) => .ok d S
  | _ => .bad := nr rfl
theorem ev_neg (a : E) : RA.evalE C (.neg a) τ S = (RA.evalE C a τ S).bind fun x S => match x with
    | .int i => .ok (.int (-i)) S
    | _ => .bad := nr rfl
theorem ev_new (e : E) : RA.evalE C (.new e) τ S = (RA.evalE C e τ S).bind fun d S => match d with
    | .vl ds => .ok (.ref S.length) (S ++ [.lst ds])
    | _ => .bad := nr rfl
theorem ev_callv (f : E) (es : List E) : RA.evalE C (.callv f es) τ S = (RA.evalE C f τ S).bind fun x S => match x with
    | .fn i => (RA.evalEs C es τ S).bind fun ds S => C.fn i ds S
    | _ => .bad := nr rfl
theorem sx_asgT (is : List Nat) (e : E) : RA.execS T C (.asgT is e) τ S = (RA.evalE C e τ S).bind fun d S => (RA.lift S (target τ true is d)).bind fun σ S => .ok (.nx σ) S := nr rfl
theorem sx_par (is : List Nat) (es : List E) : RA.execS T C (.par is es) τ S = (RA.evalEs C es τ S).bind fun ds S => (RA.lift S (setAll τ is ds)).bind fun σ S => .ok (.nx σ) S := nr rfl
theorem sx_seti (o i e : E) : RA.execS T C (.seti o i e) τ S = (RA.evalE C e τ S).bind fun v S => (RA.evalE C o τ S).bind fun x S => (RA.evalE C i τ S).bind fun y S => match x, y with
    | .ref n, .int k => match S[n]? with
      | some (.lst ds) => match natIx ds.length k with
        | some j => .ok (.nx τ) (S.set n (.lst (ds.set j v)))
        | none => .bad
      | none => .bad
    | _, _ => .bad := nr rfl
theorem sx_pass : RA.execS T C .pass τ S = .ok (.nx τ) S := nr rfl
end
theorem fin_nx (σ : Sig) (S : Store) : fin (.ok (.nx σ) S) = .ok .non S := nr rfl
theorem fin_ret (d : D) (S : Store) : fin (.ok (.ret d) S) = .ok d S := nr rfl
theorem fin_exc (x : Exn) (S : Store) : fin (.exc x S) = .exc x S := nr rfl
section
variable (S : Store) (x y : D)
theorem truth_bl (b : Bool) : truth S (.bl b) = some b := nr rfl
theorem cm_eq : cmpop S .eq x y = (eqd S x y).map .bl := nr rfl
theorem cm_ne : cmpop S .ne x y = (eqd S x y).map fun b => .bl (!b) := nr rfl
theorem cm_lt : cmpop S .lt x y = (lts x y).map .bl := nr rfl
theorem cm_le : cmpop S .le x y = (les x y).map .bl := nr rfl
theorem cm_gt : cmpop S .gt x y = (lts y x).map .bl := nr rfl
theorem cm_ge : cmpop S .ge x y = (les y x).map .bl := nr rfl
theorem cm_is : cmpop S .is x y = (sameAs x y).map .bl := nr rfl
theorem cm_isn : cmpop S .isn x y = (sameAs x y).map fun b => .bl (!b) := nr rfl
theorem cm_in : cmpop S .isin x y = (isIn S x y).map .bl := nr rfl
theorem cm_nin : cmpop S .nin x y = (isIn S x y).map fun b => .bl (!b) := nr rfl
theorem bc_len : bcall S .len [x] = lenD S x := nr rfl
theorem bc_tuple : bcall S .tuple [x] = (asQ S x).map .tup := nr rfl
theorem bc_list : bcall S .list [x] = (asQ S x).map .vl := nr rfl
theorem bc_int : bcall S .int [x] = intD x := nr rfl
theorem bc_repr : bcall S .repr [x] = reprD S x := nr rfl
theorem bc_isinst : bcall S .isinst [x, y] = isinstD S x y := nr rfl
end
end RA

set_option linter.all false
set_option maxRecDepth 100000
set_option maxHeartbeats 4000000
set_option autoImplicit false
/-! R2: dice made, picks. -/
namespace RA
open PySem (Str)
section
variable {T : Cls} {Γ : List Fn} {W : Nat}
def Idice : List RA.St := [(.asg 2 (.ife (.cmp .lt (.var 1) (.bcall .len [(.var 0)])) (.bcall .int [(.sub (.var 0) (.var 1))]) (.bin .add (.bin .mul (.con (.int 131)) (.var 1)) (.con (.int 37))))),
    (.asg 3 (.bin .mod (.bcall .int [(.bcall .abs [(.var 2)])]) (.bin .pow (.bin .pow (.con (.int 10)) (.con (.int 53))) (.con (.int 6))))),
    (.asg 4 (.bin .add (.bin .add (.bin .add (.bin .mul (.bin .mod (.var 3) (.con (.int 2305843009213693907))) (.con (.int 73))) (.bin .mul (.con (.int 619)) (.var 1))) (.bin .mul (.con (.int 41)) (.bcall .int [(.cmp .lt (.var 2) (.con (.int 0)))]))) (.con (.int 17)))),
    (.ret (.new (.lst [(.bcall .max [(.con (.int 0)), (.bin .sub (.var 3) (.bin .pow (.con (.int 10)) (.con (.int 16))))]), (.var 4), (.con (.int 0))])))]
theorem natIx_in {n j : Nat} (h : j < n) : natIx n (j : Int) = some j := by
  unfold natIx
  rw [if_pos (Int.natCast_nonneg j), if_pos (by exact_mod_cast h)]
  rfl
theorem dice {i k spot : Nat} {S : Store} {ns : List Int} (hi : Γ[i]? = some ⟨2, 5, Idice⟩) (hs : spot ≤ 1000) :
    ∃ o, callF T Γ W (k + 1) i [.ro (ns.map D.int), .int spot] S = .ok (.ref S.length) (S ++ [o]) ∧ Dice (S ++ [o]) S.length 0 := by
  rw [callF_eq hi rfl]
  have s1 : RA.start 5 [.ro (ns.map D.int), .int (spot : Int)] = [some (.ro (ns.map D.int)), some (.int (spot : Int)), none, none, none] := rfl
  -- the cell
  have cell : ∃ cl : Int, ∀ C : Ora, RA.evalE C (.ife (.cmp .lt (.var 1) (.bcall .len [(.var 0)])) (.bcall .int [(.sub (.var 0) (.var 1))]) (.bin .add (.bin .mul (.con (.int 131)) (.var 1)) (.con (.int 37)))) [some (.ro (ns.map D.int)), some (.int (spot : Int)), none, none, none] S = .ok (.int cl) S := by
    by_cases hl : spot < ns.length
    · refine ⟨ns[spot], fun C => ?_⟩
      have h1 : decide ((spot : Int) < ((ns.map D.int).length : Nat)) = true := by simpa using hl
      have h2 : natIx (ns.map D.int).length (spot : Int) = some spot := natIx_in (by simpa using hl)
      have h3 : (ns.map D.int)[spot]? = some (.int ns[spot]) := by simp [hl]
      simp only [RA.evalE, RA.evalEs, rk, lk, List.getElem?_cons_zero, List.getElem?_cons_succ, bcall, one, lenD, asQ, Option.map_some, cmpop, lts, h1, truth, RA.sub, Option.bind_some, h2, h3, intD, ite_true]
    · refine ⟨131 * spot + 37, fun C => ?_⟩
      have h1 : decide ((spot : Int) < ((ns.map D.int).length : Nat)) = false := by simpa using hl
      have q : (131 : Int).natAbs.log2 + (spot : Int).natAbs.log2 < 1000000 := by
        have a1 : (131 : Int).natAbs.log2 ≤ 200 := by decide
        have a2 : (spot : Int).natAbs.log2 ≤ 200 := log_lt (Int.natCast_nonneg _) (Int.lt_of_le_of_lt (by exact_mod_cast hs) (by decide : (1000 : Int) < 2 ^ 200))
        omega
      simp only [RA.evalE, RA.evalEs, rk, lk, List.getElem?_cons_zero, List.getElem?_cons_succ, bcall, one, lenD, asQ, Option.map_some, cmpop, lts, h1, truth, binop, if_pos q, ite_false, Bool.false_eq_true]
  obtain ⟨cl, hcl⟩ := cell
  have p1 : (0 : Int) ≤ 53 ∧ (53 : Int) ≤ 1000 ∧ (10 : Int).natAbs.log2 < 1000 := by decide
  have p2 : (0 : Int) ≤ 6 ∧ (6 : Int) ≤ 1000 ∧ ((10 : Int) ^ (53 : Int).toNat).natAbs.log2 < 1000 := by decide +kernel
  have p3 : (0 : Int) ≤ 16 ∧ (16 : Int) ≤ 1000 ∧ (10 : Int).natAbs.log2 < 1000 := by decide
  have p4 : (((10 : Int) ^ (53 : Int).toNat) ^ (6 : Int).toNat) ≠ 0 := by decide +kernel
  have p4' : (0 : Int) < (((10 : Int) ^ (53 : Int).toNat) ^ (6 : Int).toNat) := by decide +kernel
  have m1 : (2305843009213693907 : Int) ≠ 0 := by decide
  generalize hg : (if cl < 0 then -cl else cl).fmod (((10 : Int) ^ (53 : Int).toNat) ^ (6 : Int).toNat) = great
  have g0 : 0 ≤ great := by rw [← hg]; exact Int.fmod_nonneg_of_pos _ p4'
  generalize hs' : great.fmod 2305843009213693907 = sd
  have sd0 : 0 ≤ sd := by rw [← hs']; exact Int.fmod_nonneg_of_pos _ (by decide)
  have sd1 : sd < 2305843009213693907 := by rw [← hs']; exact Int.fmod_lt_of_pos _ (by decide)
  have sl : sd.natAbs.log2 ≤ 200 := log_lt sd0 (Int.lt_trans sd1 (by decide))
  have spl : (spot : Int).natAbs.log2 ≤ 200 := log_lt (Int.natCast_nonneg _) (Int.lt_of_le_of_lt (by exact_mod_cast hs) (by decide : (1000 : Int) < 2 ^ 200))
  generalize hn : (if decide (cl < 0) = true then (1 : Int) else 0) = ng
  have n0 : 0 ≤ ng ∧ ng ≤ 1 := by rw [← hn]; split <;> decide
  have nl : ng.natAbs.log2 ≤ 200 := log_lt n0.1 (Int.lt_of_le_of_lt n0.2 (by decide))
  have a73 : (73 : Int).natAbs.log2 ≤ 200 := by decide
  have a619 : (619 : Int).natAbs.log2 ≤ 200 := by decide
  have a41 : (41 : Int).natAbs.log2 ≤ 200 := by decide
  have q1 : sd.natAbs.log2 + (73 : Int).natAbs.log2 < 1000000 := by omega
  have q2 : (619 : Int).natAbs.log2 + (spot : Int).natAbs.log2 < 1000000 := by omega
  have q3 : (41 : Int).natAbs.log2 + ng.natAbs.log2 < 1000000 := by omega
  have hb : (0 : Int) ≤ sd * 73 + 619 * spot + 41 * ng + 17 ∧ sd * 73 + 619 * spot + 41 * ng + 17 < 2 ^ 200 := by
    have : (spot : Int) ≤ 1000 := by exact_mod_cast hs
    have s0 : (0 : Int) ≤ spot := Int.natCast_nonneg _
    have big : (2305843009213693907 : Int) * 73 + 619 * 1000 + 41 + 17 < 2 ^ 200 := by decide
    constructor
    · omega
    · refine Int.lt_of_le_of_lt ?_ big
      omega
  refine ⟨.lst [.int (if great - (10 : Int) ^ (16 : Int).toNat > 0 then great - (10 : Int) ^ (16 : Int).toNat else 0), .int (sd * 73 + 619 * spot + 41 * ng + 17), .int 0], ?_, ⟨if great - (10 : Int) ^ (16 : Int).toNat > 0 then great - (10 : Int) ^ (16 : Int).toNat else 0, sd * 73 + 619 * spot + 41 * ng + 17, 0, ?_, ?_, hb.1, hb.2, Int.le_refl _, Int.le_refl _⟩⟩
  · simp only [Idice, s1, RA.execs, RA.execS, hcl, rk, lk]
    simp only [RA.evalE, RA.evalEs, rk, lk, List.getElem?_cons_zero, List.getElem?_cons_succ, List.set_cons_zero, List.set_cons_succ, bcall, one, two, absD, intD, max2, binop, if_pos p1, if_pos p2, if_pos p3, if_pos p4, if_pos m1, hg, hs', if_pos q1, if_pos q2, cmpop, lts, Option.map_some, hn, if_pos q3, fin]
  · rw [List.getElem?_append_right (Nat.le_refl _), Nat.sub_self]
    rfl
  · split <;> omega
def Ipick (r : Nat) : List RA.St := [(.ret (.sub (.var 1) (.call r [(.var 0), (.bcall .len [(.var 1)])])))]
/-- what stands in a list or a tuple -/
theorem asQ_same {n : Nat} {S S' : Store} {x : D} {ds : List D} (h : asQ S x = some ds) (s : SameBut n S S') (hx : x ≠ .ref n) : asQ S' x = some ds := by
  cases x <;> first | exact h | skip
  rename_i m
  have hm : m ≠ n := fun e => hx (by rw [e])
  replace h : (match S[m]? with | some (.lst ds) => some ds | none => none) = some ds := h
  show (match S'[m]? with | some (.lst ds) => some ds | none => none) = some ds
  rw [s.2 m hm]; exact h
theorem log_len {m : Nat} (h : m ≤ 16777216) : ((m : Nat) : Int).natAbs.log2 < 9000 := by
  have := log_lt (x := (m : Int)) (n := 30) (Int.natCast_nonneg _) (Int.lt_of_le_of_lt (Int.ofNat_le.mpr h) (by decide : ((16777216 : Nat) : Int) < 2 ^ 30))
  omega
/-- a pick of items that are there -/
theorem pick {i r k n B : Nat} {S : Store} {x : D} {ds : List D} (hi : Γ[i]? = some ⟨2, 2, Ipick r⟩) (hr : Γ[r]? = some ⟨2, 5, Iroll⟩) (d : Dice S n B) (hB : B ≤ 1000000) (h : asQ S x = some ds) (hx : x ≠ .ref n) (hs : ∀ s, x ≠ .str s) (h0 : ds ≠ []) (hl : ds.length ≤ 16777216) :
    ∃ (y : D) (S' : Store), callF T Γ W (k + 2) i [.ref n, x] S = .ok y S' ∧ y ∈ ds ∧ Dice S' n (B + 1) ∧ SameBut n S S' := by
  have hlen : 0 < ds.length := List.length_pos_iff.mpr h0
  obtain ⟨v, S', e, r0, r1, d', s'⟩ := roll (T := T) (Γ := Γ) (W := W) (k := k) (t := (ds.length : Int)) hr d hB (by exact_mod_cast hlen) (log_len hl)
  rw [callF_eq hi rfl]
  have s1 : RA.start 2 [.ref n, x] = [some (.ref n), some x] := rfl
  have hv : v = ((v.toNat : Nat) : Int) := (Int.toNat_of_nonneg r0).symm
  have hvl : v.toNat < ds.length := by omega
  have e1 : lenD S x = some (.int ds.length) := by
    cases x <;> first | (exact absurd rfl (hs _)) | (cases h; done) | (exact congrArg (Option.map fun ds : List D => D.int ds.length) h)
  have e2 : RA.sub S' x (.int v) = some ds[v.toNat] := by
    have := asQ_same h s' hx
    have ix : natIx ds.length v = some v.toNat := by
      have q := natIx_in hvl
      rwa [← hv] at q
    have at_ : ds[v.toNat]? = some ds[v.toNat] := List.getElem?_eq_getElem hvl
    cases x <;> first | (exact absurd rfl (hs _)) | (simp only [RA.sub, this, Option.bind_some, ix, at_])
  refine ⟨ds[v.toNat], S', ?_, List.getElem_mem _, d', s'⟩
  have cl : (ora1 T Γ (callF T Γ W (k + 1)) W).fn = callF T Γ W (k + 1) := rfl
  simp only [Ipick, s1, RA.execs, RA.execS, RA.evalE, RA.evalEs, rk, lk, List.getElem?_cons_zero, List.getElem?_cons_succ, bcall, one, e1, cl, e, e2, fin]
end
end RA

set_option linter.all false
set_option maxRecDepth 100000
set_option maxHeartbeats 4000000
set_option autoImplicit false
/-! R3: tuples of texts; comprehensions; the least of many. -/
namespace RA
open PySem (Str PyData)
open PySem.W (listLt dataLt alike alikeAll)
/-- a tuple of texts -/
def TS (l : List Str) : D := .tup (l.map D.str)
def PS (l : List Str) : PyData := .tuple (l.map PyData.str)
theorem toPs_strs (r : Nat → Option PyData) : ∀ l : List Str, toPs r (l.map D.str) = some (l.map PyData.str)
  | [] => rfl
  | x :: l => by
    show (some (PyData.str x)).bind (fun a => (toPs r (l.map D.str)).map fun xs => a :: xs) = _
    rw [toPs_strs r l]; rfl
theorem toP_TS (r : Nat → Option PyData) (l : List Str) : toP r (TS l) = some (PS l) := by
  show (toPs r (l.map D.str)).map PyData.tuple = _
  rw [toPs_strs]; rfl
theorem pd_TS (S : Store) (l : List Str) : pd S (TS l) = some (PS l) := toP_TS _ l
theorem pds_TS (S : Store) : ∀ ls : List (List Str), pds S (ls.map TS) = some (ls.map PS)
  | [] => rfl
  | x :: l => by
    show (toP (deep 8 S) (TS x)).bind (fun a => (pds S (l.map TS)).map fun xs => a :: xs) = _
    rw [toP_TS, pds_TS S l]; rfl
theorem depth_strs : ∀ l : List Str, PyData.depthAll (l.map PyData.str) = 0
  | [] => by simp only [List.map_nil, PyData.depthAll]
  | x :: l => by simp only [List.map_cons, PyData.depthAll, PyData.depth, depth_strs l]; rfl
theorem depth_PS (l : List Str) : (PS l).depth = 1 := by
  unfold PS
  simp only [PyData.depth, depth_strs]
theorem depths_PS : ∀ ls : List (List Str), PyData.depthAll (ls.map PS) ≤ 1
  | [] => by simp only [List.map_nil, PyData.depthAll]; omega
  | x :: l => by
    have := depths_PS l
    simp only [List.map_cons, PyData.depthAll, depth_PS]; omega
theorem eqv_strs : ∀ a b : List Str, PyData.eqvAll (a.map PyData.str) (b.map PyData.str) = decide (a = b)
  | [], [] => by simp only [List.map_nil, PyData.eqvAll, decide_true]
  | [], y :: b => by simp only [List.map_nil, List.map_cons, PyData.eqvAll]; rfl
  | x :: a, [] => by simp only [List.map_nil, List.map_cons, PyData.eqvAll]; rfl
  | x :: a, y :: b => by
    simp only [List.map_cons, PyData.eqvAll, PyData.eqv, eqv_strs a b]
    by_cases h : x = y <;> by_cases h2 : a = b <;> simp [h, h2]
theorem eqv_PS (a b : List Str) : (PS a).eqv (PS b) = decide (a = b) := by
  unfold PS
  simp only [PyData.eqv, eqv_strs]
theorem eqd_TS (S : Store) (a b : List Str) : eqd S (TS a) (TS b) = some (decide (a = b)) := by
  unfold eqd
  rw [pd_TS, pd_TS]
  show (if min (PS a).depth (PS b).depth ≤ 60 then some ((PS a).eqv (PS b)) else none) = _
  rw [depth_PS, depth_PS, if_pos (by decide), eqv_PS]
theorem lt_PS (a b : List Str) : dataLt (PS a) (PS b) = listLt a b := (PySem.W.dataLt_tuple _ _).trans (PySem.W.lexAll_map a b)
theorem lt_self (a : List Str) : listLt a a = false := by rw [← lt_PS]; exact PySem.W.dataLt_self _
theorem lt_trans' {a b c : List Str} (h1 : listLt a b = true) (h2 : listLt b c = true) : listLt a c = true := by
  rw [← lt_PS] at h1 h2 ⊢
  exact PyProof.Rows.lex_trans _ _ _ h1 h2
theorem str_total {x y : Str} (h1 : ¬ x.cps.toList < y.cps.toList) (h2 : ¬ y.cps.toList < x.cps.toList) : x = y := PySem.W.str_of_cps (List.le_antisymm (List.not_lt.mp h2) (List.not_lt.mp h1))
theorem lt_total : ∀ {a b : List Str}, listLt a b = false → listLt b a = false → a = b
  | [], [], _, _ => rfl
  | [], y :: b, h, _ => by cases h
  | x :: a, [], _, h => by cases h
  | x :: a, y :: b, h1, h2 => by
    unfold listLt at h1 h2
    by_cases e : x = y
    · rw [if_pos e] at h1
      rw [if_pos e.symm] at h2
      rw [e, lt_total h1 h2]
    · rw [if_neg e] at h1
      rw [if_neg (Ne.symm e)] at h2
      exact absurd (str_total (of_decide_eq_false h1) (of_decide_eq_false h2)) e
/-! ### the least -/
section
variable {α β : Type}
theorem leastBy_map (f : α → β) (lt : β → β → Bool) (lt' : α → α → Bool) (h : ∀ a b, lt (f a) (f b) = lt' a b) : ∀ (l : List α) (b : α), leastBy lt (f b) (l.map f) = f (leastBy lt' b l)
  | [], b => rfl
  | x :: l, b => by
    show leastBy lt (if lt (f x) (f b) then f x else f b) (l.map f) = f (leastBy lt' (if lt' x b then x else b) l)
    rw [h, ← leastBy_map f lt lt' h l]
    split <;> rfl
theorem leastBy_mem (lt : α → α → Bool) : ∀ (l : List α) (b : α), leastBy lt b l ∈ b :: l
  | [], b => List.mem_singleton_self _
  | x :: l, b => by
    show leastBy lt (if lt x b then x else b) l ∈ _
    rcases List.mem_cons.mp (leastBy_mem lt l (if lt x b then x else b)) with h | h
    · rw [h]; split
      · exact List.mem_cons_of_mem _ List.mem_cons_self
      · exact List.mem_cons_self
    · exact List.mem_cons_of_mem _ (List.mem_cons_of_mem _ h)
theorem leastBy_le {lt : α → α → Bool} (ir : ∀ a, lt a a = false) (tr : ∀ a b c, lt a b = true → lt b c = true → lt a c = true) (tot : ∀ a b, lt a b = false → lt b a = false → a = b) : ∀ (l : List α) (b y : α), y ∈ b :: l → lt y (leastBy lt b l) = false
  | [], b, y, h => by
    rw [List.mem_singleton.mp h]; exact ir b
  | x :: l, b, y, h => by
    show lt y (leastBy lt (if lt x b then x else b) l) = false
    have nt : ∀ {p q r : α}, lt p q = false → lt q r = false → lt p r = false := fun {p q r} h1 h2 => by
      cases e : lt p r with
      | false => rfl
      | true =>
        cases e2 : lt q p with
        | true => rw [tr _ _ _ e2 e] at h2; cases h2
        | false => rw [tot _ _ h1 e2, h2] at e; cases e
    have ih := leastBy_le ir tr tot l (if lt x b then x else b)
    rcases List.mem_cons.mp h with e | h
    · subst e
      by_cases c : lt x y = true
      · rw [if_pos c] at ih ⊢
        refine nt ?_ (ih x List.mem_cons_self)
        cases e : lt y x with
        | false => rfl
        | true => have := tr _ _ _ c e; rw [ir] at this; cases this
      · rw [if_neg c] at ih ⊢
        exact ih y List.mem_cons_self
    · rcases List.mem_cons.mp h with e | h
      · subst e
        by_cases c : lt y b = true
        · rw [if_pos c] at ih ⊢
          exact ih y List.mem_cons_self
        · rw [if_neg c] at ih ⊢
          exact nt (by simpa using c) (ih b List.mem_cons_self)
      · exact ih y (List.mem_cons_of_mem _ h)
end
/-- the least of some rows of texts -/
def least (b : List Str) (l : List (List Str)) : List Str := leastBy listLt b l
theorem least_mem (b : List Str) (l : List (List Str)) : least b l ∈ b :: l := leastBy_mem _ l b
theorem least_le {b y : List Str} {l : List (List Str)} (h : y ∈ b :: l) : listLt y (least b l) = false := leastBy_le lt_self (fun _ _ _ => lt_trans') (fun _ _ => lt_total) l b y h
/-- the same rows have the same least -/
theorem least_eq {b b' : List Str} {l l' : List (List Str)} (h : ∀ y, y ∈ b :: l ↔ y ∈ b' :: l') : least b l = least b' l' :=
  lt_total (least_le ((h _).mp (least_mem b l))) (least_le ((h _).mpr (least_mem b' l')))
theorem alike_strs : ∀ a b : List Str, alikeAll (a.map PyData.str) (b.map PyData.str) = true
  | [], _ => by simp only [List.map_nil, alikeAll]
  | x :: a, [] => by simp only [List.map_nil, List.map_cons, alikeAll]
  | x :: a, y :: b => by simp only [List.map_cons, alikeAll, alike, alike_strs a b, Bool.and_self]
theorem alike_PS (a b : List Str) : alike (PS a) (PS b) = true := by
  unfold PS
  simp only [alike, alike_strs]
theorem pure_strs : ∀ l : List Str, pureDs (l.map D.str) = true
  | [] => rfl
  | x :: l => by
    show (pureD (.str x) && pureDs (l.map D.str)) = true
    rw [pure_strs l]; rfl
theorem pures_TS : ∀ ls : List (List Str), pureDs (ls.map TS) = true
  | [] => rfl
  | x :: l => by
    show (pureDs (x.map D.str) && pureDs (l.map TS)) = true
    rw [pure_strs, pures_TS l]; rfl
theorem best_TS (S : Store) (b : List Str) (l : List (List Str)) : best S false ((b :: l).map TS) = some (TS (least b l)) := by
  unfold best
  rw [pds_TS]
  show (match ((b :: l).map TS).zip ((b :: l).map PS) with
    | [] => none
    | x :: r => if alikes ((b :: l).map PS) = true ∧ PyData.depthAll ((b :: l).map PS) ≤ 60 ∧ pureDs ((b :: l).map TS) = true ∧ (((b :: l).map PS).all fun p => match p with | .none => false | _ => true) = true then
      some (leastBy (fun a b : D × PyData => if false then dataLt b.2 a.2 else dataLt a.2 b.2) x r).1 else none) = _
  have hz : ((b :: l).map TS).zip ((b :: l).map PS) = (b :: l).map fun x => (TS x, PS x) := by
    rw [List.zip_map']
  rw [hz, List.map_cons]
  dsimp only
  have h1 : alikes ((b :: l).map PS) = true := by
    unfold alikes
    rw [List.all_eq_true]
    intro p hp
    rw [List.all_eq_true]
    intro q hq
    obtain ⟨x, _, rfl⟩ := List.mem_map.mp hp
    obtain ⟨y, _, rfl⟩ := List.mem_map.mp hq
    exact alike_PS x y
  have h2 : PyData.depthAll ((b :: l).map PS) ≤ 60 := Nat.le_trans (depths_PS (b :: l)) (by decide)
  have h3 : (((b :: l).map PS).all fun p => match p with | .none => false | _ => true) = true := by
    rw [List.all_eq_true]
    intro p hp
    obtain ⟨x, _, rfl⟩ := List.mem_map.mp hp
    rfl
  rw [if_pos ⟨h1, h2, pures_TS (b :: l), h3⟩, leastBy_map (fun x => (TS x, PS x)) _ listLt fun x y => (by
    rw [if_neg (by decide)]
    exact lt_PS x y)]
  rfl
/-! ### comprehensions -/
/-- each item gives an item, the store stays -/
theorem compL_map {α : Type} {step : α → Store → Res (Option D)} {g : Store → Bool} {S : Store} {f : α → D} (hg : g S = true) : ∀ (l : List α) (acc : List D), (∀ a ∈ l, step a S = .ok (some (f a)) S) → acc.length + l.length ≤ LINE →
    compL step g l S acc = .ok (acc ++ l.map f) S
  | [], acc, _, _ => by
    show (if g S then Res.ok acc S else .bad) = _
    rw [if_pos hg, List.map_nil, List.append_nil]
  | a :: l, acc, h, hl => by
    rw [List.length_cons] at hl
    show (if g S then (step a S).bind fun o S1 => match o with
      | some y => if acc.length < LINE then compL step g l S1 (acc ++ [y]) else .bad
      | none => compL step g l S1 acc
    else .bad) = _
    rw [if_pos hg, h a List.mem_cons_self, rk]
    show (if acc.length < LINE then compL step g l S (acc ++ [f a]) else .bad) = _
    rw [if_pos (by omega), compL_map hg l (acc ++ [f a]) (fun b hb => h b (List.mem_cons_of_mem _ hb)) (by rw [List.length_append, List.length_singleton]; omega)]
    rw [List.map_cons, List.append_assoc]
    rfl
end RA

set_option linter.all false
set_option maxRecDepth 100000
set_option maxHeartbeats 4000000
set_option autoImplicit false
/-! RG: running a body: loops, comprehensions, the store; for every law. -/
namespace RA
open PySem (Str PyData)
theorem boolsOf_true : ∀ l : List Str, boolsOf (l.map fun _ => D.bl true) = some (l.map fun _ => true)
  | [] => rfl
  | x :: l => by
    show (boolsOf (l.map fun _ => D.bl true)).map (fun r => true :: r) = _
    rw [boolsOf_true l]; rfl
theorem eqd_int (S : Store) (a b : Int) : eqd S (.int a) (.int b) = some (decide (a = b)) := by
  show (if min (PyData.int a).depth (PyData.int b).depth ≤ 60 then some ((PyData.int a).eqv (PyData.int b)) else none) = _
  rw [if_pos (by simp only [PyData.depth]; decide)]
  simp only [PyData.eqv]
  rfl
theorem fmod_nat (a b : Nat) : (a : Int).fmod (b : Int) = ((a % b : Nat) : Int) := by
  rw [Int.fmod_eq_emod_of_nonneg _ (Int.natCast_nonneg b)]; rfl
theorem fdiv_nat (a b : Nat) : (a : Int).fdiv (b : Int) = ((a / b : Nat) : Int) := by
  rw [Int.fdiv_eq_ediv_of_nonneg _ (Int.natCast_nonneg b)]; rfl
theorem log_small {m : Nat} (h : m ≤ 1000) : ((m : Nat) : Int).natAbs.log2 < 9000 := log_len (Nat.le_trans h (by decide))
/-- a turn of a for -/
def turn (T : Cls) (C : Ora) (tup : Bool) (tgt : List Nat) (body : List RA.St) (d : D) (σ : Sig) (S : Store) : Res Out := match target σ tup tgt d with
  | none => .bad
  | some σ2 => RA.execs T C body σ2 S
theorem turn_eq {C : Ora} {T : Cls} {tup : Bool} {tgt : List Nat} {body : List RA.St} {d : D} {σ σ2 : Sig} {S : Store} (h : target σ tup tgt d = some σ2) : turn T C tup tgt body d σ S = RA.execs T C body σ2 S := by
  unfold turn
  rw [h]
theorem st_loop {C : Ora} {T : Cls} {τ : Sig} {S : Store} {tup : Bool} {tgt : List Nat} {sk : SK} {es : List E} {body : List RA.St} {ds : List D} {it : List D} {o : Option Nat} (h : RA.evalEs C es τ S = .ok ds S) (hi : srcOf S sk ds = some (it, o)) :
    RA.execS T C (.loop tup tgt sk es body) τ S = forL (turn T C tup tgt body) (fun S => still S (it, o)) it τ S := by
  have e : RA.execS T C (.loop tup tgt sk es body) τ S = (RA.evalEs C es τ S).bind fun ds S => match srcOf S sk ds with
    | none => Res.bad
    | some it => forL (turn T C tup tgt body) (fun S => still S it) it.1 τ S := rfl
  rw [e, h, rk, hi]
theorem rng2I {S : Store} {i j : Int} (h : -(2 ^ 62) ≤ i ∧ i < 2 ^ 62 ∧ -(2 ^ 62) ≤ j ∧ j < 2 ^ 62) : srcOf S .rng2 [.int i, .int j] = some ((List.range (j - i).toNat).map fun k => D.int (i + (k : Nat)), none) := if_pos h
theorem rng1I {S : Store} {j : Int} (h : -(2 ^ 62) ≤ j ∧ j < 2 ^ 62) : srcOf S .rng1 [.int j] = some ((List.range j.toNat).map fun k => D.int (0 + (k : Nat)), none) := if_pos h
theorem small62 {b : Nat} (hb : b ≤ 1000000) : -(2 ^ 62) ≤ (b : Int) ∧ (b : Int) < 2 ^ 62 := by
  have : (b : Int) ≤ 1000000 := Int.ofNat_le.mpr hb
  have big : (1000000 : Int) < 2 ^ 62 := by decide
  have low : -(2 ^ 62) ≤ (0 : Int) := by decide
  exact ⟨Int.le_trans low (Int.natCast_nonneg b), Int.lt_of_le_of_lt this big⟩
theorem rng2 {S : Store} {a b : Nat} (ha : a ≤ 1000000) (hb : b ≤ 1000000) : srcOf S .rng2 [.int (a : Int), .int (b : Int)] = some (((List.range (b - a)).map fun i => a + i).map fun q : Nat => D.int (q : Int), none) := by
  rw [rng2I ⟨(small62 ha).1, (small62 ha).2, (small62 hb).1, (small62 hb).2⟩]
  have e : ((b : Int) - (a : Int)).toNat = b - a := by omega
  rw [e, List.map_map]
  exact congrArg (fun z => some (z, Option.none)) (List.map_congr_left fun i _ => (congrArg D.int (Int.natCast_add a i)).symm)
theorem rng1 {S : Store} {b : Nat} (hb : b ≤ 1000000) : srcOf S .rng1 [.int (b : Int)] = some ((List.range b).map fun q : Nat => D.int (q : Int), none) := by
  rw [rng1I (small62 hb), Int.toNat_natCast]
  exact congrArg (fun z => some (z, Option.none)) (List.map_congr_left fun i _ => congrArg D.int (Int.zero_add _))
/-- a turn of a comprehension -/
def cstep (C : Ora) (own : List Nat) (tup : Bool) (tgt : List Nat) (ifs elt : E) (τ : Sig) (d : D) (S : Store) : Res (Option D) := match target (RA.wipe τ own) tup tgt d with
  | none => .bad
  | some σ2 => ((RA.evalE C ifs σ2 S).noexc).bind fun b S => (RA.lift S (truth S b)).bind fun k S => if k then ((RA.evalE C elt σ2 S).noexc).bind fun y S => .ok (some y) S else .ok none S
theorem cstep_eq {C : Ora} {own : List Nat} {tup : Bool} {tgt : List Nat} {ifs elt : E} {τ σ2 : Sig} {d y : D} {S : Store} (h : target (RA.wipe τ own) tup tgt d = some σ2) (h1 : RA.evalE C ifs σ2 S = .ok (.bl true) S) (h2 : RA.evalE C elt σ2 S = .ok y S) :
    cstep C own tup tgt ifs elt τ d S = .ok (some y) S := by
  unfold cstep
  rw [h]
  dsimp only
  rw [h1]
  show ((RA.lift S (some true)).bind fun k S => if k then ((RA.evalE C elt σ2 S).noexc).bind fun y S => Res.ok (some y) S else .ok none S) = _
  rw [lk, rk, if_pos rfl, h2]
  rfl
theorem ev_comp {C : Ora} {own : List Nat} {tup : Bool} {tgt : List Nat} {sk : SK} {es : List E} {ifs elt : E} {τ : Sig} {S : Store} {ds it : List D} {o : Option Nat} (f : D → D) (h : RA.evalEs C es τ S = .ok ds S) (hi : srcOf S sk ds = some (it, o)) (hg : still S (it, o) = true)
    (hs : ∀ a ∈ it, ∃ σ2, target (RA.wipe τ own) tup tgt a = some σ2 ∧ RA.evalE C ifs σ2 S = .ok (.bl true) S ∧ RA.evalE C elt σ2 S = .ok (f a) S) (hl : it.length ≤ LINE) :
    RA.evalE C (.comp own tup tgt sk es ifs elt) τ S = .ok (.vl (it.map f)) S := by
  have e : RA.evalE C (.comp own tup tgt sk es ifs elt) τ S = (RA.evalEs C es τ S).bind fun ds S => match srcOf S sk ds with
    | none => Res.bad
    | some it => (compL (cstep C own tup tgt ifs elt τ) (fun S => still S it) it.1 S []).bind fun l S => .ok (.vl l) S := rfl
  rw [e, h, rk, hi]
  dsimp only
  rw [compL_map (f := f) (g := fun S => still S (it, o)) hg it [] (fun a ha => by
    obtain ⟨σ2, h1, h2, h3⟩ := hs a ha
    exact cstep_eq h1 h2 h3) (by rw [List.length_nil, Nat.zero_add]; exact hl), rk, List.nil_append]
theorem es_one {C : Ora} {a : E} {τ : Sig} {S : Store} {x : D} (h : RA.evalE C a τ S = .ok x S) : RA.evalEs C [a] τ S = .ok [x] S := by
  rw [es_cons, h, rk, es_nil, rk]
/-- a for that goes through, by a word of the turn -/
theorem forL_inv {step : D → Sig → Store → Res Out} {g : Store → Bool} (P : Nat → Sig → Store → Prop) : ∀ (it : List D) (a : Nat) (σ : Sig) (S : Store), P a σ S → (∀ i d σ S, it[i]? = some d → P (a + i) σ S → g S = true ∧ ∃ σ' S', step d σ S = .ok (.nx σ') S' ∧ P (a + i + 1) σ' S') →
    (∀ σ S, P (a + it.length) σ S → g S = true) → ∃ σ' S', forL step g it σ S = .ok (.nx σ') S' ∧ P (a + it.length) σ' S'
  | [], a, σ, S, h, _, hg => ⟨σ, S, (by
      show (if g S then Res.ok (Out.nx σ) S else .bad) = _
      rw [if_pos (hg σ S h)]), h⟩
  | d :: r, a, σ, S, h, hs, hg => by
    obtain ⟨g0, σ1, S1, e1, h1⟩ := hs 0 d σ S rfl h
    obtain ⟨σ2, S2, e2, h2⟩ := forL_inv P r (a + 1) σ1 S1 h1 (fun i d' σ S hi hp => by
      have := hs (i + 1) d' σ S (by simpa using hi) (by rw [show a + (i + 1) = a + 1 + i from by omega]; exact hp)
      rw [show a + (i + 1) + 1 = a + 1 + i + 1 from by omega] at this
      exact this) (fun σ S hp => hg σ S (by rw [List.length_cons, show a + (r.length + 1) = a + 1 + r.length from by omega]; exact hp))
    refine ⟨σ2, S2, ?_, by rw [List.length_cons, show a + (r.length + 1) = a + 1 + r.length from by omega]; exact h2⟩
    show (if g S then (step d σ S).bind fun o S => match o with
      | .nx σ => forL step g r σ S
      | .ret x => .ok (.ret x) S
    else .bad) = _
    rw [if_pos g0, e1, rk]
    exact e2
theorem at_end {S : Store} {o : SO} : (S ++ [o])[S.length]? = some o := by
  rw [List.getElem?_append_right (Nat.le_refl _), Nat.sub_self]; rfl
theorem set_end {S : Store} {o o' : SO} : (S ++ [o]).set S.length o' = S ++ [o'] := by
  rw [List.set_append_right _ _ (Nat.le_refl _), Nat.sub_self]; rfl
theorem ev_append {C : Ora} {o e : E} {τ : Sig} {S S1 S2 : Store} {n : Nat} {y : D} {ds : List D} (h1 : RA.evalE C o τ S = .ok (.ref n) S1) (h2 : RA.evalE C e τ S1 = .ok y S2) (h3 : S2[n]? = some (.lst ds)) (hl : ds.length < LINE) :
    RA.evalE C (.append o e) τ S = .ok .non (S2.set n (.lst (ds ++ [y]))) := by
  have q : RA.evalE C (.append o e) τ S = (RA.evalE C o τ S).bind fun x S => match x with
    | .ref n => (RA.evalE C e τ S).bind fun y S => match S[n]? with
      | some (.lst ds) => if ds.length < LINE then .ok .non (S.set n (.lst (ds ++ [y]))) else .bad
      | none => .bad
    | _ => .bad := rfl
  rw [q, h1, rk]
  dsimp only
  rw [h2, rk, h3]
  dsimp only
  rw [if_pos hl]
theorem whileL_inv {step : Sig → Store → Res (Option Out)} (P : Nat → Sig → Store → Prop) (hs : ∀ m σ S, P (m + 1) σ S → ∃ σ' S', step σ S = .ok (some (.nx σ')) S' ∧ P m σ' S') (h0 : ∀ σ S, P 0 σ S → step σ S = .ok none S) :
    ∀ (m k : Nat) (σ : Sig) (S : Store), m < k → P m σ S → ∃ σ' S', whileL step k σ S = .ok (.nx σ') S' ∧ P 0 σ' S'
  | m, 0, σ, S, h, _ => by omega
  | 0, k + 1, σ, S, _, p => by
    refine ⟨σ, S, ?_, p⟩
    unfold whileL
    rw [h0 σ S p, rk]
  | m + 1, k + 1, σ, S, h, p => by
    obtain ⟨σ1, S1, e1, p1⟩ := hs m σ S p
    obtain ⟨σ2, S2, e2, p2⟩ := whileL_inv P hs h0 m k σ1 S1 (by omega) p1
    refine ⟨σ2, S2, ?_, p2⟩
    unfold whileL
    rw [e1, rk]
    exact e2
/-- a turn of a while -/
def wturn (T : Cls) (C : Ora) (c : E) (body : List RA.St) (σ : Sig) (S : Store) : Res (Option Out) := (RA.evalE C c σ S).bind fun x S => (RA.lift S (truth S x)).bind fun k S =>
  if k then (RA.execs T C body σ S).bind fun o S => .ok (some o) S else .ok none S
theorem st_while {C : Ora} {T : Cls} {τ : Sig} {S : Store} {c : E} {body : List RA.St} : RA.execS T C (.while c body) τ S = whileL (wturn T C c body) C.turns τ S := rfl
theorem ev_pop {C : Ora} {o i : E} {τ : Sig} {S S1 S2 : Store} {n j : Nat} {v : Int} {ds : List D} {y : D} (h1 : RA.evalE C o τ S = .ok (.ref n) S1) (h2 : RA.evalE C i τ S1 = .ok (.int v) S2) (hv : -(2 ^ 62) ≤ v ∧ v < 2 ^ 62) (h3 : S2[n]? = some (.lst ds)) (hj : natIx ds.length v = some j) (hy : ds[j]? = some y) :
    RA.evalE C (.pop o i) τ S = .ok y (S2.set n (.lst (ds.eraseIdx j))) := by
  have q : RA.evalE C (.pop o i) τ S = (RA.evalE C o τ S).bind fun x S => match x with
    | .ref n => (RA.evalE C i τ S).bind fun y S => match y with
      | .int k => if -(2 ^ 62) ≤ k ∧ k < 2 ^ 62 then (match S[n]? with
        | some (.lst ds) => match natIx ds.length k with
          | some j => match ds[j]? with
            | some d => .ok d (S.set n (.lst (ds.eraseIdx j)))
            | none => .bad
          | none => .bad
        | none => .bad) else .bad
      | _ => .bad
    | _ => .bad := rfl
  rw [q, h1, rk]
  dsimp only
  rw [h2, rk]
  dsimp only
  rw [if_pos hv, h3]
  dsimp only
  rw [hj]
  dsimp only
  rw [hy]
/-- a comprehension that changes the store, by a word of the turn and of what came out -/
theorem compL_inv {α : Type} {step : α → Store → Res (Option D)} {g : Store → Bool} (P : Nat → Store → List D → Prop) : ∀ (it : List α) (a : Nat) (S : Store) (acc : List D), P a S acc → (∀ i d S acc, it[i]? = some d → P (a + i) S acc → acc.length < LINE ∧ g S = true ∧ ∃ y S', step d S = .ok (some y) S' ∧ P (a + i + 1) S' (acc ++ [y])) →
    (∀ S acc, P (a + it.length) S acc → g S = true) → ∃ l S', compL step g it S acc = .ok l S' ∧ P (a + it.length) S' l
  | [], a, S, acc, h, _, hg => ⟨acc, S, (by
      show (if g S then Res.ok acc S else .bad) = _
      rw [if_pos (hg S acc h)]), h⟩
  | d :: r, a, S, acc, h, hs, hg => by
    obtain ⟨hl, g0, y, S1, e1, h1⟩ := hs 0 d S acc rfl h
    obtain ⟨l, S2, e2, h2⟩ := compL_inv P r (a + 1) S1 (acc ++ [y]) h1 (fun i d' S acc hi hp => by
      have := hs (i + 1) d' S acc (by simpa using hi) (by rw [show a + (i + 1) = a + 1 + i from by omega]; exact hp)
      rw [show a + (i + 1) + 1 = a + 1 + i + 1 from by omega] at this
      exact this) (fun S acc hp => hg S acc (by rw [List.length_cons, show a + (r.length + 1) = a + 1 + r.length from by omega]; exact hp))
    refine ⟨l, S2, ?_, by rw [List.length_cons, show a + (r.length + 1) = a + 1 + r.length from by omega]; exact h2⟩
    show (if g S then (step d S).bind fun o S1 => match o with
      | some y => if acc.length < LINE then compL step g r S1 (acc ++ [y]) else .bad
      | none => compL step g r S1 acc
    else .bad) = _
    rw [if_pos g0, e1, rk]
    dsimp only
    rw [if_pos hl]
    exact e2
theorem Dice.more {S : Store} {n B B' : Nat} (d : Dice S n B) (h : B ≤ B') : Dice S n B' := by
  obtain ⟨a, b, c, h1, h2, h3, h4, h5, h6⟩ := d
  exact ⟨a, b, c, h1, h2, h3, h4, h5, by omega⟩
/-- the old part of the store stays, but for the dice -/
def Old (n : Nat) (S S' : Store) : Prop := S.length ≤ S'.length ∧ ∀ i, i < S.length → i ≠ n → S'[i]? = S[i]?
theorem Old.refl {n : Nat} {S : Store} : Old n S S := ⟨Nat.le_refl _, fun _ _ _ => rfl⟩
theorem Old.trans {n : Nat} {S S1 S2 : Store} (a : Old n S S1) (b : Old n S1 S2) : Old n S S2 := ⟨Nat.le_trans a.1 b.1, fun i h hn => (b.2 i (Nat.lt_of_lt_of_le h a.1) hn).trans (a.2 i h hn)⟩
theorem Old.of {n : Nat} {S S' : Store} (s : SameBut n S S') : Old n S S' := ⟨Nat.le_of_eq s.1.symm, fun i _ hn => s.2 i hn⟩
theorem eqd_str (S : Store) (a b : Str) : eqd S (.str a) (.str b) = some (decide (a = b)) := by
  show (if min (PyData.str a).depth (PyData.str b).depth ≤ 60 then some ((PyData.str a).eqv (PyData.str b)) else none) = _
  rw [if_pos (by simp only [PyData.depth]; decide)]
  simp only [PyData.eqv]
  by_cases h : a = b <;> simp [h]
theorem asQ_ref {S : Store} {b : Nat} {ds : List D} (h : S[b]? = some (.lst ds)) : asQ S (.ref b) = some ds := by
  show (match S[b]? with | some (.lst ds) => some ds | none => none) = _
  rw [h]
theorem len_ref {S : Store} {b : Nat} {ds : List D} (h : S[b]? = some (.lst ds)) : lenD S (.ref b) = some (.int (ds.length : Int)) := by
  show (asQ S (.ref b)).map (fun ds : List D => D.int (ds.length : Int)) = _
  rw [asQ_ref h]; rfl
theorem old_app {n : Nat} {S : Store} {o : SO} : Old n S (S ++ [o]) := ⟨by rw [List.length_append]; omega, fun i h _ => List.getElem?_append_left h⟩
theorem dice_app {n B : Nat} {S : Store} {o : SO} (hn : n < S.length) (d : Dice S n B) : Dice (S ++ [o]) n B := by
  obtain ⟨a, b, c, h1, h2⟩ := d
  exact ⟨a, b, c, by rw [List.getElem?_append_left hn]; exact h1, h2⟩
/-- a comprehension that keeps nothing, and changes the store -/
theorem compL_no {α : Type} {step : α → Store → Res (Option D)} {g : Store → Bool} (P : Nat → Store → Prop) : ∀ (it : List α) (a : Nat) (S : Store) (acc : List D), P a S → (∀ i d S, it[i]? = some d → P (a + i) S → g S = true ∧ ∃ S', step d S = .ok none S' ∧ P (a + i + 1) S') →
    (∀ S, P (a + it.length) S → g S = true) → ∃ S', compL step g it S acc = .ok acc S' ∧ P (a + it.length) S'
  | [], a, S, acc, h, _, hg => ⟨S, (by
      show (if g S then Res.ok acc S else .bad) = _
      rw [if_pos (hg S h)]), h⟩
  | d :: r, a, S, acc, h, hs, hg => by
    obtain ⟨g0, S1, e1, h1⟩ := hs 0 d S rfl h
    obtain ⟨S2, e2, h2⟩ := compL_no P r (a + 1) S1 acc h1 (fun i d' S hi hp => by
      have := hs (i + 1) d' S (by simpa using hi) (by rw [show a + (i + 1) = a + 1 + i from by omega]; exact hp)
      rw [show a + (i + 1) + 1 = a + 1 + i + 1 from by omega] at this
      exact this) (fun S hp => hg S (by rw [List.length_cons, show a + (r.length + 1) = a + 1 + r.length from by omega]; exact hp))
    refine ⟨S2, ?_, by rw [List.length_cons, show a + (r.length + 1) = a + 1 + r.length from by omega]; exact h2⟩
    show (if g S then (step d S).bind fun o S1 => match o with
      | some y => if acc.length < LINE then compL step g r S1 (acc ++ [y]) else .bad
      | none => compL step g r S1 acc
    else .bad) = _
    rw [if_pos g0, e1, rk]
    exact e2
theorem comp_eq {C : Ora} {own : List Nat} {tup : Bool} {tgt : List Nat} {sk : SK} {es : List E} {ifs elt : E} {τ : Sig} {S S1 : Store} {ds it : List D} {o : Option Nat} (h : RA.evalEs C es τ S = .ok ds S1) (hi : srcOf S1 sk ds = some (it, o)) :
    RA.evalE C (.comp own tup tgt sk es ifs elt) τ S = (compL (cstep C own tup tgt ifs elt τ) (fun S => still S (it, o)) it S1 []).bind fun l S => .ok (.vl l) S := by
  have e : RA.evalE C (.comp own tup tgt sk es ifs elt) τ S = (RA.evalEs C es τ S).bind fun ds S => match srcOf S sk ds with
    | none => Res.bad
    | some it => (compL (cstep C own tup tgt ifs elt τ) (fun S => still S it) it.1 S []).bind fun l S => .ok (.vl l) S := rfl
  rw [e, h, rk, hi]
end RA

set_option linter.all false
set_option maxRecDepth 100000
set_option maxHeartbeats 4000000
set_option autoImplicit false
/-! SH: what runs in a store runs alike behind another store: places are moved. -/
namespace RA
open PySem (Str PyData)
mutual
def shD (n : Nat) : D → D
  | .non => .non
  | .bl b => .bl b
  | .int i => .int i
  | .str s => .str s
  | .tup ds => .tup (shDs n ds)
  | .vl ds => .vl (shDs n ds)
  | .ro ds => .ro (shDs n ds)
  | .vd a b => .vd (shDs n a) (shDs n b)
  | .ref m => .ref (n + m)
  | .fn i => .fn i
  | .ty t => .ty t
def shDs (n : Nat) : List D → List D
  | [] => []
  | d :: ds => shD n d :: shDs n ds
end
theorem shDs_map (n : Nat) : ∀ ds, shDs n ds = ds.map (shD n)
  | [] => rfl
  | d :: ds => by rw [shDs, shDs_map n ds]; rfl
def shO (n : Nat) : SO → SO
  | .lst ds => .lst (shDs n ds)
def shS (P S : Store) : Store := P ++ S.map (shO P.length)
def shX (n : Nat) (x : Exn) : Exn := ⟨x.k, x.fs.map fun p => (p.1, shD n p.2)⟩
def shG (n : Nat) (σ : Sig) : Sig := σ.map fun o => o.map (shD n)
/-- r, moved -/
def shR {α β : Type} (P : Store) (f : α → β) : Res α → Res β
  | .ok a S => .ok (f a) (shS P S)
  | .exc x S => .exc (shX P.length x) (shS P S)
  | .bad => .bad
def Sim {α β : Type} (P : Store) (f : α → β) (r : Res α) (r' : Res β) : Prop := r = .bad ∨ r' = shR P f r
section
variable {P : Store}
theorem Sim.ok {α β : Type} {f : α → β} {a : α} {S : Store} : Sim P f (.ok a S) (.ok (f a) (shS P S)) := .inr rfl
theorem Sim.bad {α β : Type} {f : α → β} {r : Res β} : Sim P f .bad r := .inl rfl
theorem Sim.bind {α β γ δ : Type} {f : α → β} {g : γ → δ} {r : Res α} {r' : Res β} {k : α → Store → Res γ} {k' : β → Store → Res δ} (h : Sim P f r r') (hk : ∀ a S, Sim P g (k a S) (k' (f a) (shS P S))) : Sim P g (r.bind k) (r'.bind k') := by
  rcases h with h | h
  · subst h; exact .inl rfl
  · subst h
    cases r with
    | ok a S => exact hk a S
    | exc x S => exact .inr rfl
    | bad => exact .inl rfl
theorem Sim.noexc {α β : Type} {f : α → β} {r : Res α} {r' : Res β} (h : Sim P f r r') : Sim P f r.noexc r'.noexc := by
  rcases h with h | h
  · subst h; exact .inl rfl
  · subst h
    cases r with
    | ok a S => exact .inr rfl
    | exc x S => exact .inl rfl
    | bad => exact .inl rfl
theorem Sim.lift {α β : Type} {f : α → β} {o : Option α} {o' : Option β} {S : Store} (h : o' = o.map f) : Sim P f (lift S o) (RA.lift (shS P S) o') := by
  subst h
  cases o with
  | none => exact .inl rfl
  | some a => exact .inr rfl
/-! ### places -/
theorem shS_get (S : Store) (m : Nat) : (shS P S)[P.length + m]? = (S[m]?).map (shO P.length) := by
  unfold shS
  rw [List.getElem?_append_right (Nat.le_add_right _ _), Nat.add_sub_cancel_left, List.getElem?_map]
theorem shS_len (S : Store) : (shS P S).length = P.length + S.length := by
  unfold shS
  rw [List.length_append, List.length_map]
theorem shS_set (S : Store) (m : Nat) (o : SO) : (shS P S).set (P.length + m) (shO P.length o) = shS P (S.set m o) := by
  unfold shS
  rw [List.set_append_right _ _ (Nat.le_add_right _ _), Nat.add_sub_cancel_left, List.map_set]
theorem shS_app (S : Store) (o : SO) : shS P S ++ [shO P.length o] = shS P (S ++ [o]) := by
  unfold shS
  rw [List.map_append, List.append_assoc]; rfl
theorem asL_sh (S : Store) (d : D) : asL (shS P S) (shD P.length d) = (asL S d).map (shDs P.length) := by
  cases d <;> try rfl
  rename_i m
  show (match (shS P S)[P.length + m]? with | some (.lst ds) => some ds | none => none) = (match S[m]? with | some (.lst ds) => some ds | none => none).map _
  rw [shS_get]
  cases S[m]? with
  | none => rfl
  | some o => cases o; rfl
theorem asQ_sh (S : Store) (d : D) : asQ (shS P S) (shD P.length d) = (asQ S d).map (shDs P.length) := by
  cases d <;> try rfl
  rename_i m
  exact asL_sh (P := P) S (.ref m)
theorem asLR_sh (S : Store) (d : D) : asLR (shS P S) (shD P.length d) = (asLR S d).map (shDs P.length) := by
  cases d <;> try rfl
  rename_i m
  exact asL_sh (P := P) S (.ref m)
mutual
theorem toP_sh {r r' : Nat → Option PyData} {n : Nat} (h : ∀ m, r' (n + m) = r m) : ∀ d, toP r' (shD n d) = toP r d
  | .non => rfl
  | .bl _ => rfl
  | .int _ => rfl
  | .str _ => rfl
  | .tup ds => congrArg (Option.map PyData.tuple) (toPs_sh h ds)
  | .vl ds => congrArg (Option.map PyData.list) (toPs_sh h ds)
  | .ro ds => congrArg (Option.map PyData.list) (toPs_sh h ds)
  | .vd _ _ => rfl
  | .ref m => h m
  | .fn _ => rfl
  | .ty _ => rfl
theorem toPs_sh {r r' : Nat → Option PyData} {n : Nat} (h : ∀ m, r' (n + m) = r m) : ∀ ds, toPs r' (shDs n ds) = toPs r ds
  | [] => rfl
  | d :: ds => by
    show (toP r' (shD n d)).bind (fun x => (toPs r' (shDs n ds)).map fun xs => x :: xs) = (toP r d).bind fun x => (toPs r ds).map fun xs => x :: xs
    rw [toP_sh h d, toPs_sh h ds]
end
theorem deep_sh : ∀ (k : Nat) (S : Store) (m : Nat), deep k (shS P S) (P.length + m) = deep k S m
  | 0, _, _ => rfl
  | k + 1, S, m => by
    show (match (shS P S)[P.length + m]? with | some (.lst ds) => (toPs (deep k (shS P S)) ds).map PyData.list | none => none) = (match S[m]? with | some (.lst ds) => (toPs (deep k S) ds).map PyData.list | none => none)
    rw [shS_get]
    cases S[m]? with
    | none => rfl
    | some o =>
      cases o with
      | lst ds => exact congrArg (Option.map PyData.list) (toPs_sh (deep_sh k S) ds)
theorem pd_sh (S : Store) (d : D) : pd (shS P S) (shD P.length d) = pd S d := toP_sh (deep_sh 8 S) d
theorem pds_sh (S : Store) (ds : List D) : pds (shS P S) (shDs P.length ds) = pds S ds := toPs_sh (deep_sh 8 S) ds
theorem shDs_len (n : Nat) (ds : List D) : (shDs n ds).length = ds.length := by rw [shDs_map, List.length_map]
theorem shDs_app (n : Nat) (a b : List D) : shDs n (a ++ b) = shDs n a ++ shDs n b := by rw [shDs_map, shDs_map, shDs_map, List.map_append]
theorem shDs_get (n : Nat) (ds : List D) (i : Nat) : (shDs n ds)[i]? = (ds[i]?).map (shD n) := by rw [shDs_map, List.getElem?_map]
theorem intsOf_sh (n : Nat) : ∀ ds, intsOf (shDs n ds) = intsOf ds
  | [] => rfl
  | d :: ds => by
    cases d <;> first | rfl | skip
    show (intsOf (shDs n ds)).map _ = (intsOf ds).map _
    rw [intsOf_sh n ds]
theorem boolsOf_sh (n : Nat) : ∀ ds, boolsOf (shDs n ds) = boolsOf ds
  | [] => rfl
  | d :: ds => by
    cases d <;> first | rfl | skip
    show (boolsOf (shDs n ds)).map _ = (boolsOf ds).map _
    rw [boolsOf_sh n ds]
theorem truth_sh (S : Store) (d : D) : truth (shS P S) (shD P.length d) = truth S d := by
  cases d <;> try rfl
  · show some (!(shDs P.length _).isEmpty) = _
    rename_i ds
    cases ds <;> rfl
  · show some (!(shDs P.length _).isEmpty) = _
    rename_i ds
    cases ds <;> rfl
  · show some (!(shDs P.length _).isEmpty) = _
    rename_i ds
    cases ds <;> rfl
  · rename_i m
    show (match (shS P S)[P.length + m]? with | some (.lst ds) => some (!ds.isEmpty) | none => none) = (match S[m]? with | some (.lst ds) => some (!ds.isEmpty) | none => none)
    rw [shS_get]
    cases S[m]? with
    | none => rfl
    | some o =>
      cases o with
      | lst ds => cases ds <;> rfl
theorem rep_sh (n : Nat) (k : Int) (ds : List D) : rep k (shDs n ds) = shDs n (rep k ds) := by
  unfold rep
  rw [shDs_map, shDs_map, List.map_flatten, List.map_replicate]
theorem addL_sh (S : Store) (x y : D) : ((asL (shS P S) (shD P.length x)).bind fun a => (asL (shS P S) (shD P.length y)).bind fun b => if a.length + b.length ≤ LINE then some (D.vl (a ++ b)) else none) =
    ((asL S x).bind fun a => (asL S y).bind fun b => if a.length + b.length ≤ LINE then some (D.vl (a ++ b)) else none).map (shD P.length) := by
  rw [asL_sh, asL_sh]
  cases asL S x with
  | none => rfl
  | some a =>
    cases asL S y with
    | none => rfl
    | some b =>
      show (if (shDs P.length a).length + (shDs P.length b).length ≤ LINE then some (D.vl (shDs P.length a ++ shDs P.length b)) else none) = (if a.length + b.length ≤ LINE then some (D.vl (a ++ b)) else none).map _
      rw [shDs_len, shDs_len, ← shDs_app]
      split <;> rfl
theorem mulL_sh (S : Store) (x : D) (k : Int) : ((asL (shS P S) (shD P.length x)).bind fun a => if -1000 ≤ k ∧ k ≤ 1000 ∧ a.length ≤ 1000 then some (D.vl (rep k a)) else none) =
    ((asL S x).bind fun a => if -1000 ≤ k ∧ k ≤ 1000 ∧ a.length ≤ 1000 then some (D.vl (rep k a)) else none).map (shD P.length) := by
  rw [asL_sh]
  cases asL S x with
  | none => rfl
  | some a =>
    show (if -1000 ≤ k ∧ k ≤ 1000 ∧ (shDs P.length a).length ≤ 1000 then some (D.vl (rep k (shDs P.length a))) else none) = (if -1000 ≤ k ∧ k ≤ 1000 ∧ a.length ≤ 1000 then some (D.vl (rep k a)) else none).map _
    rw [shDs_len, rep_sh]
    split <;> rfl
theorem map_ite {α β : Type} {p : Prop} [Decidable p] {f : α → β} {a : α} : (if p then some (f a) else none) = (if p then some a else none).map f := by split <;> rfl
end
end RA

set_option linter.all false
set_option maxRecDepth 100000
set_option maxHeartbeats 4000000
set_option autoImplicit false
namespace RA
open PySem (Str PyData)
section
variable {P : Store}
theorem add_sh (S : Store) (x y : D) : binop (shS P S) .add (shD P.length x) (shD P.length y) = (binop S .add x y).map (shD P.length) := by
  match x, y with
  | .int i, .int j => rfl
  | .str a, .str b => exact map_ite (f := shD P.length) (a := .str (a ++ b)) (p := a.length + b.length ≤ LINE)
  | .tup a, .tup b =>
    show (if (shDs P.length a).length + (shDs P.length b).length ≤ LINE then some (D.tup (shDs P.length a ++ shDs P.length b)) else none) = (if a.length + b.length ≤ LINE then some (D.tup (a ++ b)) else none).map _
    rw [shDs_len, shDs_len, ← shDs_app]
    exact map_ite (f := shD P.length) (a := .tup (a ++ b)) (p := a.length + b.length ≤ LINE)
  | .vl a, .non => exact addL_sh (P := P) S (.vl a) .non
  | .vl a, .bl b => exact addL_sh (P := P) S (.vl a) (.bl b)
  | .vl a, .int b => exact addL_sh (P := P) S (.vl a) (.int b)
  | .vl a, .str b => exact addL_sh (P := P) S (.vl a) (.str b)
  | .vl a, .tup b => exact addL_sh (P := P) S (.vl a) (.tup b)
  | .vl a, .vl b => exact addL_sh (P := P) S (.vl a) (.vl b)
  | .vl a, .ro b => exact addL_sh (P := P) S (.vl a) (.ro b)
  | .vl a, .vd b c => exact addL_sh (P := P) S (.vl a) (.vd b c)
  | .vl a, .ref b => exact addL_sh (P := P) S (.vl a) (.ref b)
  | .vl a, .fn b => exact addL_sh (P := P) S (.vl a) (.fn b)
  | .vl a, .ty b => exact addL_sh (P := P) S (.vl a) (.ty b)
  | .ref a, .non => exact addL_sh (P := P) S (.ref a) .non
  | .ref a, .bl b => exact addL_sh (P := P) S (.ref a) (.bl b)
  | .ref a, .int b => exact addL_sh (P := P) S (.ref a) (.int b)
  | .ref a, .str b => exact addL_sh (P := P) S (.ref a) (.str b)
  | .ref a, .tup b => exact addL_sh (P := P) S (.ref a) (.tup b)
  | .ref a, .vl b => exact addL_sh (P := P) S (.ref a) (.vl b)
  | .ref a, .ro b => exact addL_sh (P := P) S (.ref a) (.ro b)
  | .ref a, .vd b c => exact addL_sh (P := P) S (.ref a) (.vd b c)
  | .ref a, .ref b => exact addL_sh (P := P) S (.ref a) (.ref b)
  | .ref a, .fn b => exact addL_sh (P := P) S (.ref a) (.fn b)
  | .ref a, .ty b => exact addL_sh (P := P) S (.ref a) (.ty b)
  | .non, y => cases y <;> rfl
  | .bl _, y => cases y <;> rfl
  | .ro _, y => cases y <;> rfl
  | .vd _ _, y => cases y <;> rfl
  | .fn _, y => cases y <;> rfl
  | .ty _, y => cases y <;> rfl
  | .int _, .non => rfl
  | .int _, .bl _ => rfl
  | .int _, .str _ => rfl
  | .int _, .tup _ => rfl
  | .int _, .vl _ => rfl
  | .int _, .ro _ => rfl
  | .int _, .vd _ _ => rfl
  | .int _, .ref _ => rfl
  | .int _, .fn _ => rfl
  | .int _, .ty _ => rfl
  | .str _, .non => rfl
  | .str _, .bl _ => rfl
  | .str _, .int _ => rfl
  | .str _, .tup _ => rfl
  | .str _, .vl _ => rfl
  | .str _, .ro _ => rfl
  | .str _, .vd _ _ => rfl
  | .str _, .ref _ => rfl
  | .str _, .fn _ => rfl
  | .str _, .ty _ => rfl
  | .tup _, .non => rfl
  | .tup _, .bl _ => rfl
  | .tup _, .int _ => rfl
  | .tup _, .str _ => rfl
  | .tup _, .vl _ => rfl
  | .tup _, .ro _ => rfl
  | .tup _, .vd _ _ => rfl
  | .tup _, .ref _ => rfl
  | .tup _, .fn _ => rfl
  | .tup _, .ty _ => rfl
theorem mul_sh (S : Store) (x y : D) : binop (shS P S) .mul (shD P.length x) (shD P.length y) = (binop S .mul x y).map (shD P.length) := by
  cases y with
  | int k =>
    match x with
    | .int i => exact map_ite (f := shD P.length) (a := .int (i * k)) (p := i.natAbs.log2 + k.natAbs.log2 < 1000000)
    | .str a => exact map_ite (f := shD P.length) (a := .str (strTimes a k)) (p := -1000 ≤ k ∧ k ≤ 1000 ∧ a.length ≤ 1000)
    | .tup a =>
      show (if -1000 ≤ k ∧ k ≤ 1000 ∧ (shDs P.length a).length ≤ 1000 then some (D.tup (rep k (shDs P.length a))) else none) = (if -1000 ≤ k ∧ k ≤ 1000 ∧ a.length ≤ 1000 then some (D.tup (rep k a)) else none).map _
      rw [shDs_len, rep_sh]
      exact map_ite (f := shD P.length) (a := .tup (rep k a)) (p := -1000 ≤ k ∧ k ≤ 1000 ∧ a.length ≤ 1000)
    | .vl a => exact mulL_sh (P := P) S (.vl a) k
    | .ref a => exact mulL_sh (P := P) S (.ref a) k
    | .non => rfl
    | .bl _ => rfl
    | .ro _ => rfl
    | .vd _ _ => rfl
    | .fn _ => rfl
    | .ty _ => rfl
  | _ => cases x <;> rfl
theorem fdiv_sh (S : Store) (x y : D) : binop (shS P S) .fdiv (shD P.length x) (shD P.length y) = (binop S .fdiv x y).map (shD P.length) := by
  cases x with
  | int i =>
    cases y with
    | int j => exact map_ite (f := shD P.length) (a := .int (i.fdiv j)) (p := j ≠ 0 ∧ j.natAbs.log2 < 9000)
    | _ => rfl
  | _ => cases y <;> rfl
theorem mod_sh (S : Store) (x y : D) : binop (shS P S) .mod (shD P.length x) (shD P.length y) = (binop S .mod x y).map (shD P.length) := by
  cases x with
  | int i =>
    cases y with
    | int j => exact map_ite (f := shD P.length) (a := .int (i.fmod j)) (p := j ≠ 0)
    | _ => rfl
  | _ => cases y <;> rfl
theorem pow_sh (S : Store) (x y : D) : binop (shS P S) .pow (shD P.length x) (shD P.length y) = (binop S .pow x y).map (shD P.length) := by
  cases x with
  | int i =>
    cases y with
    | int j => exact map_ite (f := shD P.length) (a := .int (i ^ j.toNat)) (p := 0 ≤ j ∧ j ≤ 1000 ∧ i.natAbs.log2 < 1000)
    | _ => rfl
  | _ => cases y <;> rfl
theorem binop_sh (S : Store) (o : BOp) (x y : D) : binop (shS P S) o (shD P.length x) (shD P.length y) = (binop S o x y).map (shD P.length) := by
  cases o with
  | add => exact add_sh S x y
  | sub => cases x <;> cases y <;> rfl
  | mul => exact mul_sh S x y
  | fdiv => exact fdiv_sh S x y
  | mod => exact mod_sh S x y
  | pow => exact pow_sh S x y
end
end RA

set_option linter.all false
set_option maxRecDepth 100000
set_option maxHeartbeats 4000000
set_option autoImplicit false
namespace RA
open PySem (Str PyData)
section
variable {P : Store}
theorem eqd_sh (S : Store) (x y : D) : eqd (shS P S) (shD P.length x) (shD P.length y) = eqd S x y := by
  unfold eqd
  rw [pd_sh, pd_sh]
theorem lts_sh (n : Nat) (x y : D) : lts (shD n x) (shD n y) = lts x y := by cases x <;> cases y <;> rfl
theorem les_sh (n : Nat) (x y : D) : les (shD n x) (shD n y) = les x y := by cases x <;> cases y <;> rfl
theorem sameAs_sh (n : Nat) (x y : D) : sameAs (shD n x) (shD n y) = sameAs x y := by cases x <;> cases y <;> rfl
theorem isInQ_sh (S : Store) (x y : D) : ((asQ (shS P S) (shD P.length y)).bind fun ds => (pd (shS P S) (shD P.length x)).bind fun p => (pds (shS P S) ds).bind fun qs => if p.depth ≤ 60 then some (qs.any fun q => q.eqv p) else none) =
    ((asQ S y).bind fun ds => (pd S x).bind fun p => (pds S ds).bind fun qs => if p.depth ≤ 60 then some (qs.any fun q => q.eqv p) else none) := by
  rw [asQ_sh, pd_sh]
  cases asQ S y with
  | none => rw [Option.map_none, Option.bind_none, Option.bind_none]
  | some ds =>
    rw [Option.map_some, Option.bind_some, Option.bind_some, pds_sh]
theorem isIn_sh (S : Store) (x y : D) : isIn (shS P S) (shD P.length x) (shD P.length y) = isIn S x y := by
  cases x with
  | str a => cases y with
    | str b =>
      show some (!(PySem.Builtin.Str.occurrences b a 0 b.length 1).isEmpty) = some (!(PySem.Builtin.Str.occurrences b a 0 b.length 1).isEmpty)
      rfl
    | non  => exact isInQ_sh (P := P) S (.str a) .non
    | bl b => exact isInQ_sh (P := P) S (.str a) (.bl b)
    | int b => exact isInQ_sh (P := P) S (.str a) (.int b)
    | tup b => exact isInQ_sh (P := P) S (.str a) (.tup b)
    | vl b => exact isInQ_sh (P := P) S (.str a) (.vl b)
    | ro b => exact isInQ_sh (P := P) S (.str a) (.ro b)
    | vd b c => exact isInQ_sh (P := P) S (.str a) (.vd b c)
    | ref b => exact isInQ_sh (P := P) S (.str a) (.ref b)
    | fn b => exact isInQ_sh (P := P) S (.str a) (.fn b)
    | ty b => exact isInQ_sh (P := P) S (.str a) (.ty b)
  | non  => exact isInQ_sh (P := P) S .non y
  | bl a => exact isInQ_sh (P := P) S (.bl a) y
  | int a => exact isInQ_sh (P := P) S (.int a) y
  | tup a => exact isInQ_sh (P := P) S (.tup a) y
  | vl a => exact isInQ_sh (P := P) S (.vl a) y
  | ro a => exact isInQ_sh (P := P) S (.ro a) y
  | vd a c => exact isInQ_sh (P := P) S (.vd a c) y
  | ref a => exact isInQ_sh (P := P) S (.ref a) y
  | fn a => exact isInQ_sh (P := P) S (.fn a) y
  | ty a => exact isInQ_sh (P := P) S (.ty a) y
theorem blm (o : Option Bool) (n : Nat) : o.map D.bl = (o.map D.bl).map (shD n) := by cases o <;> rfl
theorem blN (o : Option Bool) (n : Nat) : (o.map fun b => D.bl (!b)) = (o.map fun b => D.bl (!b)).map (shD n) := by cases o <;> rfl
theorem cmpop_sh (S : Store) (o : COp) (x y : D) : cmpop (shS P S) o (shD P.length x) (shD P.length y) = (cmpop S o x y).map (shD P.length) := by
  cases o
  · rw [cm_eq, cm_eq, eqd_sh]; exact blm _ _
  · rw [cm_ne, cm_ne, eqd_sh]; exact blN _ _
  · rw [cm_lt, cm_lt, lts_sh]; exact blm _ _
  · rw [cm_le, cm_le, les_sh]; exact blm _ _
  · rw [cm_gt, cm_gt, lts_sh]; exact blm _ _
  · rw [cm_ge, cm_ge, les_sh]; exact blm _ _
  · rw [cm_is, cm_is, sameAs_sh]; exact blm _ _
  · rw [cm_isn, cm_isn, sameAs_sh]; exact blN _ _
  · rw [cm_in, cm_in, isIn_sh]; exact blm _ _
  · rw [cm_nin, cm_nin, isIn_sh]; exact blN _ _
theorem subQ_sh (S : Store) (x : D) (k : Int) : ((asQ (shS P S) (shD P.length x)).bind fun ds => (natIx ds.length k).bind fun j => ds[j]?) = ((asQ S x).bind fun ds => (natIx ds.length k).bind fun j => ds[j]?).map (shD P.length) := by
  rw [asQ_sh]
  cases asQ S x with
  | none => rfl
  | some ds =>
    show ((natIx (shDs P.length ds).length k).bind fun j => (shDs P.length ds)[j]?) = ((natIx ds.length k).bind fun j => ds[j]?).map _
    rw [shDs_len]
    cases natIx ds.length k with
    | none => rfl
    | some j => exact shDs_get _ _ _
theorem sub_sh (S : Store) (x i : D) : sub (shS P S) (shD P.length x) (shD P.length i) = (sub S x i).map (shD P.length) := by
  cases i <;> first | rfl | skip
  rename_i k
  by_cases hs : ∃ s, x = .str s
  case neg => cases x with
    | str b => exact absurd ⟨_, rfl⟩ hs
    | non  => exact subQ_sh (P := P) S .non k
    | bl b => exact subQ_sh (P := P) S (.bl b) k
    | int b => exact subQ_sh (P := P) S (.int b) k
    | tup b => exact subQ_sh (P := P) S (.tup b) k
    | vl b => exact subQ_sh (P := P) S (.vl b) k
    | ro b => exact subQ_sh (P := P) S (.ro b) k
    | vd b c => exact subQ_sh (P := P) S (.vd b c) k
    | ref b => exact subQ_sh (P := P) S (.ref b) k
    | fn b => exact subQ_sh (P := P) S (.fn b) k
    | ty b => exact subQ_sh (P := P) S (.ty b) k
  obtain ⟨s, rfl⟩ := hs
  show (if s.length ≤ LINE then (natIx s.length k).bind fun j => (s.cps[j]?).map fun c => D.str ⟨#[c]⟩ else none) = (if s.length ≤ LINE then (natIx s.length k).bind fun j => (s.cps[j]?).map fun c => D.str ⟨#[c]⟩ else none).map _
  split
  · cases natIx s.length k with
    | none => rfl
    | some j =>
      show (s.cps[j]?).map _ = ((s.cps[j]?).map _).map _
      rw [Option.map_map]; rfl
  · rfl
theorem bound_sh (n : Nat) (d : D) : bound (shD n d) = bound d := by cases d <;> rfl
theorem cut_sh (n : Nat) (ds : List D) (a b : Option Int) : cut (shDs n ds) a b = shDs n (cut ds a b) := by
  unfold cut
  rw [shDs_len, shDs_map, shDs_map, List.map_take, List.map_drop]
theorem slice2_sh (S : Store) (x : D) (a b : Option Int) : slice2 (shS P S) (shD P.length x) a b = (slice2 S x a b).map (shD P.length) := by
  have g : ∀ y : D, ((asL (shS P S) (shD P.length y)).map fun ds => D.vl (cut ds a b)) = ((asL S y).map fun ds => D.vl (cut ds a b)).map (shD P.length) := fun y => by
    rw [asL_sh, Option.map_map, Option.map_map]
    refine congrArg (fun f => Option.map f (asL S y)) (funext fun ds => ?_)
    show D.vl (cut (shDs P.length ds) a b) = D.vl (shDs P.length (cut ds a b))
    rw [cut_sh]
  cases x with
  | str _ => rfl
  | tup ds =>
    show some (D.tup (cut (shDs P.length ds) a b)) = some (D.tup (shDs P.length (cut ds a b)))
    rw [cut_sh]
  | non  => exact g .non
  | bl b => exact g (.bl b)
  | int b => exact g (.int b)
  | vl b => exact g (.vl b)
  | ro b => exact g (.ro b)
  | vd b c => exact g (.vd b c)
  | ref b => exact g (.ref b)
  | fn b => exact g (.fn b)
  | ty b => exact g (.ty b)
theorem slice_sh (S : Store) (x a b : D) : slice (shS P S) (shD P.length x) (shD P.length a) (shD P.length b) = (slice S x a b).map (shD P.length) := by
  unfold slice
  rw [bound_sh, bound_sh]
  cases bound a with
  | none => rfl
  | some a =>
    cases bound b with
    | none => rfl
    | some b => exact slice2_sh S x a b
theorem rev_sh (S : Store) (x : D) : rev (shS P S) (shD P.length x) = (rev S x).map (shD P.length) := by
  have g : ∀ y : D, ((asL (shS P S) (shD P.length y)).map fun ds => D.vl ds.reverse) = ((asL S y).map fun ds => D.vl ds.reverse).map (shD P.length) := fun y => by
    rw [asL_sh, Option.map_map, Option.map_map]
    refine congrArg (fun f => Option.map f (asL S y)) (funext fun ds => ?_)
    show D.vl (shDs P.length ds).reverse = D.vl (shDs P.length ds.reverse)
    rw [shDs_map, shDs_map, List.map_reverse]
  cases x with
  | tup ds =>
    show some (D.tup (shDs P.length ds).reverse) = some (D.tup (shDs P.length ds.reverse))
    rw [shDs_map, shDs_map, List.map_reverse]
  | non  => exact g .non
  | bl b => exact g (.bl b)
  | int b => exact g (.int b)
  | str b => exact g (.str b)
  | vl b => exact g (.vl b)
  | ro b => exact g (.ro b)
  | vd b c => exact g (.vd b c)
  | ref b => exact g (.ref b)
  | fn b => exact g (.fn b)
  | ty b => exact g (.ty b)
end
end RA

set_option linter.all false
set_option maxRecDepth 100000
set_option maxHeartbeats 4000000
set_option autoImplicit false
namespace RA
open PySem (Str PyData)
section
variable {P : Store}
/-! ### built-in functions -/
mutual
theorem pureD_sh (n : Nat) : ∀ d, pureD (shD n d) = pureD d
  | .non => rfl
  | .bl _ => rfl
  | .int _ => rfl
  | .str _ => rfl
  | .tup ds => pureDs_sh n ds
  | .vl _ => rfl
  | .ro _ => rfl
  | .vd _ _ => rfl
  | .ref _ => rfl
  | .fn _ => rfl
  | .ty _ => rfl
theorem pureDs_sh (n : Nat) : ∀ ds, pureDs (shDs n ds) = pureDs ds
  | [] => rfl
  | d :: ds => by
    show (pureD (shD n d) && pureDs (shDs n ds)) = (pureD d && pureDs ds)
    rw [pureD_sh n d, pureDs_sh n ds]
end
theorem zip_sh (n : Nat) (ds : List D) (ps : List PyData) : (shDs n ds).zip ps = (ds.zip ps).map fun p => (shD n p.1, p.2) := by
  rw [shDs_map, List.zip_map_left]
  rfl
theorem leastBy_sh {α β : Type} {f : α → β} {lt : α → α → Bool} {lt' : β → β → Bool} (h : ∀ a b, lt' (f a) (f b) = lt a b) : ∀ (l : List α) (b : α), leastBy lt' (f b) (l.map f) = f (leastBy lt b l)
  | [], b => rfl
  | x :: r, b => by
    show leastBy lt' (if lt' (f x) (f b) then f x else f b) (r.map f) = f (leastBy lt (if lt x b then x else b) r)
    rw [h, ← leastBy_sh h r, ← apply_ite f]
theorem best_sh (S : Store) (gt : Bool) (ds : List D) : best (shS P S) gt (shDs P.length ds) = (best S gt ds).map (shD P.length) := by
  unfold best
  rw [pds_sh]
  cases pds S ds with
  | none => rfl
  | some ps =>
    dsimp only [Option.bind_some]
    rw [zip_sh, pureDs_sh]
    cases ds.zip ps with
    | nil => rfl
    | cons x r =>
      rw [List.map_cons]
      dsimp only
      have q := leastBy_sh (f := fun p : D × PyData => (shD P.length p.1, p.2)) (lt := fun (a b : D × PyData) => if gt then PySem.W.dataLt b.2 a.2 else PySem.W.dataLt a.2 b.2) (lt' := fun (a b : D × PyData) => if gt then PySem.W.dataLt b.2 a.2 else PySem.W.dataLt a.2 b.2) (fun a b => rfl) r x
      rw [q]
      split <;> rfl
theorem sort_sh (n : Nat) (ds : List D) (ps : List PyData) : (sortP (fun a b => PySem.W.dataLe false (fun p : D × PyData => p.2) a b) ((shDs n ds).zip ps)).map (·.1) = shDs n ((sortP (fun a b => PySem.W.dataLe false (fun p : D × PyData => p.2) a b) (ds.zip ps)).map (·.1)) := by
  rw [sortP_eq, sortP_eq, zip_sh, ← List.map_mergeSort (r := fun a b => PySem.W.dataLe false (fun p : D × PyData => p.2) a b) (f := fun p : D × PyData => (shD n p.1, p.2)) (fun a _ b _ => rfl), shDs_map, List.map_map, List.map_map]
  rfl
theorem srt_sh (S : Store) (ds : List D) : srt (shS P S) (shDs P.length ds) = (srt S ds).map (shDs P.length) := by
  unfold srt
  rw [pds_sh]
  cases pds S ds with
  | none => rfl
  | some ps =>
    dsimp only [Option.bind_some]
    rw [sort_sh]
    split <;> rfl
theorem tyOf_sh (n : Nat) (d : D) : tyOf (shD n d) = tyOf d := by cases d <;> rfl
theorem isTy_sh (n : Nat) (d : D) (t : String) : isTy (shD n d) t = isTy d t := by unfold isTy; rw [tyOf_sh]
theorem one_sh {f g : D → Option D} {n : Nat} (h : ∀ x, g (shD n x) = (f x).map (shD n)) : ∀ ds, one g (shDs n ds) = (one f ds).map (shD n)
  | [] => rfl
  | [x] => h x
  | _ :: _ :: _ => rfl
theorem two_sh {f g : D → D → Option D} {n : Nat} (h : ∀ x y, g (shD n x) (shD n y) = (f x y).map (shD n)) : ∀ ds, two g (shDs n ds) = (two f ds).map (shD n)
  | [] => rfl
  | [x] => rfl
  | [x, y] => h x y
  | _ :: _ :: _ :: _ => rfl
theorem lenD_sh (S : Store) (x : D) : lenD (shS P S) (shD P.length x) = (lenD S x).map (shD P.length) := by
  have g : ∀ y : D, ((asQ (shS P S) (shD P.length y)).map fun ds => D.int ds.length) = ((asQ S y).map fun ds => D.int ds.length).map (shD P.length) := fun y => by
    rw [asQ_sh, Option.map_map, Option.map_map]
    refine congrArg (fun f => Option.map f (asQ S y)) (funext fun ds => ?_)
    show D.int ((shDs P.length ds).length) = D.int ds.length
    rw [shDs_len]
  cases x with
  | str s => exact map_ite (f := shD P.length) (a := .int s.length) (p := s.length ≤ LINE)
  | non  => exact g .non
  | bl b => exact g (.bl b)
  | int b => exact g (.int b)
  | tup b => exact g (.tup b)
  | vl b => exact g (.vl b)
  | ro b => exact g (.ro b)
  | vd b c => exact g (.vd b c)
  | ref b => exact g (.ref b)
  | fn b => exact g (.fn b)
  | ty b => exact g (.ty b)
theorem reprD_sh (S : Store) (x : D) : reprD (shS P S) (shD P.length x) = (reprD S x).map (shD P.length) := by
  unfold reprD
  rw [pd_sh]
  cases pd S x with
  | none => rfl
  | some p => exact map_ite (f := shD P.length) (a := .str p.shown) (p := p.showable = true ∧ p.depth ≤ 60 ∧ p.shown.length + 64 ≤ LINE)
theorem isTyM (n : Nat) (x : D) (t : String) : (isTy (shD n x) t).map D.bl = ((isTy x t).map D.bl).map (shD n) := by
  rw [isTy_sh]; exact blm _ n
theorem isinst_sh (S : Store) (x y : D) : isinstD (shS P S) (shD P.length x) (shD P.length y) = (isinstD S x y).map (shD P.length) := by
  cases y <;> first | (cases x <;> rfl) | skip
  rename_i t
  by_cases hs : ∃ m, x = .ref m
  case neg => cases x with
    | ref b => exact absurd ⟨_, rfl⟩ hs
    | non  => exact isTyM P.length .non t
    | bl b => exact isTyM P.length (.bl b) t
    | int b => exact isTyM P.length (.int b) t
    | str b => exact isTyM P.length (.str b) t
    | tup b => exact isTyM P.length (.tup b) t
    | vl b => exact isTyM P.length (.vl b) t
    | ro b => exact isTyM P.length (.ro b) t
    | vd b c => exact isTyM P.length (.vd b c) t
    | fn b => exact isTyM P.length (.fn b) t
    | ty b => exact isTyM P.length (.ty b) t
  obtain ⟨m, rfl⟩ := hs
  show (match (shS P S)[P.length + m]? with | some (.lst _) => (isTy (.vl []) t).map D.bl | none => none) = (match S[m]? with | some (.lst _) => (isTy (.vl []) t).map D.bl | none => none).map _
  rw [shS_get]
  cases S[m]? with
  | none => rfl
  | some o => cases o; exact blm _ _
theorem bestQ_sh (S : Store) (gt : Bool) (x : D) : ((asQ (shS P S) (shD P.length x)).bind (best (shS P S) gt)) = ((asQ S x).bind (best S gt)).map (shD P.length) := by
  rw [asQ_sh]
  cases asQ S x with
  | none => rfl
  | some ds => exact best_sh S gt ds
theorem bcall_sh (S : Store) (f : BF) (ds : List D) : bcall (shS P S) f (shDs P.length ds) = (bcall S f ds).map (shD P.length) := by
  cases f with
  | len => exact one_sh (lenD_sh S) ds
  | abs => exact one_sh (fun x => by cases x <;> rfl) ds
  | max => match ds with
    | [] => rfl
    | [x] => exact bestQ_sh S true x
    | x :: y :: r => exact two_sh (f := max2) (g := max2) (fun x y => by cases x <;> cases y <;> rfl) (x :: y :: r)
  | min => match ds with
    | [] => rfl
    | [x] => exact bestQ_sh S false x
    | x :: y :: r => exact two_sh (f := min2) (g := min2) (fun x y => by cases x <;> cases y <;> rfl) (x :: y :: r)
  | sum => exact one_sh (fun x => by
      rw [asL_sh]
      cases asL S x with
      | none => rfl
      | some ds =>
        show (intsOf (shDs P.length ds)).map _ = ((intsOf ds).map _).map _
        rw [intsOf_sh]
        cases intsOf ds <;> rfl) ds
  | all => exact one_sh (fun x => by
      rw [asL_sh]
      cases asL S x with
      | none => rfl
      | some ds =>
        show (boolsOf (shDs P.length ds)).map _ = ((boolsOf ds).map _).map _
        rw [boolsOf_sh]
        cases boolsOf ds <;> rfl) ds
  | any => exact one_sh (fun x => by
      rw [asL_sh]
      cases asL S x with
      | none => rfl
      | some ds =>
        show (boolsOf (shDs P.length ds)).map _ = ((boolsOf ds).map _).map _
        rw [boolsOf_sh]
        cases boolsOf ds <;> rfl) ds
  | sorted => exact one_sh (fun x => by
      rw [asQ_sh]
      cases asQ S x with
      | none => rfl
      | some ds =>
        show (srt (shS P S) (shDs P.length ds)).map D.vl = ((srt S ds).map D.vl).map _
        rw [srt_sh]
        cases srt S ds <;> rfl) ds
  | tuple => exact one_sh (fun x => by rw [asQ_sh]; cases asQ S x <;> rfl) ds
  | list => exact one_sh (fun x => by rw [asQ_sh]; cases asQ S x <;> rfl) ds
  | int => exact one_sh (fun x => by cases x <;> rfl) ds
  | str => exact one_sh (fun x => by
      cases x with
      | int i => exact map_ite (f := shD P.length) (a := .str (toString i)) (p := i.natAbs.log2 < 1920)
      | _ => rfl) ds
  | repr => exact one_sh (reprD_sh S) ds
  | isinst => exact two_sh (isinst_sh S) ds
end
end RA

set_option linter.all false
set_option maxRecDepth 100000
set_option maxHeartbeats 4000000
set_option autoImplicit false
/-! SH5: .. bodies. -/
namespace RA
open PySem (Str PyData)
mutual
def fixD : D → Bool
  | .non => true
  | .bl _ => true
  | .int _ => true
  | .str _ => true
  | .tup ds => fixDs ds
  | .vl ds => fixDs ds
  | .ro ds => fixDs ds
  | .vd a b => fixDs a && fixDs b
  | .ref _ => false
  | .fn _ => true
  | .ty _ => true
def fixDs : List D → Bool
  | [] => true
  | d :: ds => fixD d && fixDs ds
end
mutual
theorem fixD_sh (n : Nat) : ∀ {d}, fixD d = true → shD n d = d
  | .non, _ => rfl
  | .bl _, _ => rfl
  | .int _, _ => rfl
  | .str _, _ => rfl
  | .tup ds, h => congrArg D.tup (fixDs_sh n (d := ds) h)
  | .vl ds, h => congrArg D.vl (fixDs_sh n (d := ds) h)
  | .ro ds, h => congrArg D.ro (fixDs_sh n (d := ds) h)
  | .vd a b, h => by
    replace h : (fixDs a && fixDs b) = true := h
    rw [Bool.and_eq_true] at h
    show D.vd (shDs n a) (shDs n b) = _
    rw [fixDs_sh n h.1, fixDs_sh n h.2]
  | .fn _, _ => rfl
  | .ty _, _ => rfl
theorem fixDs_sh (n : Nat) : ∀ {d}, fixDs d = true → shDs n d = d
  | [], _ => rfl
  | d :: ds, h => by
    replace h : (fixD d && fixDs ds) = true := h
    rw [Bool.and_eq_true] at h
    show shD n d :: shDs n ds = _
    rw [fixD_sh n h.1, fixDs_sh n h.2]
end
mutual
theorem beq_sh (n : Nat) : ∀ a b : D, D.beq (shD n a) (shD n b) = D.beq a b
  | .tup a, .tup b => beqs_sh n a b
  | .vl a, .vl b => beqs_sh n a b
  | .ro a, .ro b => beqs_sh n a b
  | .vd a b, .vd c d => by
    show (D.beqs (shDs n a) (shDs n c) && D.beqs (shDs n b) (shDs n d)) = (D.beqs a c && D.beqs b d)
    rw [beqs_sh n a c, beqs_sh n b d]
  | .ref a, .ref b => by
    show (n + a == n + b) = (a == b)
    by_cases h : a = b
    · subst h; simp
    · have : ¬ n + a = n + b := by omega
      rw [beq_eq_false_iff_ne.mpr h, beq_eq_false_iff_ne.mpr this]
  | .non, b => by cases b <;> rfl
  | .bl _, b => by cases b <;> rfl
  | .int _, b => by cases b <;> rfl
  | .str _, b => by cases b <;> rfl
  | .fn _, b => by cases b <;> rfl
  | .ty _, b => by cases b <;> rfl
  | .tup a, .non => rfl
  | .tup a, .bl _ => rfl
  | .tup a, .int _ => rfl
  | .tup a, .str _ => rfl
  | .tup a, .vl _ => rfl
  | .tup a, .ro _ => rfl
  | .tup a, .vd _ _ => rfl
  | .tup a, .ref _ => rfl
  | .tup a, .fn _ => rfl
  | .tup a, .ty _ => rfl
  | .vl a, .non => rfl
  | .vl a, .bl _ => rfl
  | .vl a, .int _ => rfl
  | .vl a, .str _ => rfl
  | .vl a, .tup _ => rfl
  | .vl a, .ro _ => rfl
  | .vl a, .vd _ _ => rfl
  | .vl a, .ref _ => rfl
  | .vl a, .fn _ => rfl
  | .vl a, .ty _ => rfl
  | .ro a, .non => rfl
  | .ro a, .bl _ => rfl
  | .ro a, .int _ => rfl
  | .ro a, .str _ => rfl
  | .ro a, .vl _ => rfl
  | .ro a, .tup _ => rfl
  | .ro a, .vd _ _ => rfl
  | .ro a, .ref _ => rfl
  | .ro a, .fn _ => rfl
  | .ro a, .ty _ => rfl
  | .vd a _, .non => rfl
  | .vd a _, .bl _ => rfl
  | .vd a _, .int _ => rfl
  | .vd a _, .str _ => rfl
  | .vd a _, .vl _ => rfl
  | .vd a _, .ro _ => rfl
  | .vd a _, .tup _ => rfl
  | .vd a _, .ref _ => rfl
  | .vd a _, .fn _ => rfl
  | .vd a _, .ty _ => rfl
  | .ref a, .non => rfl
  | .ref a, .bl _ => rfl
  | .ref a, .int _ => rfl
  | .ref a, .str _ => rfl
  | .ref a, .vl _ => rfl
  | .ref a, .ro _ => rfl
  | .ref a, .vd _ _ => rfl
  | .ref a, .tup _ => rfl
  | .ref a, .fn _ => rfl
  | .ref a, .ty _ => rfl
theorem beqs_sh (n : Nat) : ∀ a b : List D, D.beqs (shDs n a) (shDs n b) = D.beqs a b
  | [], [] => rfl
  | [], _ :: _ => rfl
  | _ :: _, [] => rfl
  | a :: r, b :: s => by
    show (D.beq (shD n a) (shD n b) && D.beqs (shDs n r) (shDs n s)) = (D.beq a b && D.beqs r s)
    rw [beq_sh n a b, beqs_sh n r s]
end
section
variable {P : Store}
def shIt (n : Nat) (it : List D × Option Nat) : List D × Option Nat := (shDs n it.1, it.2.map (n + ·))
theorem still_sh (S : Store) (it : List D × Option Nat) : still (shS P S) (shIt P.length it) = still S it := by
  obtain ⟨ds, o⟩ := it
  cases o with
  | none => rfl
  | some m =>
    show (match (shS P S)[P.length + m]? with | some (.lst es) => D.beqs (shDs P.length ds) es | none => false) = (match S[m]? with | some (.lst es) => D.beqs ds es | none => false)
    rw [shS_get]
    cases S[m]? with
    | none => rfl
    | some o => cases o; exact beqs_sh _ _ _
theorem setAll_sh (n : Nat) : ∀ (is : List Nat) (ds : List D) (σ : Sig), setAll (shG n σ) is (shDs n ds) = (setAll σ is ds).map (shG n)
  | [], [], σ => rfl
  | [], _ :: _, σ => rfl
  | _ :: _, [], σ => rfl
  | i :: is, d :: ds, σ => by
    show setAll ((shG n σ).set i (some (shD n d))) is (shDs n ds) = (setAll (σ.set i (some d)) is ds).map _
    rw [← setAll_sh n is ds (σ.set i (some d))]
    refine congrArg (fun z => setAll z is (shDs n ds)) ?_
    unfold shG
    rw [List.map_set]; rfl
theorem shG_set (n : Nat) (σ : Sig) (i : Nat) (d : D) : (shG n σ).set i (some (shD n d)) = shG n (σ.set i (some d)) := by
  unfold shG
  rw [List.map_set]; rfl
theorem target_sh (n : Nat) (σ : Sig) (tup : Bool) (is : List Nat) (d : D) : target (shG n σ) tup is (shD n d) = (target σ tup is d).map (shG n) := by
  cases tup with
  | true => cases d <;> first | rfl | exact setAll_sh n is _ σ
  | false =>
    match is with
    | [] => rfl
    | [i] => exact congrArg some (shG_set n σ i d)
    | _ :: _ :: _ => rfl
theorem wipe_sh (n : Nat) (σ : Sig) : ∀ is : List Nat, RA.wipe (shG n σ) is = shG n (RA.wipe σ is)
  | [] => rfl
  | i :: is => by
    show (RA.wipe (shG n σ) is).set i none = shG n ((RA.wipe σ is).set i none)
    rw [wipe_sh n σ is]
    unfold shG
    rw [List.map_set]; rfl
theorem ints_fix (n : Nat) (l : List Int) : shDs n (l.map D.int) = l.map D.int := by
  rw [shDs_map, List.map_map]; rfl
theorem sortSet_sh (S : Store) (x : D) : ((sortSet (shS P S) (shD P.length x)).map D.vl) = ((sortSet S x).map D.vl).map (shD P.length) := by
  unfold sortSet
  rw [asL_sh]
  cases asL S x with
  | none => rfl
  | some ds =>
    rw [Option.map_some, Option.bind_some, Option.bind_some, intsOf_sh]
    cases intsOf ds with
    | none => rfl
    | some l =>
      rw [Option.bind_some]
      split
      · show some (D.vl ((rising l).map D.int)) = some (D.vl (shDs P.length ((rising l).map D.int)))
        rw [ints_fix]
      · rfl
theorem sortBy_sh (n : Nat) (ds ks : List D) : sortBy (shDs n ds) (shDs n ks) = (sortBy ds ks).map (shDs n) := by
  unfold sortBy
  rw [toPs_sh (r := fun _ => none) (r' := fun _ => none) (fun _ => rfl) ks]
  cases toPs (fun _ => none) ks with
  | none => rfl
  | some ps =>
    rw [Option.bind_some, Option.bind_some, sort_sh]
    split <;> rfl
theorem seqD_sh (n : Nat) (d : D) : seqD (shD n d) = (seqD d).map (shDs n) := by cases d <;> rfl
theorem rng_fix (n : Nat) (a : Int) (l : List Nat) : shDs n (l.map fun k => D.int (a + (k : Nat))) = l.map fun k => D.int (a + (k : Nat)) := by
  rw [shDs_map, List.map_map]; rfl
theorem chars_fix (n : Nat) (s : Str) : shDs n (chars s) = chars s := by
  unfold chars
  rw [shDs_map, List.map_map]; rfl
theorem enum_sh (n : Nat) (ds : List D) : ((shDs n ds).zipIdx.map fun p => D.tup [.int (p.2 : Nat), p.1]) = shDs n (ds.zipIdx.map fun p => D.tup [.int (p.2 : Nat), p.1]) := by
  rw [shDs_map, shDs_map, List.zipIdx_map, List.map_map, List.map_map]; rfl
theorem zipD_sh (n : Nat) (a b : List D) : (((shDs n a).zip (shDs n b)).map fun p => D.tup [p.1, p.2]) = shDs n ((a.zip b).map fun p => D.tup [p.1, p.2]) := by
  rw [shDs_map, shDs_map, shDs_map, List.zip_map, List.map_map, List.map_map]; rfl
theorem src_ref (S : Store) (m : Nat) : srcOf (shS P S) .val [.ref (P.length + m)] = (srcOf S .val [.ref m]).map (shIt P.length) := by
  show (match (shS P S)[P.length + m]? with | some (.lst ds) => some (ds, some (P.length + m)) | none => none) = (match S[m]? with | some (.lst ds) => some (ds, some m) | none => none).map _
  rw [shS_get]
  cases S[m]? with
  | none => rfl
  | some o => cases o; rfl
theorem src_sh (S : Store) : ∀ (sk : SK) (ds : List D), srcOf (shS P S) sk (shDs P.length ds) = (srcOf S sk ds).map (shIt P.length)
  | .val, [] => rfl
  | .val, [d] => by
    cases d with
    | ref m => exact src_ref S m
    | vl es => rfl
    | ro es => rfl
    | tup es => rfl
    | str s => exact congrArg (fun z => some (z, Option.none)) (chars_fix P.length s).symm
    | non => rfl
    | bl _ => rfl
    | int _ => rfl
    | vd _ _ => rfl
    | fn _ => rfl
    | ty _ => rfl
  | .val, d :: _ :: _ => by cases d <;> rfl
  | .rng1, [] => rfl
  | .rng1, [d] => by
    cases d with
    | int j =>
      by_cases h : -(2 ^ 62) ≤ j ∧ j < 2 ^ 62
      · exact (rng1I h).trans ((congrArg (fun z => some (z, Option.none)) (rng_fix P.length 0 _).symm).trans (congrArg (Option.map (shIt P.length)) (rng1I (S := S) h).symm))
      · exact (if_neg h).trans (congrArg (Option.map (shIt P.length)) (if_neg h : srcOf S .rng1 [.int j] = none).symm)
    | _ => rfl
  | .rng1, d :: _ :: _ => by cases d <;> rfl
  | .rng2, [] => rfl
  | .rng2, [d] => by cases d <;> rfl
  | .rng2, [a, b] => by
    cases a with
    | int i =>
      cases b with
      | int j =>
        by_cases h : -(2 ^ 62) ≤ i ∧ i < 2 ^ 62 ∧ -(2 ^ 62) ≤ j ∧ j < 2 ^ 62
        · exact (rng2I h).trans ((congrArg (fun z => some (z, Option.none)) (rng_fix P.length i _).symm).trans (congrArg (Option.map (shIt P.length)) (rng2I (S := S) h).symm))
        · exact (if_neg h).trans (congrArg (Option.map (shIt P.length)) (if_neg h : srcOf S .rng2 [.int i, .int j] = none).symm)
      | _ => rfl
    | _ => cases b <;> rfl
  | .rng2, a :: b :: _ :: _ => by cases a <;> cases b <;> rfl
  | .enum, [] => rfl
  | .enum, [x] => by
    show (seqD (shD P.length x)).map _ = ((seqD x).map _).map _
    rw [seqD_sh]
    cases seqD x with
    | none => rfl
    | some ds => exact congrArg (fun z => some (z, Option.none)) (enum_sh P.length ds)
  | .enum, _ :: _ :: _ => rfl
  | .zip, [] => rfl
  | .zip, [_] => rfl
  | .zip, [x, y] => by
    show ((seqD (shD P.length x)).bind fun a => (seqD (shD P.length y)).map fun b => ((a.zip b).map fun p => D.tup [p.1, p.2], none)) = ((seqD x).bind fun a => (seqD y).map fun b => ((a.zip b).map fun p => D.tup [p.1, p.2], none)).map _
    rw [seqD_sh, seqD_sh]
    cases seqD x with
    | none => rfl
    | some a =>
      cases seqD y with
      | none => rfl
      | some b => exact congrArg (fun z => some (z, Option.none)) (zipD_sh P.length a b)
  | .zip, _ :: _ :: _ :: _ => rfl
end
end RA

set_option linter.all false
set_option maxRecDepth 100000
set_option maxHeartbeats 4000000
set_option autoImplicit false
/-! SH6: .. calls. -/
namespace RA
open PySem (Str PyData)
mutual
def okE : E → Bool
  | .var _ => true
  | .con d => fixD d
  | .bin _ a b => okE a && okE b
  | .neg a => okE a
  | .not a => okE a
  | .and a b => okE a && okE b
  | .or a b => okE a && okE b
  | .cmp _ a b => okE a && okE b
  | .chain _ _ a b c => okE a && (okE b && okE c)
  | .ife c a b => okE c && (okE a && okE b)
  | .tup es => okEs es
  | .lst es => okEs es
  | .new e => okE e
  | .sub a i => okE a && okE i
  | .slice a lo hi => okE a && (okE lo && okE hi)
  | .rev a => okE a
  | .call _ es => okEs es
  | .callv f es => okE f && okEs es
  | .bcall _ es => okEs es
  | .append o e => okE o && okE e
  | .pop o i => okE o && okE i
  | .comp _ _ _ _ es ifs elt => okEs es && (okE ifs && okE elt)
  | .thunk => true
  | .lam _ b => okE b
  | .exf _ _ => true
  | .ofInt a => okE a
  | .sortk _ e => okE e
  | .sortset e => okE e
def okEs : List E → Bool
  | [] => true
  | e :: es => okE e && okEs es
end
section
variable {P : Store}
structure OSim (P : Store) (C C' : Ora) : Prop where
  fn : ∀ i ds S, Sim P (shD P.length) (C.fn i ds S) (C'.fn i (shDs P.length ds) (shS P S))
  lam : ∀ g th th', (∀ S, Sim P (shD P.length) (th S) (th' (shS P S))) → ∀ S, Sim P (shD P.length) (C.lam g th S) (C'.lam g th' (shS P S))
  th : ∀ S, Sim P (shD P.length) (C.th S) (C'.th (shS P S))
  ex : C'.ex = C.ex.map (shX P.length)
  turns : C'.turns = C.turns
theorem Sim.same {α β : Type} {f : α → β} {a : α} {b : β} {S : Store} {S' : Store} (h : b = f a) (h2 : S' = shS P S) : Sim P f (.ok a S) (.ok b S') := by
  subst h h2; exact .inr rfl
theorem Sim.if_ {α β : Type} {f : α → β} {r1 r2 : Res α} {s1 s2 : Res β} {k : Bool} (h1 : Sim P f r1 s1) (h2 : Sim P f r2 s2) : Sim P f (if k = true then r1 else r2) (if k = true then s1 else s2) := by
  cases k
  · exact h2
  · exact h1
theorem compL_sim {step step' : D → Store → Res (Option D)} {g g' : Store → Bool} (hs : ∀ d S, Sim P (Option.map (shD P.length)) (step d S) (step' (shD P.length d) (shS P S))) (hg : ∀ S, g' (shS P S) = g S) :
    ∀ (it : List D) (S : Store) (acc : List D), Sim P (shDs P.length) (compL step g it S acc) (compL step' g' (shDs P.length it) (shS P S) (shDs P.length acc))
  | [], S, acc => by
    show Sim P _ (if g S then Res.ok acc S else .bad) (if g' (shS P S) then Res.ok (shDs P.length acc) (shS P S) else .bad)
    rw [hg]
    exact Sim.if_ .ok .bad
  | d :: r, S, acc => by
    show Sim P _ (if g S then (step d S).bind fun o S1 => match o with
      | some y => if acc.length < LINE then compL step g r S1 (acc ++ [y]) else .bad
      | none => compL step g r S1 acc
    else .bad) (if g' (shS P S) then (step' (shD P.length d) (shS P S)).bind fun o S1 => match o with
      | some y => if (shDs P.length acc).length < LINE then compL step' g' (shDs P.length r) S1 (shDs P.length acc ++ [y]) else .bad
      | none => compL step' g' (shDs P.length r) S1 (shDs P.length acc)
    else .bad)
    rw [hg]
    refine Sim.if_ (Sim.bind (hs d S) fun o S1 => ?_) .bad
    cases o with
    | none => exact compL_sim hs hg r S1 acc
    | some y =>
      show Sim P _ (if acc.length < LINE then compL step g r S1 (acc ++ [y]) else .bad) (if (shDs P.length acc).length < LINE then compL step' g' (shDs P.length r) (shS P S1) (shDs P.length acc ++ [shD P.length y]) else .bad)
      rw [shDs_len]
      by_cases h : acc.length < LINE
      · rw [if_pos h, if_pos h]
        have := compL_sim hs hg r S1 (acc ++ [y])
        rw [shDs_app] at this
        exact this
      · rw [if_neg h]; exact .bad
theorem keysL_sim {fn fn' : D → Store → Res D} (hs : ∀ d S, Sim P (shD P.length) (fn d S) (fn' (shD P.length d) (shS P S))) : ∀ (it : List D) (S : Store), Sim P (shDs P.length) (keysL fn it S) (keysL fn' (shDs P.length it) (shS P S))
  | [], S => .ok
  | d :: r, S => Sim.bind (hs d S).noexc fun k S1 => Sim.bind (keysL_sim hs r S1) fun ks S2 => .ok
theorem eraseIdx_mp {α β : Type} (f : α → β) : ∀ (l : List α) (j : Nat), (l.map f).eraseIdx j = (l.eraseIdx j).map f
  | [], _ => rfl
  | _ :: _, 0 => rfl
  | a :: l, j + 1 => congrArg (f a :: ·) (eraseIdx_mp f l j)
theorem and2 {a b : Bool} (h : (a && b) = true) : a = true ∧ b = true := by rwa [Bool.and_eq_true] at h
theorem lookup_sh (n : Nat) (f : Str) : ∀ fs : List (Str × D), (fs.map fun p => (p.1, shD n p.2)).lookup f = (fs.lookup f).map (shD n)
  | [] => rfl
  | (a, d) :: r => by
    rw [List.map_cons, List.lookup_cons, List.lookup_cons]
    cases f == a with
    | true => rfl
    | false => exact lookup_sh n f r
mutual
theorem ev_sim {C C' : Ora} (O : OSim P C C') : ∀ (e : E), okE e = true → ∀ (σ : Sig) (S : Store), Sim P (shD P.length) (evalE C e σ S) (evalE C' e (shG P.length σ) (shS P S))
  | .var i, _, σ, S => by
    show Sim P _ (match σ[i]? with | some (some d) => Res.ok d S | _ => .bad) (match (shG P.length σ)[i]? with | some (some d) => Res.ok d (shS P S) | _ => .bad)
    unfold shG
    rw [List.getElem?_map]
    cases σ[i]? with
    | none => exact .bad
    | some o => cases o with
      | none => exact .bad
      | some d => exact .ok
  | .con d, h, σ, S => Sim.same (fixD_sh _ (d := d) h).symm rfl
  | .bin o a b, h, σ, S => Sim.bind (ev_sim O a (and2 h).1 σ S) fun x S1 => Sim.bind (ev_sim O b (and2 h).2 σ S1) fun y S2 => Sim.lift (binop_sh S2 o x y)
  | .neg a, h, σ, S => Sim.bind (ev_sim O a h σ S) fun x S1 => by cases x <;> first | exact .bad | exact .ok
  | .not a, h, σ, S => Sim.bind (ev_sim O a h σ S) fun x S1 => by
    refine Sim.lift ?_
    rw [truth_sh]
    exact blN _ _
  | .and a b, h, σ, S => Sim.bind (ev_sim O a (and2 h).1 σ S) fun x S1 => Sim.bind (Sim.lift (f := id) (by rw [truth_sh, Option.map_id]; rfl)) fun k S2 => Sim.if_ (ev_sim O b (and2 h).2 σ S2) .ok
  | .or a b, h, σ, S => Sim.bind (ev_sim O a (and2 h).1 σ S) fun x S1 => Sim.bind (Sim.lift (f := id) (by rw [truth_sh, Option.map_id]; rfl)) fun k S2 => Sim.if_ .ok (ev_sim O b (and2 h).2 σ S2)
  | .cmp o a b, h, σ, S => Sim.bind (ev_sim O a (and2 h).1 σ S) fun x S1 => Sim.bind (ev_sim O b (and2 h).2 σ S1) fun y S2 => Sim.lift (cmpop_sh S2 o x y)
  | .chain o1 o2 a b c, h, σ, S => Sim.bind (ev_sim O a (and2 h).1 σ S) fun x S1 => Sim.bind (ev_sim O b (and2 (and2 h).2).1 σ S1) fun y S2 => Sim.bind (Sim.lift (cmpop_sh S2 o1 x y)) fun k S3 => by
    cases k <;> first | exact .bad | skip
    rename_i k
    cases k with
    | true => exact Sim.bind (ev_sim O c (and2 (and2 h).2).2 σ S3) fun z S4 => Sim.lift (cmpop_sh S4 o2 y z)
    | false => exact .ok
  | .ife c a b, h, σ, S => Sim.bind (ev_sim O c (and2 h).1 σ S) fun x S1 => Sim.bind (Sim.lift (f := id) (by rw [truth_sh, Option.map_id]; rfl)) fun k S2 => Sim.if_ (ev_sim O a (and2 (and2 h).2).1 σ S2) (ev_sim O b (and2 (and2 h).2).2 σ S2)
  | .tup es, h, σ, S => Sim.bind (evs_sim O es h σ S) fun ds S1 => .ok
  | .lst es, h, σ, S => Sim.bind (evs_sim O es h σ S) fun ds S1 => .ok
  | .new e, h, σ, S => Sim.bind (ev_sim O e h σ S) fun x S1 => by
    cases x <;> first | exact .bad | skip
    rename_i ds
    refine Sim.same ?_ ?_
    · rw [shS_len]; rfl
    · exact shS_app S1 (.lst ds)
  | .sub a i, h, σ, S => Sim.bind (ev_sim O a (and2 h).1 σ S) fun x S1 => Sim.bind (ev_sim O i (and2 h).2 σ S1) fun y S2 => Sim.lift (sub_sh S2 x y)
  | .slice a lo hi, h, σ, S => Sim.bind (ev_sim O a (and2 h).1 σ S) fun x S1 => Sim.bind (ev_sim O lo (and2 (and2 h).2).1 σ S1) fun y S2 => Sim.bind (ev_sim O hi (and2 (and2 h).2).2 σ S2) fun z S3 => Sim.lift (slice_sh S3 x y z)
  | .rev a, h, σ, S => Sim.bind (ev_sim O a h σ S) fun x S1 => Sim.lift (rev_sh S1 x)
  | .call f es, h, σ, S => Sim.bind (evs_sim O es h σ S) fun ds S1 => O.fn f ds S1
  | .callv f es, h, σ, S => Sim.bind (ev_sim O f (and2 h).1 σ S) fun x S1 => by
    cases x <;> first | exact .bad | skip
    exact Sim.bind (evs_sim O es (and2 h).2 σ S1) fun ds S2 => O.fn _ ds S2
  | .bcall f es, h, σ, S => Sim.bind (evs_sim O es h σ S) fun ds S1 => Sim.lift (bcall_sh S1 f ds)
  | .append o e, h, σ, S => Sim.bind (ev_sim O o (and2 h).1 σ S) fun x S1 => by
    cases x <;> first | exact .bad | skip
    rename_i m
    refine Sim.bind (ev_sim O e (and2 h).2 σ S1) fun y S2 => ?_
    show Sim P _ (match S2[m]? with | some (.lst ds) => if ds.length < LINE then Res.ok D.non (S2.set m (.lst (ds ++ [y]))) else .bad | none => .bad)
      (match (shS P S2)[P.length + m]? with | some (.lst ds) => if ds.length < LINE then Res.ok D.non ((shS P S2).set (P.length + m) (.lst (ds ++ [shD P.length y]))) else .bad | none => .bad)
    rw [shS_get]
    cases S2[m]? with
    | none => exact .bad
    | some o =>
      cases o with
      | lst ds =>
        show Sim P _ (if ds.length < LINE then Res.ok D.non (S2.set m (.lst (ds ++ [y]))) else .bad) (if (shDs P.length ds).length < LINE then Res.ok D.non ((shS P S2).set (P.length + m) (.lst (shDs P.length ds ++ [shD P.length y]))) else .bad)
        rw [shDs_len]
        by_cases hl : ds.length < LINE
        · rw [if_pos hl, if_pos hl]
          refine Sim.same rfl ?_
          rw [← shS_set]
          show _ = (shS P S2).set (P.length + m) (.lst (shDs P.length (ds ++ [y])))
          rw [shDs_app]; rfl
        · rw [if_neg hl]; exact .bad
  | .pop o i, h, σ, S => Sim.bind (ev_sim O o (and2 h).1 σ S) fun x S1 => by
    cases x <;> first | exact .bad | skip
    rename_i m
    refine Sim.bind (ev_sim O i (and2 h).2 σ S1) fun y S2 => ?_
    cases y <;> first | exact .bad | skip
    rename_i k
    show Sim P _ (if -(2 ^ 62) ≤ k ∧ k < 2 ^ 62 then (match S2[m]? with
        | some (.lst ds) => match natIx ds.length k with
          | some j => match ds[j]? with
            | some d => Res.ok d (S2.set m (.lst (ds.eraseIdx j)))
            | none => .bad
          | none => .bad
        | none => .bad) else .bad)
      (if -(2 ^ 62) ≤ k ∧ k < 2 ^ 62 then (match (shS P S2)[P.length + m]? with
        | some (.lst ds) => match natIx ds.length k with
          | some j => match ds[j]? with
            | some d => Res.ok d ((shS P S2).set (P.length + m) (.lst (ds.eraseIdx j)))
            | none => .bad
          | none => .bad
        | none => .bad) else .bad)
    by_cases hk : -(2 ^ 62) ≤ k ∧ k < 2 ^ 62
    case neg => rw [if_neg hk]; exact .bad
    rw [if_pos hk, if_pos hk, shS_get]
    cases S2[m]? with
    | none => exact .bad
    | some o =>
      cases o with
      | lst ds =>
        show Sim P _ (match natIx ds.length k with
          | some j => match ds[j]? with
            | some d => Res.ok d (S2.set m (.lst (ds.eraseIdx j)))
            | none => .bad
          | none => .bad) (match natIx (shDs P.length ds).length k with
          | some j => match (shDs P.length ds)[j]? with
            | some d => Res.ok d ((shS P S2).set (P.length + m) (.lst ((shDs P.length ds).eraseIdx j)))
            | none => .bad
          | none => .bad)
        rw [shDs_len]
        cases natIx ds.length k with
        | none => exact .bad
        | some j =>
          dsimp only
          rw [shDs_get]
          cases ds[j]? with
          | none => exact .bad
          | some d =>
            refine Sim.same rfl ?_
            rw [← shS_set]
            show _ = (shS P S2).set (P.length + m) (.lst (shDs P.length (ds.eraseIdx j)))
            rw [shDs_map, shDs_map, eraseIdx_mp]
  | .comp own tup tgt sk es ifs elt, h, σ, S => Sim.bind (evs_sim O es (and2 h).1 σ S) fun ds S1 => by
    rw [src_sh]
    cases srcOf S1 sk ds with
    | none => exact .bad
    | some it =>
      refine Sim.bind (compL_sim (step := fun d S => match target (RA.wipe σ own) tup tgt d with
        | none => .bad
        | some σ2 => ((evalE C ifs σ2 S).noexc).bind fun b S => (RA.lift S (truth S b)).bind fun k S => if k then ((evalE C elt σ2 S).noexc).bind fun y S => .ok (some y) S else .ok none S) (fun d S2 => ?_) (fun S => still_sh S it) it.1 S1 []) fun l S2 => .ok
      rw [wipe_sh, target_sh]
      cases target (RA.wipe σ own) tup tgt d with
      | none => exact .bad
      | some σ2 => exact Sim.bind (ev_sim O ifs (and2 (and2 h).2).1 σ2 S2).noexc fun b S3 => Sim.bind (Sim.lift (f := id) (by rw [truth_sh, Option.map_id]; rfl)) fun k S4 => Sim.if_ (Sim.bind (ev_sim O elt (and2 (and2 h).2).2 σ2 S4).noexc fun y S5 => .ok) .ok
  | .thunk, _, σ, S => O.th S
  | .lam f body, h, σ, S => O.lam f (fun S => evalE C body σ S) (fun S => evalE C' body (shG P.length σ) S) (fun S => ev_sim O body h σ S) S
  | .exf k n, _, σ, S => by
    show Sim P _ (match C.ex with | some x => if x.k = k then RA.lift S (x.fs.lookup n) else .bad | none => .bad) (match C'.ex with | some x => if x.k = k then RA.lift (shS P S) (x.fs.lookup n) else .bad | none => .bad)
    rw [O.ex]
    cases C.ex with
    | none => exact .bad
    | some x =>
      show Sim P _ (if x.k = k then RA.lift S (x.fs.lookup n) else .bad) (if x.k = k then RA.lift (shS P S) ((x.fs.map fun p => (p.1, shD P.length p.2)).lookup n) else .bad)
      by_cases hk : x.k = k
      · rw [if_pos hk, if_pos hk]; exact Sim.lift (lookup_sh _ n x.fs)
      · rw [if_neg hk]; exact .bad
  | .ofInt a, h, σ, S => Sim.bind (ev_sim O a h σ S) fun x S1 => by cases x <;> first | exact .bad | exact .ok
  | .sortk f e, h, σ, S => Sim.bind (ev_sim O e h σ S) fun x S1 => by
    rw [asLR_sh]
    cases asLR S1 x with
    | none => exact .bad
    | some ds => exact Sim.bind (keysL_sim (fun d S => O.fn f [d] S) ds S1) fun ks S2 => Sim.lift (by rw [sortBy_sh]; cases sortBy ds ks <;> rfl)
  | .sortset e, h, σ, S => Sim.bind (ev_sim O e h σ S) fun x S1 => Sim.lift (sortSet_sh S1 x)
theorem evs_sim {C C' : Ora} (O : OSim P C C') : ∀ (es : List E), okEs es = true → ∀ (σ : Sig) (S : Store), Sim P (shDs P.length) (evalEs C es σ S) (evalEs C' es (shG P.length σ) (shS P S))
  | [], _, σ, S => .ok
  | e :: es, h, σ, S => Sim.bind (ev_sim O e (and2 h).1 σ S) fun d S1 => Sim.bind (evs_sim O es (and2 h).2 σ S1) fun ds S2 => .ok
end
mutual
def okS : RA.St → Bool
  | .asg _ e => okE e
  | .asgT _ e => okE e
  | .par _ es => okEs es
  | .seti o i e => okE o && (okE i && okE e)
  | .exp e => okE e
  | .ret e => okE e
  | .ite c a b => okE c && (okSs a && okSs b)
  | .loop _ _ _ es body => okEs es && okSs body
  | .while c body => okE c && okSs body
  | .raise _ es => okEs es
  | .raisek _ _ e => okE e
  | .tri body hs => okSs body && okHs hs
  | .pass => true
  | .stuck => true
def okSs : List RA.St → Bool
  | [] => true
  | s :: r => okS s && okSs r
def okHs : List Hd → Bool
  | [] => true
  | h :: r => okH h && okHs r
def okH : Hd → Bool
  | .mk _ _ body => okSs body
end
def shOut (n : Nat) : Out → Out
  | .nx σ => .nx (shG n σ)
  | .ret d => .ret (shD n d)
theorem forL_sim {step step' : D → Sig → Store → Res Out} {g g' : Store → Bool} (hs : ∀ d σ S, Sim P (shOut P.length) (step d σ S) (step' (shD P.length d) (shG P.length σ) (shS P S))) (hg : ∀ S, g' (shS P S) = g S) :
    ∀ (it : List D) (σ : Sig) (S : Store), Sim P (shOut P.length) (forL step g it σ S) (forL step' g' (shDs P.length it) (shG P.length σ) (shS P S))
  | [], σ, S => by
    show Sim P _ (if g S then Res.ok (Out.nx σ) S else .bad) (if g' (shS P S) then Res.ok (Out.nx (shG P.length σ)) (shS P S) else .bad)
    rw [hg]
    exact Sim.if_ .ok .bad
  | d :: r, σ, S => by
    show Sim P _ (if g S then (step d σ S).bind fun o S => match o with
        | .nx σ => forL step g r σ S
        | .ret x => .ok (.ret x) S
      else .bad) (if g' (shS P S) then (step' (shD P.length d) (shG P.length σ) (shS P S)).bind fun o S => match o with
        | .nx σ => forL step' g' (shDs P.length r) σ S
        | .ret x => .ok (.ret x) S
      else .bad)
    rw [hg]
    refine Sim.if_ (Sim.bind (hs d σ S) fun o S1 => ?_) .bad
    cases o with
    | nx σ1 => exact forL_sim hs hg r σ1 S1
    | ret x => exact .ok
theorem whileL_sim {step step' : Sig → Store → Res (Option Out)} (hs : ∀ σ S, Sim P (Option.map (shOut P.length)) (step σ S) (step' (shG P.length σ) (shS P S))) :
    ∀ (k : Nat) (σ : Sig) (S : Store), Sim P (shOut P.length) (whileL step k σ S) (whileL step' k (shG P.length σ) (shS P S))
  | 0, σ, S => .bad
  | k + 1, σ, S => by
    refine Sim.bind (hs σ S) fun o S1 => ?_
    cases o with
    | none => exact .ok
    | some o => cases o with
      | nx σ1 => exact whileL_sim hs k σ1 S1
      | ret x => exact .ok
theorem none_sh (n : Nat) (σ : Sig) : ((shG n σ).map fun _ => (none : Option D)) = shG n (σ.map fun _ => none) := by
  unfold shG
  rw [List.map_map, List.map_map]; rfl
theorem zipK_sh (n : Nat) (ks : List Str) (ds : List D) : ks.zip (shDs n ds) = (ks.zip ds).map fun p => (p.1, shD n p.2) := by
  rw [shDs_map, List.zip_map_right]; rfl
mutual
theorem s_sim {T : Cls} {C C' : Ora} (O : OSim P C C') : ∀ (s : RA.St), okS s = true → ∀ (σ : Sig) (S : Store), Sim P (shOut P.length) (RA.execS T C s σ S) (RA.execS T C' s (shG P.length σ) (shS P S))
  | .asg i e, h, σ, S => Sim.bind (ev_sim O e h σ S) fun d S1 => Sim.same (congrArg Out.nx (shG_set _ σ i d)) rfl
  | .asgT is e, h, σ, S => Sim.bind (ev_sim O e h σ S) fun d S1 => Sim.bind (Sim.lift (target_sh _ σ true is d)) fun σ2 S2 => .ok
  | .par is es, h, σ, S => Sim.bind (evs_sim O es h σ S) fun ds S1 => Sim.bind (Sim.lift (setAll_sh _ is ds σ)) fun σ2 S2 => .ok
  | .seti o i e, h, σ, S => Sim.bind (ev_sim O e (and2 (and2 h).2).2 σ S) fun v S1 => Sim.bind (ev_sim O o (and2 h).1 σ S1) fun x S2 => Sim.bind (ev_sim O i (and2 (and2 h).2).1 σ S2) fun y S3 => by
    cases x <;> first | exact .bad | skip
    cases y <;> first | exact .bad | skip
    rename_i m k
    show Sim P _ (match S3[m]? with
      | some (.lst ds) => match natIx ds.length k with
        | some j => Res.ok (Out.nx σ) (S3.set m (.lst (ds.set j v)))
        | none => .bad
      | none => .bad) (match (shS P S3)[P.length + m]? with
      | some (.lst ds) => match natIx ds.length k with
        | some j => Res.ok (Out.nx (shG P.length σ)) ((shS P S3).set (P.length + m) (.lst (ds.set j (shD P.length v))))
        | none => .bad
      | none => .bad)
    rw [shS_get]
    cases S3[m]? with
    | none => exact .bad
    | some o =>
      cases o with
      | lst ds =>
        show Sim P _ (match natIx ds.length k with
          | some j => Res.ok (Out.nx σ) (S3.set m (.lst (ds.set j v)))
          | none => .bad) (match natIx (shDs P.length ds).length k with
          | some j => Res.ok (Out.nx (shG P.length σ)) ((shS P S3).set (P.length + m) (.lst ((shDs P.length ds).set j (shD P.length v))))
          | none => .bad)
        rw [shDs_len]
        cases natIx ds.length k with
        | none => exact .bad
        | some j =>
          refine Sim.same rfl ?_
          rw [← shS_set]
          show _ = (shS P S3).set (P.length + m) (.lst (shDs P.length (ds.set j v)))
          rw [shDs_map, shDs_map, List.map_set]
  | .exp e, h, σ, S => Sim.bind (ev_sim O e h σ S) fun d S1 => .ok
  | .ret e, h, σ, S => Sim.bind (ev_sim O e h σ S) fun d S1 => .ok
  | .ite c a b, h, σ, S => Sim.bind (ev_sim O c (and2 h).1 σ S) fun x S1 => Sim.bind (Sim.lift (f := id) (by rw [truth_sh, Option.map_id]; rfl)) fun k S2 => Sim.if_ (ss_sim O a (and2 (and2 h).2).1 σ S2) (ss_sim O b (and2 (and2 h).2).2 σ S2)
  | .loop tup tgt sk es body, h, σ, S => Sim.bind (evs_sim O es (and2 h).1 σ S) fun ds S1 => by
    rw [src_sh]
    cases srcOf S1 sk ds with
    | none => exact .bad
    | some it =>
      refine forL_sim (step := fun d σ S => match target σ tup tgt d with
        | none => .bad
        | some σ2 => RA.execs T C body σ2 S) (fun d σ S2 => ?_) (fun S => still_sh S it) it.1 σ S1
      rw [target_sh]
      cases target σ tup tgt d with
      | none => exact .bad
      | some σ2 => exact ss_sim O body (and2 h).2 σ2 S2
  | .while c body, h, σ, S => by
    show Sim P _ (whileL (fun σ S => (evalE C c σ S).bind fun x S => (RA.lift S (truth S x)).bind fun k S =>
      if k then (RA.execs T C body σ S).bind fun o S => .ok (some o) S else .ok none S) C.turns σ S) (whileL (fun σ S => (evalE C' c σ S).bind fun x S => (RA.lift S (truth S x)).bind fun k S =>
      if k then (RA.execs T C' body σ S).bind fun o S => .ok (some o) S else .ok none S) C'.turns (shG P.length σ) (shS P S))
    rw [O.turns]
    refine whileL_sim (fun σ S => ?_) C.turns σ S
    exact Sim.bind (ev_sim O c (and2 h).1 σ S) fun x S1 => Sim.bind (Sim.lift (f := id) (by rw [truth_sh, Option.map_id]; rfl)) fun k S2 => Sim.if_ (Sim.bind (ss_sim O body (and2 h).2 σ S2) fun o S3 => .ok) .ok
  | .raise k es, h, σ, S => Sim.bind (evs_sim O es h σ S) fun ds S1 => .inr (by
    show Res.exc ⟨k, (T.keeps k).zip (shDs P.length ds)⟩ (shS P S1) = Res.exc ⟨k, ((T.keeps k).zip ds).map fun p => (p.1, shD P.length p.2)⟩ (shS P S1)
    rw [zipK_sh])
  | .raisek k f e, h, σ, S => Sim.bind (ev_sim O e h σ S).noexc fun d S1 => Sim.bind (Sim.lift (reprD_sh S1 d)) fun r S2 => .inr rfl
  | .tri body hs, h, σ, S => by
    show Sim P _ (match RA.execs T C body σ S with | .exc x S => handle T C x hs (σ.map fun _ => none) S | r => r) (match RA.execs T C' body (shG P.length σ) (shS P S) with | .exc x S => handle T C' x hs ((shG P.length σ).map fun _ => none) S | r => r)
    have z := ss_sim (T := T) O body (and2 h).1 σ S
    cases e : RA.execs T C body σ S with
    | bad => exact .bad
    | ok o S1 =>
      rw [e] at z
      rcases z with z | z
      · cases z
      · rw [z]; exact .inr rfl
    | exc x S1 =>
      rw [e] at z
      rcases z with z | z
      · cases z
      · rw [z]
        show Sim P _ (handle T C x hs (σ.map fun _ => none) S1) (handle T C' (shX P.length x) hs ((shG P.length σ).map fun _ => none) (shS P S1))
        rw [none_sh]
        exact hs_sim O x hs (and2 h).2 _ S1
  | .pass, _, σ, S => .ok
  | .stuck, _, σ, S => .bad
theorem ss_sim {T : Cls} {C C' : Ora} (O : OSim P C C') : ∀ (ss : List RA.St), okSs ss = true → ∀ (σ : Sig) (S : Store), Sim P (shOut P.length) (RA.execs T C ss σ S) (RA.execs T C' ss (shG P.length σ) (shS P S))
  | [], _, σ, S => .ok
  | s :: r, h, σ, S => Sim.bind (s_sim O s (and2 h).1 σ S) fun o S1 => by
    cases o with
    | nx σ1 => exact ss_sim O r (and2 h).2 σ1 S1
    | ret d => exact .ok
theorem hs_sim {T : Cls} {C C' : Ora} (O : OSim P C C') (x : Exn) : ∀ (hs : List Hd), okHs hs = true → ∀ (σ : Sig) (S : Store), Sim P (shOut P.length) (handle T C x hs σ S) (handle T C' (shX P.length x) hs (shG P.length σ) (shS P S))
  | [], _, σ, S => .inr rfl
  | .mk k sl body :: r, h, σ, S => by
    show Sim P _ (if T.sub x.k k then (RA.execs T { C with ex := some x } body σ S).noexc else handle T C x r σ S) (if T.sub x.k k then (RA.execs T { C' with ex := some (shX P.length x) } body (shG P.length σ) (shS P S)).noexc else handle T C' (shX P.length x) r (shG P.length σ) (shS P S))
    exact Sim.if_ (ss_sim (C := { C with ex := some x }) (C' := { C' with ex := some (shX P.length x) }) ⟨O.fn, O.lam, O.th, rfl, O.turns⟩ body (and2 h).1 σ S).noexc (hs_sim O x r (and2 h).2 σ S)
end
theorem fin_sim {r r' : Res Out} (h : Sim P (shOut P.length) r r') : Sim P (shD P.length) (fin r) (fin r') := by
  rcases h with h | h
  · subst h; exact .bad
  · subst h
    cases r with
    | ok o S => cases o <;> exact .inr rfl
    | exc x S => exact .inr rfl
    | bad => exact .bad
theorem start_sh (n k : Nat) (ds : List D) : RA.start k (shDs n ds) = shG n (RA.start k ds) := by
  unfold RA.start shG
  rw [shDs_len, shDs_map, List.map_append, List.map_map, List.map_map, List.map_replicate]; rfl
theorem lamEnd_sim {T : Cls} {C C' : Ora} (O : OSim P C C') (n : Nat) {hs : List Hd} {rest : List RA.St} (h1 : okHs hs = true) (h2 : okSs rest = true) {r r' : Res Out} (h : Sim P (shOut P.length) r r') : Sim P (shD P.length) (lamEnd T C n hs rest r) (lamEnd T C' n hs rest r') := by
  have e0 : List.replicate n (none : Option D) = shG P.length (List.replicate n none) := by unfold shG; rw [List.map_replicate]; rfl
  refine fin_sim (Sim.bind (f := shOut P.length) ?_ fun o S1 => ?_)
  · rcases h with h | h
    · subst h; exact .bad
    · subst h
      cases r with
      | ok o S => exact .inr rfl
      | bad => exact .bad
      | exc x S =>
        show Sim P _ (handle T C x hs (List.replicate n none) S) (handle T C' (shX P.length x) hs (List.replicate n none) (shS P S))
        have z := hs_sim (T := T) O x hs h1 (List.replicate n none) S
        rw [← e0] at z
        exact z
  · cases o with
    | nx σ => exact ss_sim O rest h2 σ S1
    | ret d => exact .ok
theorem tri_hs {b : List RA.St} {hs : List Hd} (h : okS (.tri b hs) = true) : okHs hs = true := by
  unfold okS at h
  exact (and2 h).2
theorem lamRun_sim {T : Cls} {C C' : Ora} (O : OSim P C C') (n : Nat) {body : List RA.St} (hb : okSs body = true) {th th' : Store → Res D} (ht : ∀ S, Sim P (shD P.length) (th S) (th' (shS P S))) (S : Store) : Sim P (shD P.length) (lamRun T C n body th S) (lamRun T C' n body th' (shS P S)) := by
  have e0 : List.replicate n (none : Option D) = shG P.length (List.replicate n none) := by unfold shG; rw [List.map_replicate]; rfl
  unfold lamRun
  split
  · rename_i hs rest
    have h := and2 hb
    have hh : okHs hs = true := tri_hs h.1
    refine lamEnd_sim O n hh h.2 (Sim.bind (ht S) fun d S1 => ?_)
    exact Sim.same (congrArg Out.nx e0) rfl
  · rename_i hs rest
    have h := and2 hb
    have hh : okHs hs = true := tri_hs h.1
    exact lamEnd_sim O n hh h.2 (Sim.bind (ht S) fun d S1 => .ok)
  · exact .bad
def okFn (f : Fn) : Bool := okSs f.body
theorem call_sim {T : Cls} {Γ : List Fn} (W : Nat) (hΓ : Γ.all okFn = true) : ∀ (k i : Nat) (ds : List D) (S : Store), Sim P (shD P.length) (callF T Γ W k i ds S) (callF T Γ W k i (shDs P.length ds) (shS P S))
  | 0, i, ds, S => .bad
  | k + 1, i, ds, S => by
    have fb : ∀ {i : Nat} {f : Fn}, Γ[i]? = some f → okSs f.body = true := fun {i} {f : Fn} h => List.all_eq_true.mp hΓ f (List.mem_of_getElem? h)
    have O0 : OSim P (ora0 (callF T Γ W k) W) (ora0 (callF T Γ W k) W) := ⟨fun i ds S => call_sim W hΓ k i ds S, fun _ _ _ _ _ => .bad, fun _ => .bad, rfl, rfl⟩
    have O1 : OSim P (ora1 T Γ (callF T Γ W k) W) (ora1 T Γ (callF T Γ W k) W) := ⟨fun i ds S => call_sim W hΓ k i ds S, fun g th th' ht S => by
      show Sim P _ (match Γ[g]? with | none => Res.bad | some gn => lamRun T (ora0 (callF T Γ W k) W) gn.ns gn.body th S) (match Γ[g]? with | none => Res.bad | some gn => lamRun T (ora0 (callF T Γ W k) W) gn.ns gn.body th' (shS P S))
      cases e : Γ[g]? with
      | none => exact .bad
      | some gn => exact lamRun_sim O0 gn.ns (fb e) ht S, fun _ => .bad, rfl, rfl⟩
    show Sim P _ (match Γ[i]? with | none => Res.bad | some fn => if ds.length = fn.np then fin (RA.execs T (ora1 T Γ (callF T Γ W k) W) fn.body (RA.start fn.ns ds) S) else .bad)
      (match Γ[i]? with | none => Res.bad | some fn => if (shDs P.length ds).length = fn.np then fin (RA.execs T (ora1 T Γ (callF T Γ W k) W) fn.body (RA.start fn.ns (shDs P.length ds)) (shS P S)) else .bad)
    cases e : Γ[i]? with
    | none => exact .bad
    | some fn =>
      dsimp only
      rw [shDs_len, start_sh]
      by_cases h : ds.length = fn.np
      · rw [if_pos h, if_pos h]
        exact fin_sim (ss_sim O1 fn.body (fb e) _ S)
      · rw [if_neg h]; exact .bad
end
end RA

set_option linter.all false
set_option maxRecDepth 100000
set_option maxHeartbeats 4000000
set_option autoImplicit false
/-! RT: lists in which what calls tell is gathered. -/
namespace RA
open PySem (Str PyData)
section
variable {C : Ora} {T : Cls} {τ : Sig} {S S1 S2 : Store}
theorem st_new {i : Nat} {e : E} {ds : List D} (h : RA.evalE C e τ S = .ok (.vl ds) S1) : RA.execS T C (.asg i (.new e)) τ S = .ok (.nx (τ.set i (some (.ref S1.length)))) (S1 ++ [.lst ds]) := by
  rw [st_asg, ev_new, h, rk]
  rfl
theorem add_ref {S : Store} {a : Nat} {l ds : List D} (hs : S[a]? = some (.lst l)) (hl : l.length + ds.length ≤ LINE) : binop S .add (.ref a) (.vl ds) = some (.vl (l ++ ds)) := by
  have e : binop S .add (.ref a) (.vl ds) = (asL S (.ref a)).bind fun a => (asL S (.vl ds)).bind fun b => if a.length + b.length ≤ LINE then some (.vl (a ++ b)) else none := rfl
  have e2 : asL S (.ref a) = some l := by
    show (match S[a]? with | some (.lst ds) => some ds | none => none) = _
    rw [hs]
  rw [e, e2]
  exact if_pos hl
theorem ev_addref {i a : Nat} {e : E} {l ds : List D} (hv : RA.evalE C (.var i) τ S = .ok (.ref a) S) (h : RA.evalE C e τ S = .ok (.vl ds) S1) (hs : S1[a]? = some (.lst l)) (hl : l.length + ds.length ≤ LINE) : RA.evalE C (.bin .add (.var i) e) τ S = .ok (.vl (l ++ ds)) S1 := by
  rw [ev_bin, hv, rk, h, rk, add_ref hs hl, lk]
theorem ev_lst1 {a : E} {x : D} (h1 : RA.evalE C a τ S = .ok x S1) : RA.evalE C (.lst [a]) τ S = .ok (.vl [x]) S1 := by
  rw [ev_lst, es_cons, h1, rk, es_nil, rk, rk]
theorem ev_lst2 {a b : E} {x y : D} (h1 : RA.evalE C a τ S = .ok x S1) (h2 : RA.evalE C b τ S1 = .ok y S2) : RA.evalE C (.lst [a, b]) τ S = .ok (.vl [x, y]) S2 := by
  rw [ev_lst, es_cons, h1, rk, es_cons, h2, rk, es_nil, rk, rk, rk]
theorem get_app {a : Nat} {o : SO} {Gr : List SO} (h : S[a]? = some o) : (S ++ Gr)[a]? = some o := by
  rw [List.getElem?_append_left (List.getElem?_eq_some_iff.mp h).1]; exact h
theorem dice_more {n B : Nat} {Gr : List SO} (d : Dice S n B) : Dice (S ++ Gr) n B := by
  obtain ⟨a, b, c, h1, h2⟩ := d
  exact ⟨a, b, c, get_app h1, h2⟩
theorem pd_strs {a : Nat} {L : List Str} (h : S[a]? = some (.lst (L.map D.str))) : pd S (.ref a) = some (.list (L.map PyData.str)) := by
  show (match S[a]? with | some (.lst ds) => (toPs (deep 7 S) ds).map PyData.list | none => none) = _
  rw [h]
  show (toPs (deep 7 S) (L.map D.str)).map PyData.list = _
  rw [toPs_strs]; rfl
theorem eqd_strs {a b : Nat} {L M : List Str} (h : S[a]? = some (.lst (L.map D.str))) (h2 : S[b]? = some (.lst (M.map D.str))) : eqd S (.ref a) (.ref b) = some (decide (L = M)) := by
  unfold eqd
  rw [pd_strs h, pd_strs h2]
  show (if min (PyData.list (L.map PyData.str)).depth (PyData.list (M.map PyData.str)).depth ≤ 60 then some ((PyData.list (L.map PyData.str)).eqv (.list (M.map PyData.str))) else none) = _
  rw [if_pos (by simp only [PyData.depth, depth_strs]; decide)]
  simp only [PyData.eqv, eqv_strs]
theorem eqd_strs_vl {a : Nat} {L M : List Str} (h : S[a]? = some (.lst (L.map D.str))) : eqd S (.ref a) (.vl (M.map D.str)) = some (decide (L = M)) := by
  unfold eqd
  have q : pd S (.vl (M.map D.str)) = some (.list (M.map PyData.str)) := by
    show (toPs (deep 8 S) (M.map D.str)).map PyData.list = _
    rw [toPs_strs]; rfl
  rw [pd_strs h, q]
  show (if min (PyData.list (L.map PyData.str)).depth (PyData.list (M.map PyData.str)).depth ≤ 60 then some ((PyData.list (L.map PyData.str)).eqv (.list (M.map PyData.str))) else none) = _
  rw [if_pos (by simp only [PyData.depth, depth_strs]; decide)]
  simp only [PyData.eqv, eqv_strs]
end
end RA

set_option linter.all false
set_option maxRecDepth 100000
set_option maxHeartbeats 4000000
set_option autoImplicit false
/-! J1: k14: what each call tells, for each of the values that are drawn. -/
namespace RA
def mapB {α β : Type} (g : α → β) : List α → List β
  | [] => []
  | a :: l => g a :: mapB g l
theorem mapB_eq {α β : Type} (g : α → β) : ∀ l : List α, mapB g l = l.map g
  | [] => rfl
  | a :: l => by rw [mapB, mapB_eq g l, List.map_cons]
theorem all_map {α β : Type} {f g : α → β} {l : List α} (h : l.map f = mapB g l) : ∀ a ∈ l, f a = g a := by
  rw [mapB_eq] at h
  exact List.map_inj_left.mp h
def prod {α β : Type} (l : List α) (m : List β) : List (α × β) := l.flatMap fun a => m.map fun b => (a, b)
theorem mem_prod {α β : Type} {l : List α} {m : List β} {a : α} {b : β} (ha : a ∈ l) (hb : b ∈ m) : (a, b) ∈ prod l m := List.mem_flatMap.mpr ⟨a, ha, List.mem_map.mpr ⟨b, hb, rfl⟩⟩
end RA
namespace Law
open PySem (Str PyData)
open RA
/-- what is drawn, and whether it is wrong -/
abbrev Dr := D × Bool
def bad (l : List D) : List Dr := l.map fun d => (d, true)
def tupN (n : Nat) (d : D) : D := .tup (List.replicate n d)
def Wd (r : Nat) : List Dr := (.int r, false) :: bad [.int 0, .int 121, .int (-1), .bl true, .non, .str "2", .tup [.int 2], .int (10 ^ 30)]
def badRows (r : Nat) : List D := [.non, .tup [], tupN (r + 1) (.int 0), .vl (List.replicate r (.int 0)), tupN r .non, tupN r (.bl true), .int 0, tupN r (.str "0"), .vd [] []]
def One (r : Nat) : List Dr := (tupN r (.int 2), false) :: bad (badRows r)
def Other (r : Nat) : List Dr := (tupN r (.int 0), false) :: bad (badRows r)
def badLots (r : Nat) : List D := [.non, .vl [.tup []], .tup [tupN r (.int 0)], .tup [tupN r (.int 2)], .tup [tupN (r + 1) (.int 1)], .int 0, .tup [tupN r (.bl true)], .vd [] []]
def Lot (r : Nat) : List Dr := (.tup [tupN r (.int 1)], false) :: bad (badLots r)
def More (r : Nat) : List Dr := (.tup [], false) :: bad (badLots r)
def Rows (r : Nat) : List Dr := (.tup [tupN r (.int 3)], false) :: bad [.non, .vl [tupN r (.int 3)], .tup [tupN (r + 1) (.int 3)], .tup [.non], .tup [tupN r (.bl true)], .int 0]
def By : List Dr := (.int (-4), false) :: bad [.non, .bl true, .str "3", .tup [.int 1], .vl []]
def met (k f : Nat) (ds : List D) (S : Store) : Res D := lamRun TC (ora0 (callF TC GA 1000 k) 1000) F37.ns F37.body (fun S => callF TC GA 1000 k f ds S) S
/-- the first that is wrong -/
def due : List (Str × Bool) → Str
  | [] => "fine"
  | (w, true) :: _ => w
  | (_, false) :: r => due r
def cnt (d : D) : Str := match reprD [] d with
  | some (.str s) => "count " ++ s
  | _ => ""
def resStr : Res D → Option Str
  | .ok (.str x) _ => some x
  | _ => none
/-- what a call tells in an empty store; whether its arguments are data -/
def tells (k f : Nat) (ds : List D) : Bool × Option Str := (fixDs ds, resStr (met k f ds []))
theorem GA_ok : GA.all okFn = true := by kernel_rfl
theorem met_any {k f : Nat} {ds : List D} {x : Str} (h : tells k f ds = (true, some x)) (S : Store) : ∃ Gr, met k f ds S = .ok (.str x) (S ++ Gr) := by
  obtain ⟨h1, h2⟩ := Prod.mk.inj h
  have O0 : OSim S (ora0 (callF TC GA 1000 k) 1000) (ora0 (callF TC GA 1000 k) 1000) := ⟨fun i ds S => call_sim 1000 GA_ok k i ds S, fun _ _ _ _ _ => .bad, fun _ => .bad, rfl, rfl⟩
  have z := lamRun_sim (T := TC) O0 F37.ns (body := F37.body) (List.all_eq_true.mp GA_ok F37 (List.mem_of_getElem? (rfl : GA[37]? = some F37))) (th := fun S => callF TC GA 1000 k f ds S) (th' := fun S => callF TC GA 1000 k f ds S) (fun S' => by
    have := call_sim (P := S) (T := TC) 1000 GA_ok k f ds S'
    rw [fixDs_sh _ h1] at this
    exact this) []
  have e0 : shS S [] = S := List.append_nil S
  rw [e0] at z
  replace z : Sim S (shD S.length) (met k f ds []) (met k f ds S) := z
  rcases z with z | z
  · rw [z] at h2; cases h2
  · rw [z]
    cases e : met k f ds [] with
    | bad => rw [e] at h2; cases h2
    | exc y S' => rw [e] at h2; cases h2
    | ok d S' =>
      rw [e] at h2
      cases d <;> first | (cases h2; done) | skip
      cases h2
      exact ⟨_, rfl⟩
theorem t21 (k r : Nat) (hr : r ∈ [1, 2, 3, 4]) : ∀ w ∈ Wd r, ∀ p ∈ prod (One r) (Other r), tells (k + 7) 21 [w.1, p.1.1, p.2.1] = (true, some (due [(cnt w.1, w.2), ("row", p.1.2), ("row", p.2.2)])) := by
  simp only [List.mem_cons, List.not_mem_nil, or_false] at hr
  intro w hw
  rcases hr with rfl | rfl | rfl | rfl <;> (simp only [Wd, bad, List.map, List.mem_cons, List.not_mem_nil, or_false] at hw; rcases hw with rfl | rfl | rfl | rfl | rfl | rfl | rfl | rfl | rfl <;> exact all_map (by kernel_rfl))
theorem t22 (k r : Nat) (hr : r ∈ [1, 2, 3, 4]) : ∀ w ∈ Wd r, ∀ p ∈ prod (By) (One r), tells (k + 7) 22 [w.1, p.1.1, p.2.1] = (true, some (due [(cnt w.1, w.2), ("operation", p.1.2), ("row", p.2.2)])) := by
  simp only [List.mem_cons, List.not_mem_nil, or_false] at hr
  intro w hw
  rcases hr with rfl | rfl | rfl | rfl <;> (simp only [Wd, bad, List.map, List.mem_cons, List.not_mem_nil, or_false] at hw; rcases hw with rfl | rfl | rfl | rfl | rfl | rfl | rfl | rfl | rfl <;> exact all_map (by kernel_rfl))
theorem t24 (k r : Nat) (hr : r ∈ [1, 2, 3, 4]) : ∀ w ∈ Wd r, ∀ p ∈ One r, tells (k + 7) 24 [w.1, p.1] = (true, some (due [(cnt w.1, w.2), ("row", p.2)])) := by
  simp only [List.mem_cons, List.not_mem_nil, or_false] at hr
  intro w hw
  rcases hr with rfl | rfl | rfl | rfl <;> (simp only [Wd, bad, List.map, List.mem_cons, List.not_mem_nil, or_false] at hw; rcases hw with rfl | rfl | rfl | rfl | rfl | rfl | rfl | rfl | rfl <;> exact all_map (by kernel_rfl))
theorem t25 (k r : Nat) (hr : r ∈ [1, 2, 3, 4]) : ∀ w ∈ Wd r, ∀ p ∈ Rows r, tells (k + 7) 25 [w.1, p.1] = (true, some (due [(cnt w.1, w.2), ("row", p.2)])) := by
  simp only [List.mem_cons, List.not_mem_nil, or_false] at hr
  intro w hw
  rcases hr with rfl | rfl | rfl | rfl <;> (simp only [Wd, bad, List.map, List.mem_cons, List.not_mem_nil, or_false] at hw; rcases hw with rfl | rfl | rfl | rfl | rfl | rfl | rfl | rfl | rfl <;> exact all_map (by kernel_rfl))
theorem t16 (k r : Nat) (hr : r ∈ [1, 2, 3, 4]) : ∀ w ∈ Wd r, ∀ p ∈ One r, tells (k + 7) 16 [w.1, p.1] = (true, some (due [(cnt w.1, w.2)])) := by
  simp only [List.mem_cons, List.not_mem_nil, or_false] at hr
  intro w hw
  rcases hr with rfl | rfl | rfl | rfl <;> (simp only [Wd, bad, List.map, List.mem_cons, List.not_mem_nil, or_false] at hw; rcases hw with rfl | rfl | rfl | rfl | rfl | rfl | rfl | rfl | rfl <;> exact all_map (by kernel_rfl))
theorem t17 (k r : Nat) (hr : r ∈ [1, 2, 3, 4]) : ∀ w ∈ Wd r, ∀ p ∈ Lot r, tells (k + 7) 17 [w.1, p.1] = (true, some (due [(cnt w.1, w.2)])) := by
  simp only [List.mem_cons, List.not_mem_nil, or_false] at hr
  intro w hw
  rcases hr with rfl | rfl | rfl | rfl <;> (simp only [Wd, bad, List.map, List.mem_cons, List.not_mem_nil, or_false] at hw; rcases hw with rfl | rfl | rfl | rfl | rfl | rfl | rfl | rfl | rfl <;> exact all_map (by kernel_rfl))
theorem t30 (k r : Nat) (hr : r ∈ [1, 2, 3, 4]) : ∀ w ∈ Wd r, ∀ p ∈ Lot r, tells (k + 7) 30 [w.1, p.1] = (true, some (due [(cnt w.1, w.2), ("lot", p.2)])) := by
  simp only [List.mem_cons, List.not_mem_nil, or_false] at hr
  intro w hw
  rcases hr with rfl | rfl | rfl | rfl <;> (simp only [Wd, bad, List.map, List.mem_cons, List.not_mem_nil, or_false] at hw; rcases hw with rfl | rfl | rfl | rfl | rfl | rfl | rfl | rfl | rfl <;> exact all_map (by kernel_rfl))
end Law

set_option linter.all false
set_option maxRecDepth 100000
set_option maxHeartbeats 4000000
set_option autoImplicit false
/-! more of what each call tells. -/
namespace Law
open PySem (Str PyData)
open RA
theorem t23 (k r : Nat) (hr : r ∈ [1, 2, 3, 4]) : ∀ w ∈ Wd r, ∀ p ∈ prod (One r) (Other r), tells (k + 7) 23 [w.1, p.1.1, p.2.1] = (true, some (due [(cnt w.1, w.2), ("row", p.1.2), ("row", p.2.2)])) := by
  simp only [List.mem_cons, List.not_mem_nil, or_false] at hr
  intro w hw
  rcases hr with rfl | rfl | rfl | rfl <;> (simp only [Wd, bad, List.map, List.mem_cons, List.not_mem_nil, or_false] at hw; rcases hw with rfl | rfl | rfl | rfl | rfl | rfl | rfl | rfl | rfl <;> exact all_map (by kernel_rfl))
theorem t26 (k r : Nat) (hr : r ∈ [1, 2, 3, 4]) : ∀ w ∈ Wd r, ∀ p ∈ prod (Lot r) (One r), tells (k + 7) 26 [w.1, p.1.1, p.2.1] = (true, some (due [(cnt w.1, w.2), ("lot", p.1.2), ("row", p.2.2)])) := by
  simp only [List.mem_cons, List.not_mem_nil, or_false] at hr
  intro w hw
  rcases hr with rfl | rfl | rfl | rfl <;> (simp only [Wd, bad, List.map, List.mem_cons, List.not_mem_nil, or_false] at hw; rcases hw with rfl | rfl | rfl | rfl | rfl | rfl | rfl | rfl | rfl <;> exact all_map (by kernel_rfl))
theorem t28 (k r : Nat) (hr : r ∈ [1, 2, 3, 4]) : ∀ w ∈ Wd r, ∀ p ∈ prod (Lot r) (More r), tells (k + 7) 28 [w.1, p.1.1, p.2.1] = (true, some (due [(cnt w.1, w.2), ("lot", p.1.2), ("lot", p.2.2)])) := by
  simp only [List.mem_cons, List.not_mem_nil, or_false] at hr
  intro w hw
  rcases hr with rfl | rfl | rfl | rfl <;> (simp only [Wd, bad, List.map, List.mem_cons, List.not_mem_nil, or_false] at hw; rcases hw with rfl | rfl | rfl | rfl | rfl | rfl | rfl | rfl | rfl <;> exact all_map (by kernel_rfl))
end Law

set_option linter.all false
set_option maxRecDepth 100000
set_option maxHeartbeats 4000000
set_option autoImplicit false
/-! more of what each call tells. -/
namespace Law
open PySem (Str PyData)
open RA
theorem t29 (k r : Nat) (hr : r ∈ [1, 2, 3, 4]) : ∀ w ∈ Wd r, ∀ p ∈ prod (Lot r) (More r), tells (k + 7) 29 [w.1, p.1.1, p.2.1] = (true, some (due [(cnt w.1, w.2), ("lot", p.1.2), ("lot", p.2.2)])) := by
  simp only [List.mem_cons, List.not_mem_nil, or_false] at hr
  intro w hw
  rcases hr with rfl | rfl | rfl | rfl <;> (simp only [Wd, bad, List.map, List.mem_cons, List.not_mem_nil, or_false] at hw; rcases hw with rfl | rfl | rfl | rfl | rfl | rfl | rfl | rfl | rfl <;> exact all_map (by kernel_rfl))
theorem t32 (k r : Nat) (hr : r ∈ [1, 2, 3, 4]) : ∀ w ∈ Wd r, ∀ p ∈ prod (Rows r) (One r), tells (k + 7) 32 [w.1, p.1.1, p.2.1] = (true, some (due [(cnt w.1, w.2), ("row", p.1.2), ("row", p.2.2)])) := by
  simp only [List.mem_cons, List.not_mem_nil, or_false] at hr
  intro w hw
  rcases hr with rfl | rfl | rfl | rfl <;> (simp only [Wd, bad, List.map, List.mem_cons, List.not_mem_nil, or_false] at hw; rcases hw with rfl | rfl | rfl | rfl | rfl | rfl | rfl | rfl | rfl <;> exact all_map (by kernel_rfl))
theorem t33 (k r : Nat) (hr : r ∈ [1, 2, 3, 4]) : ∀ w ∈ Wd r, ∀ p ∈ prod (Rows r) (One r), tells (k + 7) 33 [w.1, p.1.1, p.2.1, .non] = (true, some (due [(cnt w.1, w.2), ("row", p.1.2), ("row", p.2.2)])) := by
  simp only [List.mem_cons, List.not_mem_nil, or_false] at hr
  intro w hw
  rcases hr with rfl | rfl | rfl | rfl <;> (simp only [Wd, bad, List.map, List.mem_cons, List.not_mem_nil, or_false] at hw; rcases hw with rfl | rfl | rfl | rfl | rfl | rfl | rfl | rfl | rfl <;> exact all_map (by kernel_rfl))
end Law

set_option linter.all false
set_option maxRecDepth 100000
set_option maxHeartbeats 4000000
set_option autoImplicit false
/-! J4: k14: what is drawn; one turn of the law. -/
namespace Law
open PySem (Str PyData)
open RA
theorem GA35 : GA[35]? = some ⟨2, 5, Iroll⟩ := rfl
theorem GA36 : GA[36]? = some ⟨2, 2, Ipick 35⟩ := rfl
theorem due1 (k : Nat) (a : Str) (x : Bool) (S : Store) : callF TC GA 1000 (k + 1) 39 [.vl [.tup [.str a, .bl x]]] S = .ok (.str (due [(a, x)])) S := by cases x <;> kernel_rfl
theorem due2 (k : Nat) (a b : Str) (x y : Bool) (S : Store) : callF TC GA 1000 (k + 1) 39 [.vl [.tup [.str a, .bl x], .tup [.str b, .bl y]]] S = .ok (.str (due [(a, x), (b, y)])) S := by cases x <;> cases y <;> kernel_rfl
theorem due3 (k : Nat) (a b c : Str) (x y z : Bool) (S : Store) : callF TC GA 1000 (k + 1) 39 [.vl [.tup [.str a, .bl x], .tup [.str b, .bl y], .tup [.str c, .bl z]]] S = .ok (.str (due [(a, x), (b, y), (c, z)])) S := by cases x <;> cases y <;> cases z <;> kernel_rfl
/-- right or wrong -/
theorem one_ {k n B : Nat} {S : Store} {x : D} {ds : List D} (d : Dice S n B) (hB : B ≤ 100000) (h0 : ds ≠ []) (hl : ds.length ≤ 1000) :
    ∃ p ∈ (x, false) :: bad ds, ∃ S', callF TC GA 1000 (k + 3) 38 [.ref n, x, .vl ds] S = .ok (.tup [p.1, .bl p.2]) S' ∧ Dice S' n (B + 2) ∧ SameBut n S S' := by
  obtain ⟨r, S1, e1, r0, r1, d1, s1⟩ := roll (T := TC) (Γ := GA) (W := 1000) (k := k + 1) (i := 35) (t := 3) GA35 d (by omega) (by decide) (by decide)
  rw [callF_eq (fn := F38) rfl rfl]
  have hI : F38.body = [(.ite (.cmp .gt (.call 35 [(.var 0), (.con (.int 3))]) (.con (.int 0))) [(.ret (.tup [(.var 1), (.con (.bl false))]))] []), (.ret (.tup [(.call 36 [(.var 0), (.var 2)]), (.con (.bl true))]))] := rfl
  have st : RA.start F38.ns [.ref n, x, .vl ds] = [some (.ref n), some x, some (.vl ds)] := rfl
  have fe : ∀ i ds S, (ora1 TC GA (callF TC GA 1000 (k + 2)) 1000).fn i ds S = callF TC GA 1000 (k + 2) i ds S := fun _ _ _ => rfl
  rw [hI, st]
  generalize ora1 TC GA (callF TC GA 1000 (k + 2)) 1000 = C at fe
  by_cases hr : 0 < r
  · refine ⟨(x, false), List.mem_cons_self, S1, ?_, d1.more (by omega), s1⟩
    have ht : lts (.int 0) (.int r) = some true := congrArg some (decide_eq_true hr)
    simp only [↓ev_con, ↓ev_var, ↓ev_and, ↓ev_or, ↓ev_not, ↓ev_neg, ↓ev_bin, ↓ev_cmp, ↓ev_chain, ↓ev_ife, ↓ev_sub, ↓ev_slice, ↓ev_rev, ↓ev_ofInt, ↓ev_tup, ↓ev_lst, ↓ev_new, ↓ev_call, ↓ev_callv, ↓ev_bcall, ↓es_nil, ↓es_cons, ↓xs_nil, ↓xs_cons, ↓st_ret, ↓st_asg, ↓sx_asgT, ↓sx_par, ↓st_exp, ↓st_ite, ↓sx_seti, ↓sx_pass, rk, lk, fin_nx, fin_ret, fin_exc, List.getElem?_cons_zero, List.getElem?_cons_succ, List.set_cons_zero, List.set_cons_succ, truth_bl, cm_eq, cm_ne, cm_lt, cm_le, cm_gt, cm_ge, cm_is, cm_isn, cm_in, cm_nin, bc_len, bc_tuple, bc_list, bc_int, bc_repr, bc_isinst, Option.map_some, Option.bind_some, ↓reduceIte, Bool.false_eq_true, Bool.not_true, Bool.not_false, Bool.true_eq_false, fe, e1, ht]
  · have ht : lts (.int 0) (.int r) = some false := congrArg some (decide_eq_false hr)
    obtain ⟨y, S2, e2, hy, d2, s2⟩ := pick (T := TC) (Γ := GA) (W := 1000) (k := k) (i := 36) (r := 35) (S := S1) (x := .vl ds) (ds := ds) GA36 GA35 d1 (by omega) rfl (by simp) (by simp) h0 (by omega)
    refine ⟨(y, true), List.mem_cons_of_mem _ (List.mem_map.mpr ⟨y, hy, rfl⟩), S2, ?_, d2.more (by omega), s1.trans s2⟩
    simp only [↓ev_con, ↓ev_var, ↓ev_and, ↓ev_or, ↓ev_not, ↓ev_neg, ↓ev_bin, ↓ev_cmp, ↓ev_chain, ↓ev_ife, ↓ev_sub, ↓ev_slice, ↓ev_rev, ↓ev_ofInt, ↓ev_tup, ↓ev_lst, ↓ev_new, ↓ev_call, ↓ev_callv, ↓ev_bcall, ↓es_nil, ↓es_cons, ↓xs_nil, ↓xs_cons, ↓st_ret, ↓st_asg, ↓sx_asgT, ↓sx_par, ↓st_exp, ↓st_ite, ↓sx_seti, ↓sx_pass, rk, lk, fin_nx, fin_ret, fin_exc, List.getElem?_cons_zero, List.getElem?_cons_succ, List.set_cons_zero, List.set_cons_succ, truth_bl, cm_eq, cm_ne, cm_lt, cm_le, cm_gt, cm_ge, cm_is, cm_isn, cm_in, cm_nin, bc_len, bc_tuple, bc_list, bc_int, bc_repr, bc_isinst, Option.map_some, Option.bind_some, ↓reduceIte, Bool.false_eq_true, Bool.not_true, Bool.not_false, Bool.true_eq_false, fe, e1, ht, e2]
end Law

set_option linter.all false
set_option maxRecDepth 100000
set_option maxHeartbeats 4000000
set_option autoImplicit false
/-! J5: k14: one turn of the law. -/
namespace Law
open PySem (Str PyData)
open RA
def Q0 : RA.St := (.asg 1 (.bin .add (.con (.int 1)) (.call 35 [(.var 0), (.con (.int 4))])))
def Q1 : RA.St := (.asgT [2, 3] (.call 38 [(.var 0), (.var 1), (.lst [(.con (.int 0)), (.con (.int 121)), (.neg (.con (.int 1))), (.con (.bl true)), (.con .non), (.con (.str ("2" : Str))), (.tup [(.con (.int 2))]), (.bin .pow (.con (.int 10)) (.con (.int 30)))])]))
def Q2 : RA.St := (.asg 4 (.lst [(.con .non), (.tup []), (.bin .mul (.tup [(.con (.int 0))]) (.bin .add (.var 1) (.con (.int 1)))), (.bin .mul (.lst [(.con (.int 0))]) (.var 1)), (.bin .mul (.tup [(.con .non)]) (.var 1)), (.bin .mul (.tup [(.con (.bl true))]) (.var 1)), (.con (.int 0)), (.bin .mul (.tup [(.con (.str ("0" : Str)))]) (.var 1)), (.con (.vd [] []))]))
def Q3 : RA.St := (.asgT [5, 6] (.call 38 [(.var 0), (.bin .mul (.tup [(.con (.int 2))]) (.var 1)), (.var 4)]))
def Q4 : RA.St := (.asgT [7, 8] (.call 38 [(.var 0), (.bin .mul (.tup [(.con (.int 0))]) (.var 1)), (.var 4)]))
def Q5 : RA.St := (.asg 9 (.lst [(.con .non), (.lst [(.tup [])]), (.tup [(.bin .mul (.tup [(.con (.int 0))]) (.var 1))]), (.tup [(.bin .mul (.tup [(.con (.int 2))]) (.var 1))]), (.tup [(.bin .mul (.tup [(.con (.int 1))]) (.bin .add (.var 1) (.con (.int 1))))]), (.con (.int 0)), (.tup [(.bin .mul (.tup [(.con (.bl true))]) (.var 1))]), (.con (.vd [] []))]))
def Q6 : RA.St := (.asgT [10, 11] (.call 38 [(.var 0), (.tup [(.bin .mul (.tup [(.con (.int 1))]) (.var 1))]), (.var 9)]))
def Q7 : RA.St := (.asgT [12, 13] (.call 38 [(.var 0), (.tup []), (.var 9)]))
def Q8 : RA.St := (.asgT [14, 15] (.call 38 [(.var 0), (.tup [(.bin .mul (.tup [(.con (.int 3))]) (.var 1))]), (.lst [(.con .non), (.lst [(.bin .mul (.tup [(.con (.int 3))]) (.var 1))]), (.tup [(.bin .mul (.tup [(.con (.int 3))]) (.bin .add (.var 1) (.con (.int 1))))]), (.tup [(.con .non)]), (.tup [(.bin .mul (.tup [(.con (.bl true))]) (.var 1))]), (.con (.int 0))])]))
def Q9 : RA.St := (.asgT [16, 17] (.call 38 [(.var 0), (.neg (.con (.int 4))), (.lst [(.con .non), (.con (.bl true)), (.con (.str ("3" : Str))), (.tup [(.con (.int 1))]), (.lst [])])]))
def Q10 : RA.St := (.asg 18 (.tup [(.bin .add (.con (.str ("count " : Str))) (.bcall .repr [(.var 2)])), (.var 3)]))
def Q11 : RA.St := (.asg 19 (.new (.lst [(.lam 37 (.call 21 [(.var 2), (.var 5), (.var 7)])), (.lam 37 (.call 22 [(.var 2), (.var 16), (.var 5)]))])))
def Q12 : RA.St := (.asg 20 (.new (.lst [(.call 39 [(.lst [(.var 18), (.tup [(.con (.str ("row" : Str))), (.var 6)]), (.tup [(.con (.str ("row" : Str))), (.var 8)])])]), (.call 39 [(.lst [(.var 18), (.tup [(.con (.str ("operation" : Str))), (.var 17)]), (.tup [(.con (.str ("row" : Str))), (.var 6)])])])])))
def Q13 : RA.St := (.asg 19 (.new (.bin .add (.var 19) (.lst [(.lam 37 (.call 23 [(.var 2), (.var 5), (.var 7)])), (.lam 37 (.call 24 [(.var 2), (.var 5)]))]))))
def Q14 : RA.St := (.asg 20 (.new (.bin .add (.var 20) (.lst [(.call 39 [(.lst [(.var 18), (.tup [(.con (.str ("row" : Str))), (.var 6)]), (.tup [(.con (.str ("row" : Str))), (.var 8)])])]), (.call 39 [(.lst [(.var 18), (.tup [(.con (.str ("row" : Str))), (.var 6)])])])]))))
def Q15 : RA.St := (.asg 19 (.new (.bin .add (.var 19) (.lst [(.lam 37 (.call 25 [(.var 2), (.var 14)])), (.lam 37 (.call 26 [(.var 2), (.var 10), (.var 5)]))]))))
def Q16 : RA.St := (.asg 20 (.new (.bin .add (.var 20) (.lst [(.call 39 [(.lst [(.var 18), (.tup [(.con (.str ("row" : Str))), (.var 15)])])]), (.call 39 [(.lst [(.var 18), (.tup [(.con (.str ("lot" : Str))), (.var 11)]), (.tup [(.con (.str ("row" : Str))), (.var 6)])])])]))))
def Q17 : RA.St := (.loop false [21] .val [(.tup [(.con (.fn 28)), (.con (.fn 29))])] [(.exp (.append (.var 19) (.lam 37 (.callv (.var 21) [(.var 2), (.var 10), (.var 12)])))),     (.exp (.append (.var 20) (.call 39 [(.lst [(.var 18), (.tup [(.con (.str ("lot" : Str))), (.var 11)]), (.tup [(.con (.str ("lot" : Str))), (.var 13)])])])))])
def Q18 : RA.St := (.asg 19 (.new (.bin .add (.var 19) (.lst [(.lam 37 (.call 30 [(.var 2), (.var 10)])), (.lam 37 (.call 32 [(.var 2), (.var 14), (.var 5)]))]))))
def Q19 : RA.St := (.asg 20 (.new (.bin .add (.var 20) (.lst [(.call 39 [(.lst [(.var 18), (.tup [(.con (.str ("lot" : Str))), (.var 11)])])]), (.call 39 [(.lst [(.var 18), (.tup [(.con (.str ("row" : Str))), (.var 15)]), (.tup [(.con (.str ("row" : Str))), (.var 6)])])])]))))
def Q20 : RA.St := (.asg 19 (.new (.bin .add (.var 19) (.lst [(.lam 37 (.call 16 [(.var 2), (.var 5)])), (.lam 37 (.call 17 [(.var 2), (.var 10)]))]))))
def Q21 : RA.St := (.asg 20 (.new (.bin .add (.var 20) (.bin .mul (.lst [(.call 39 [(.lst [(.var 18)])])]) (.con (.int 2))))))
def Q22 : RA.St := (.exp (.append (.var 19) (.lam 37 (.call 33 [(.var 2), (.var 14), (.var 5), (.con .non)]))))
def Q23 : RA.St := (.exp (.append (.var 20) (.call 39 [(.lst [(.var 18), (.tup [(.con (.str ("row" : Str))), (.var 15)]), (.tup [(.con (.str ("row" : Str))), (.var 6)])])])))
def Q24 : RA.St := (.ret (.cmp .eq (.var 19) (.var 20)))
theorem Q_body : F40.body = [Q0, Q1, Q2, Q3, Q4, Q5, Q6, Q7, Q8, Q9, Q10, Q11, Q12, Q13, Q14, Q15, Q16, Q17, Q18, Q19, Q20, Q21, Q22, Q23, Q24] := rfl
abbrev CC (k : Nat) : Ora := ora1 TC GA (callF TC GA 1000 (k + 7)) 1000
theorem st_draw {k n B i j : Nat} {σ : Sig} {S : Store} {e1 e2 : E} {x : D} {ds : List D} (h0 : RA.evalE (CC k) (.var 0) σ S = .ok (.ref n) S) (h1 : RA.evalE (CC k) e1 σ S = .ok x S) (h2 : RA.evalE (CC k) e2 σ S = .ok (.vl ds) S) (d : Dice S n B) (hB : B ≤ 100000) (hd : ds ≠ []) (hl : ds.length ≤ 1000) :
    ∃ p ∈ (x, false) :: bad ds, ∃ S', RA.execS TC (CC k) (.asgT [i, j] (.call 38 [.var 0, e1, e2])) σ S = .ok (.nx ((σ.set i (some p.1)).set j (some (.bl p.2)))) S' ∧ Dice S' n (B + 2) ∧ SameBut n S S' := by
  obtain ⟨p, hp, S', e, d', s'⟩ := one_ (k := k + 4) (x := x) d hB hd hl
  refine ⟨p, hp, S', ?_, d', s'⟩
  rw [sx_asgT, ev_call, es_cons, h0, rk, es_cons, h1, rk, es_cons, h2, rk, es_nil, rk, rk, rk, rk]
  show ((callF TC GA 1000 (k + 7) 38 [.ref n, x, .vl ds] S).bind fun d S => (RA.lift S (target σ true [i, j] d)).bind fun σ S => Res.ok (Out.nx σ) S) = _
  rw [e, rk]
  rfl
theorem tell {k f : Nat} {σ : Sig} {b : E} {ds : List D} {x : Str} (hb : ∀ S, RA.evalE (CC k) b σ S = callF TC GA 1000 (k + 7) f ds S) (h : tells (k + 7) f ds = (true, some x)) (S : Store) : ∃ Gr, RA.evalE (CC k) (.lam 37 b) σ S = .ok (.str x) (S ++ Gr) := by
  obtain ⟨Gr, e⟩ := met_any h S
  refine ⟨Gr, ?_⟩
  have q : (fun S => RA.evalE (CC k) b σ S) = fun S => callF TC GA 1000 (k + 7) f ds S := funext hb
  show lamRun TC (ora0 (callF TC GA 1000 (k + 7)) 1000) F37.ns F37.body (fun S => RA.evalE (CC k) b σ S) S = _
  rw [q]
  exact e
theorem cnt_ok (r : Nat) (hr : r ∈ [1, 2, 3, 4]) (S : Store) : ∀ w ∈ Wd r, reprD S w.1 = (match reprD [] w.1 with | some (.str s) => some (.str s) | _ => none) := by
  simp only [List.mem_cons, List.not_mem_nil, or_false] at hr
  rcases hr with rfl | rfl | rfl | rfl <;> exact all_map (by kernel_rfl)
theorem wide_ok (r : Nat) (hr : r ∈ [1, 2, 3, 4]) (S : Store) (x0 a3 : Option D) (t : List (Option D)) (C : Ora) : ∀ w ∈ Wd r, RA.evalE C (.tup [(.bin .add (.con (.str ("count " : Str))) (.bcall .repr [(.var 2)])), (.var 3)]) (x0 :: some (.int r) :: some w.1 :: some (.bl w.2) :: t) S = .ok (.tup [.str (cnt w.1), .bl w.2]) S := by
  simp only [List.mem_cons, List.not_mem_nil, or_false] at hr
  rcases hr with rfl | rfl | rfl | rfl <;> exact all_map (by kernel_rfl)
def sg (n r : Nat) (w o t l m rs b : Dr) (u v c : Option D) : Sig := [some (.ref n), some (.int r), some w.1, some (.bl w.2), some (.vl (badRows r)), some o.1, some (.bl o.2), some t.1, some (.bl t.2), some (.vl (badLots r)), some l.1, some (.bl l.2), some m.1, some (.bl m.2), some rs.1, some (.bl rs.2), some b.1, some (.bl b.2), some (.tup [.str (cnt w.1), .bl w.2]), u, v, c]
/-- what is drawn -/
theorem drawn (k n B : Nat) (S : Store) (d : Dice S n B) (hB : B ≤ 10000) : ∃ r ∈ [1, 2, 3, 4], ∃ w ∈ Wd r, ∃ o ∈ One r, ∃ t ∈ Other r, ∃ l ∈ Lot r, ∃ m ∈ More r, ∃ rs ∈ Rows r, ∃ b ∈ By, ∃ S', Dice S' n (B + 16) ∧ SameBut n S S' ∧
    ∀ rest, RA.execs TC (CC k) (Q0 :: Q1 :: Q2 :: Q3 :: Q4 :: Q5 :: Q6 :: Q7 :: Q8 :: Q9 :: Q10 :: rest) (RA.start 22 [.ref n]) S = RA.execs TC (CC k) rest (sg n r w o t l m rs b none none none) S' := by
  obtain ⟨r', S1, e1, r0, r1, d1, s1⟩ := roll (T := TC) (Γ := GA) (W := 1000) (k := k + 6) (i := 35) (t := 4) GA35 d (by omega) (by decide) (by decide)
  obtain ⟨r, hr, er⟩ : ∃ r : Nat, r ∈ [1, 2, 3, 4] ∧ 1 + r' = (r : Int) := by
    have : r' = 0 ∨ r' = 1 ∨ r' = 2 ∨ r' = 3 := by omega
    rcases this with rfl | rfl | rfl | rfl
    · exact ⟨1, by decide, rfl⟩
    · exact ⟨2, by decide, rfl⟩
    · exact ⟨3, by decide, rfl⟩
    · exact ⟨4, by decide, rfl⟩
  have f : ∀ i ds S, (CC k).fn i ds S = callF TC GA 1000 (k + 7) i ds S := fun _ _ _ => rfl
  have a1 : binop S1 .add (.int 1) (.int r') = some (.int (r : Int)) := congrArg (fun z => some (D.int z)) er
  have q0 : RA.execS TC (CC k) Q0 (RA.start 22 [.ref n]) S = .ok (.nx (some (.ref n) :: some (.int r) :: List.replicate 20 none)) S1 := by
    have : RA.evalE (CC k) (.var 0) (RA.start 22 [.ref n]) S = .ok (.ref n) S := rfl
    unfold Q0
    rw [st_asg, ev_bin, ev_con, rk, ev_call, es_cons, this, rk, es_cons, ev_con, rk, es_nil, rk, rk, rk, f, e1, rk, a1, lk, rk]
    rfl
  obtain ⟨w, hw, S2, q1, d2, s2⟩ := st_draw (k := k) (i := 2) (j := 3) (σ := some (.ref n) :: some (.int r) :: List.replicate 20 none) (S := S1) (x := .int r) (ds := [.int 0, .int 121, .int (-1), .bl true, .non, .str "2", .tup [.int 2], .int (10 ^ 30)]) (e1 := .var 1)
    (e2 := (.lst [(.con (.int 0)), (.con (.int 121)), (.neg (.con (.int 1))), (.con (.bl true)), (.con .non), (.con (.str ("2" : Str))), (.tup [(.con (.int 2))]), (.bin .pow (.con (.int 10)) (.con (.int 30)))])) rfl rfl (by kernel_rfl) d1 (by omega) (by simp) (by decide)
  have q2 : RA.execS TC (CC k) Q2 (some (.ref n) :: some (.int r) :: some w.1 :: some (.bl w.2) :: List.replicate 18 none) S2 = .ok (.nx (some (.ref n) :: some (.int r) :: some w.1 :: some (.bl w.2) :: some (.vl (badRows r)) :: List.replicate 17 none)) S2 := by
    simp only [List.mem_cons, List.not_mem_nil, or_false] at hr
    rcases hr with rfl | rfl | rfl | rfl <;> kernel_rfl
  obtain ⟨o, ho, S3, q3, d3, s3⟩ := st_draw (k := k) (i := 5) (j := 6) (σ := some (.ref n) :: some (.int r) :: some w.1 :: some (.bl w.2) :: some (.vl (badRows r)) :: List.replicate 17 none) (S := S2) (x := tupN r (.int 2)) (ds := badRows r)
    (e1 := (.bin .mul (.tup [(.con (.int 2))]) (.var 1))) (e2 := .var 4) rfl (by simp only [List.mem_cons, List.not_mem_nil, or_false] at hr; rcases hr with rfl | rfl | rfl | rfl <;> kernel_rfl) rfl d2 (by omega) (by unfold badRows; simp) (by simp only [badRows, List.length_cons, List.length_nil]; decide)
  obtain ⟨t, ht, S4, q4, d4, s4⟩ := st_draw (k := k) (i := 7) (j := 8) (σ := some (.ref n) :: some (.int r) :: some w.1 :: some (.bl w.2) :: some (.vl (badRows r)) :: some o.1 :: some (.bl o.2) :: List.replicate 15 none) (S := S3) (x := tupN r (.int 0)) (ds := badRows r)
    (e1 := (.bin .mul (.tup [(.con (.int 0))]) (.var 1))) (e2 := .var 4) rfl (by simp only [List.mem_cons, List.not_mem_nil, or_false] at hr; rcases hr with rfl | rfl | rfl | rfl <;> kernel_rfl) rfl d3 (by omega) (by unfold badRows; simp) (by simp only [badRows, List.length_cons, List.length_nil]; decide)
  have q5 : RA.execS TC (CC k) Q5 (some (.ref n) :: some (.int r) :: some w.1 :: some (.bl w.2) :: some (.vl (badRows r)) :: some o.1 :: some (.bl o.2) :: some t.1 :: some (.bl t.2) :: List.replicate 13 none) S4 =
      .ok (.nx (some (.ref n) :: some (.int r) :: some w.1 :: some (.bl w.2) :: some (.vl (badRows r)) :: some o.1 :: some (.bl o.2) :: some t.1 :: some (.bl t.2) :: some (.vl (badLots r)) :: List.replicate 12 none)) S4 := by
    simp only [List.mem_cons, List.not_mem_nil, or_false] at hr
    rcases hr with rfl | rfl | rfl | rfl <;> kernel_rfl
  obtain ⟨l, hl, S6, q6, d6, s6⟩ := st_draw (k := k) (i := 10) (j := 11) (σ := some (.ref n) :: some (.int r) :: some w.1 :: some (.bl w.2) :: some (.vl (badRows r)) :: some o.1 :: some (.bl o.2) :: some t.1 :: some (.bl t.2) :: some (.vl (badLots r)) :: List.replicate 12 none) (S := S4) (x := .tup [tupN r (.int 1)]) (ds := badLots r)
    (e1 := (.tup [(.bin .mul (.tup [(.con (.int 1))]) (.var 1))])) (e2 := .var 9) rfl (by simp only [List.mem_cons, List.not_mem_nil, or_false] at hr; rcases hr with rfl | rfl | rfl | rfl <;> kernel_rfl) rfl d4 (by omega) (by unfold badLots; simp) (by simp only [badLots, List.length_cons, List.length_nil]; decide)
  obtain ⟨m, hm, S7, q7, d7, s7⟩ := st_draw (k := k) (i := 12) (j := 13) (σ := some (.ref n) :: some (.int r) :: some w.1 :: some (.bl w.2) :: some (.vl (badRows r)) :: some o.1 :: some (.bl o.2) :: some t.1 :: some (.bl t.2) :: some (.vl (badLots r)) :: some l.1 :: some (.bl l.2) :: List.replicate 10 none) (S := S6) (x := .tup []) (ds := badLots r)
    (e1 := .tup []) (e2 := .var 9) rfl rfl rfl d6 (by omega) (by unfold badLots; simp) (by simp only [badLots, List.length_cons, List.length_nil]; decide)
  obtain ⟨rs, hrs, S8, q8, d8, s8⟩ := st_draw (k := k) (i := 14) (j := 15) (σ := some (.ref n) :: some (.int r) :: some w.1 :: some (.bl w.2) :: some (.vl (badRows r)) :: some o.1 :: some (.bl o.2) :: some t.1 :: some (.bl t.2) :: some (.vl (badLots r)) :: some l.1 :: some (.bl l.2) :: some m.1 :: some (.bl m.2) :: List.replicate 8 none) (S := S7) (x := .tup [tupN r (.int 3)])
    (ds := [.non, .vl [tupN r (.int 3)], .tup [tupN (r + 1) (.int 3)], .tup [.non], .tup [tupN r (.bl true)], .int 0])
    (e1 := (.tup [(.bin .mul (.tup [(.con (.int 3))]) (.var 1))])) (e2 := (.lst [(.con .non), (.lst [(.bin .mul (.tup [(.con (.int 3))]) (.var 1))]), (.tup [(.bin .mul (.tup [(.con (.int 3))]) (.bin .add (.var 1) (.con (.int 1))))]), (.tup [(.con .non)]), (.tup [(.bin .mul (.tup [(.con (.bl true))]) (.var 1))]), (.con (.int 0))])) rfl
    (by simp only [List.mem_cons, List.not_mem_nil, or_false] at hr; rcases hr with rfl | rfl | rfl | rfl <;> kernel_rfl) (by simp only [List.mem_cons, List.not_mem_nil, or_false] at hr; rcases hr with rfl | rfl | rfl | rfl <;> kernel_rfl) d7 (by omega) (by simp) (by simp only [List.length_cons, List.length_nil]; decide)
  obtain ⟨b, hb, S9, q9, d9, s9⟩ := st_draw (k := k) (i := 16) (j := 17) (σ := some (.ref n) :: some (.int r) :: some w.1 :: some (.bl w.2) :: some (.vl (badRows r)) :: some o.1 :: some (.bl o.2) :: some t.1 :: some (.bl t.2) :: some (.vl (badLots r)) :: some l.1 :: some (.bl l.2) :: some m.1 :: some (.bl m.2) :: some rs.1 :: some (.bl rs.2) :: List.replicate 6 none) (S := S8) (x := .int (-4))
    (ds := [.non, .bl true, .str "3", .tup [.int 1], .vl []])
    (e1 := (.neg (.con (.int 4)))) (e2 := (.lst [(.con .non), (.con (.bl true)), (.con (.str ("3" : Str))), (.tup [(.con (.int 1))]), (.lst [])])) rfl rfl (by kernel_rfl) d8 (by omega) (by simp) (by simp only [List.length_cons, List.length_nil]; decide)
  have q10 := wide_ok r hr S9 (some (.ref n)) none (some (.vl (badRows r)) :: some o.1 :: some (.bl o.2) :: some t.1 :: some (.bl t.2) :: some (.vl (badLots r)) :: some l.1 :: some (.bl l.2) :: some m.1 :: some (.bl m.2) :: some rs.1 :: some (.bl rs.2) :: some b.1 :: some (.bl b.2) :: List.replicate 4 none) (CC k) w hw
  refine ⟨r, hr, w, hw, o, ho, t, ht, l, hl, m, hm, rs, hrs, b, hb, S9, d9.more (by omega), s1.trans (s2.trans (s3.trans (s4.trans (s6.trans (s7.trans (s8.trans s9)))))), fun rest => ?_⟩
  have E : ∀ {s : RA.St} {rest : List RA.St} {σ σ' : Sig} {S S' : Store}, RA.execS TC (CC k) s σ S = .ok (.nx σ') S' → RA.execs TC (CC k) (s :: rest) σ S = RA.execs TC (CC k) rest σ' S' := fun h => by rw [xs_cons, h, rk]
  have A : ∀ {i : Nat} {e : RA.E} {d : D} {σ : Sig} {S S' : Store}, RA.evalE (CC k) e σ S = .ok d S' → RA.execS TC (CC k) (.asg i e) σ S = .ok (.nx (σ.set i (some d))) S' := fun h => by rw [st_asg, h, rk]
  exact (E q0).trans ((E (s := Q1) q1).trans ((E q2).trans ((E (s := Q3) q3).trans ((E (s := Q4) q4).trans ((E q5).trans ((E (s := Q6) q6).trans ((E (s := Q7) q7).trans ((E (s := Q8) q8).trans ((E (s := Q9) q9).trans (E (s := Q10) (A (i := 18) q10)))))))))))
end Law

set_option linter.all false
set_option maxRecDepth 100000
set_option maxHeartbeats 4000000
set_option autoImplicit false
/-! J6: k14: what is told is what is due. -/
namespace Law
open PySem (Str PyData)
open RA
theorem line_ok {n m : Nat} (h : n + m ≤ 100) : n + m ≤ LINE := Nat.le_trans h (by decide)
/-- told and due stand at two places; the dice at a third -/
structure Two (n B : Nat) (S : Store) (a c : Nat) (L M : List Str) : Prop where
  d : Dice S n B
  a_ : S[a]? = some (.lst (L.map D.str))
  c_ : S[c]? = some (.lst (M.map D.str))
  ac : a ≠ c
  na : n ≠ a
  nc : n ≠ c
theorem lt_of {S : Store} {a : Nat} {o : SO} (h : S[a]? = some o) : a < S.length := (List.getElem?_eq_some_iff.mp h).1
theorem dice_lt {S : Store} {n B : Nat} (d : Dice S n B) : n < S.length := by
  obtain ⟨a, b, c, h, _⟩ := d
  exact lt_of h
theorem Two.grow {n B a c : Nat} {S : Store} {L M : List Str} (t : Two n B S a c L M) (Gr : Store) : Two n B (S ++ Gr) a c L M := ⟨dice_more t.d, get_app t.a_, get_app t.c_, t.ac, t.na, t.nc⟩
theorem Two.newA {n B a c : Nat} {S : Store} {L M : List Str} (t : Two n B S a c L M) (L' : List Str) : Two n B (S ++ [.lst (L'.map D.str)]) S.length c L' M :=
  ⟨dice_more t.d, at_end, get_app t.c_, Ne.symm (Nat.ne_of_lt (lt_of t.c_)), Nat.ne_of_lt (dice_lt t.d), t.nc⟩
theorem Two.newC {n B a c : Nat} {S : Store} {L M : List Str} (t : Two n B S a c L M) (M' : List Str) : Two n B (S ++ [.lst (M'.map D.str)]) a S.length L M' :=
  ⟨dice_more t.d, get_app t.a_, at_end, Nat.ne_of_lt (lt_of t.a_), t.na, Nat.ne_of_lt (dice_lt t.d)⟩
theorem Dice.set_ {S : Store} {n B a : Nat} {o : SO} (d : Dice S n B) (h : n ≠ a) : Dice (S.set a o) n B := by
  obtain ⟨x, y, z, h1, h2⟩ := d
  exact ⟨x, y, z, by rw [List.getElem?_set_ne (Ne.symm h)]; exact h1, h2⟩
theorem Two.setA {n B a c : Nat} {S : Store} {L M : List Str} (t : Two n B S a c L M) (L' : List Str) : Two n B (S.set a (.lst (L'.map D.str))) a c L' M :=
  ⟨Dice.set_ t.d t.na, List.getElem?_set_self (lt_of t.a_), by rw [List.getElem?_set_ne t.ac]; exact t.c_, t.ac, t.na, t.nc⟩
theorem Two.setC {n B a c : Nat} {S : Store} {L M : List Str} (t : Two n B S a c L M) (M' : List Str) : Two n B (S.set c (.lst (M'.map D.str))) a c L M' :=
  ⟨Dice.set_ t.d t.nc, by rw [List.getElem?_set_ne (Ne.symm t.ac)]; exact t.a_, List.getElem?_set_self (lt_of t.c_), t.ac, t.na, t.nc⟩
section
variable {k a c n B i f1 f2 : Nat} {σ : Sig} {S : Store} {L M N : List Str} {b1 b2 e : E} {ds1 ds2 : List D} {x1 x2 : Str}
theorem told2 (t : Two n B S a c L M) (hv : ∀ S, RA.evalE (CC k) (.var i) σ S = .ok (.ref a) S) (hl : L.length ≤ 50)
    (hb1 : ∀ S, RA.evalE (CC k) b1 σ S = callF TC GA 1000 (k + 7) f1 ds1 S) (h1 : tells (k + 7) f1 ds1 = (true, some x1)) (hb2 : ∀ S, RA.evalE (CC k) b2 σ S = callF TC GA 1000 (k + 7) f2 ds2 S) (h2 : tells (k + 7) f2 ds2 = (true, some x2)) :
    ∃ a' S', RA.execS TC (CC k) (.asg i (.new (.bin .add (.var i) (.lst [.lam 37 b1, .lam 37 b2])))) σ S = .ok (.nx (σ.set i (some (.ref a')))) S' ∧ Two n B S' a' c (L ++ [x1, x2]) M := by
  obtain ⟨G1, e1⟩ := tell hb1 h1 S
  obtain ⟨G2, e2⟩ := tell hb2 h2 (S ++ G1)
  have t2 := (t.grow G1).grow G2
  have e := ev_addref (hv S) (ev_lst2 e1 e2) t2.a_ (line_ok (by simp only [List.length_map, List.length_cons, List.length_nil]; omega))
  refine ⟨(S ++ G1 ++ G2).length, _, st_new e, ?_⟩
  have := t2.newA (L ++ [x1, x2])
  rw [List.map_append] at this
  exact this
theorem told0 (d : Dice S n B) (hb1 : ∀ S, RA.evalE (CC k) b1 σ S = callF TC GA 1000 (k + 7) f1 ds1 S) (h1 : tells (k + 7) f1 ds1 = (true, some x1)) (hb2 : ∀ S, RA.evalE (CC k) b2 σ S = callF TC GA 1000 (k + 7) f2 ds2 S) (h2 : tells (k + 7) f2 ds2 = (true, some x2)) :
    ∃ a' S', RA.execS TC (CC k) (.asg i (.new (.lst [.lam 37 b1, .lam 37 b2]))) σ S = .ok (.nx (σ.set i (some (.ref a')))) S' ∧ Dice S' n B ∧ S'[a']? = some (.lst ([x1, x2].map D.str)) ∧ n ≠ a' := by
  obtain ⟨G1, e1⟩ := tell hb1 h1 S
  obtain ⟨G2, e2⟩ := tell hb2 h2 (S ++ G1)
  have d2 := dice_more (Gr := G2) (dice_more (Gr := G1) d)
  exact ⟨(S ++ G1 ++ G2).length, _, st_new (ev_lst2 e1 e2), dice_more d2, at_end, Nat.ne_of_lt (dice_lt d2)⟩
theorem due0 (d : Dice S n B) (ha : S[a]? = some (.lst (L.map D.str))) (na : n ≠ a) (h1 : ∀ S, RA.evalE (CC k) e σ S = .ok (.vl (N.map D.str)) S) :
    ∃ c' S', RA.execS TC (CC k) (.asg i (.new e)) σ S = .ok (.nx (σ.set i (some (.ref c')))) S' ∧ Two n B S' a c' L N :=
  ⟨S.length, _, st_new (h1 S), ⟨dice_more d, get_app ha, at_end, Nat.ne_of_lt (lt_of ha), na, Nat.ne_of_lt (dice_lt d)⟩⟩
theorem due2' (t : Two n B S a c L M) (hv : ∀ S, RA.evalE (CC k) (.var i) σ S = .ok (.ref c) S) (hl : M.length ≤ 50) (hm : N.length ≤ 50) (h1 : ∀ S, RA.evalE (CC k) e σ S = .ok (.vl (N.map D.str)) S) :
    ∃ c' S', RA.execS TC (CC k) (.asg i (.new (.bin .add (.var i) e))) σ S = .ok (.nx (σ.set i (some (.ref c')))) S' ∧ Two n B S' a c' L (M ++ N) := by
  have q := ev_addref (hv S) (h1 S) t.c_ (line_ok (by simp only [List.length_map]; omega))
  refine ⟨S.length, _, st_new q, ?_⟩
  have := t.newC (M ++ N)
  rw [List.map_append] at this
  exact this
theorem toldA (t : Two n B S a c L M) (hv : ∀ S, RA.evalE (CC k) (.var i) σ S = .ok (.ref a) S) (hl : L.length ≤ 50) (hb1 : ∀ S, RA.evalE (CC k) b1 σ S = callF TC GA 1000 (k + 7) f1 ds1 S) (h1 : tells (k + 7) f1 ds1 = (true, some x1)) :
    ∃ S', RA.execS TC (CC k) (.exp (.append (.var i) (.lam 37 b1))) σ S = .ok (.nx σ) S' ∧ Two n B S' a c (L ++ [x1]) M := by
  obtain ⟨G1, e1⟩ := tell hb1 h1 S
  refine ⟨_, ?_, (t.grow G1).setA (L ++ [x1])⟩
  rw [st_exp, ev_append (hv S) e1 (get_app t.a_) (Nat.lt_of_le_of_lt (by rw [List.length_map]; exact hl) (by decide)), rk, List.map_append]
  rfl
theorem dueA (t : Two n B S a c L M) (hv : ∀ S, RA.evalE (CC k) (.var i) σ S = .ok (.ref c) S) (hl : M.length ≤ 50) (h1 : ∀ S, RA.evalE (CC k) e σ S = .ok (.str x1) S) :
    ∃ S', RA.execS TC (CC k) (.exp (.append (.var i) e)) σ S = .ok (.nx σ) S' ∧ Two n B S' a c L (M ++ [x1]) := by
  refine ⟨_, ?_, t.setC (M ++ [x1])⟩
  rw [st_exp, ev_append (hv S) (h1 S) t.c_ (Nat.lt_of_le_of_lt (by rw [List.length_map]; exact hl) (by decide)), rk, List.map_append]
  rfl
end
theorem lst2 {k : Nat} {σ : Sig} {a b : E} {x y : Str} (h1 : ∀ S, RA.evalE (CC k) a σ S = .ok (.str x) S) (h2 : ∀ S, RA.evalE (CC k) b σ S = .ok (.str y) S) (S : Store) : RA.evalE (CC k) (.lst [a, b]) σ S = .ok (.vl ([x, y].map D.str)) S := ev_lst2 (h1 S) (h2 S)
section
variable {n r : Nat} {w o t l m rs b : Dr} {u v c : Option D}
/-- all of a turn -/
theorem turn_ok {k B : Nat} {S : Store} (d : Dice S n B) (hr : r ∈ [1, 2, 3, 4]) (hw : w ∈ Wd r) (ho : o ∈ One r) (ht : t ∈ Other r) (hl : l ∈ Lot r) (hm : m ∈ More r) (hrs : rs ∈ Rows r) (hb : b ∈ By) :
    ∃ S', RA.execs TC (CC k) [Q11, Q12, Q13, Q14, Q15, Q16, Q17, Q18, Q19, Q20, Q21, Q22, Q23, Q24] (sg n r w o t l m rs b none none none) S = .ok (.ret (.bl true)) S' ∧ Dice S' n B := by
  have E : ∀ {s : RA.St} {rest : List RA.St} {σ σ' : Sig} {S S' : Store}, RA.execS TC (CC k) s σ S = .ok (.nx σ') S' → RA.execs TC (CC k) (s :: rest) σ S = RA.execs TC (CC k) rest σ' S' := fun h => by rw [xs_cons, h, rk]
  obtain ⟨a1, S1, q11, d1, p1, n1⟩ := told0 (k := k) (i := 19) (σ := sg n r w o t l m rs b none none none) (b1 := .call 21 [.var 2, .var 5, .var 7]) (b2 := .call 22 [.var 2, .var 16, .var 5]) d (fun S => rfl) (t21 k r hr w hw (o, t) (mem_prod ho ht)) (fun S => rfl) (t22 k r hr w hw (b, o) (mem_prod hb ho))
  obtain ⟨c1, S2, q12, T1⟩ := due0 (k := k) (i := 20) (σ := sg n r w o t l m rs b (some (.ref a1)) none none) (e := (.lst [(.call 39 [(.lst [(.var 18), (.tup [(.con (.str ("row" : Str))), (.var 6)]), (.tup [(.con (.str ("row" : Str))), (.var 8)])])]), (.call 39 [(.lst [(.var 18), (.tup [(.con (.str ("operation" : Str))), (.var 17)]), (.tup [(.con (.str ("row" : Str))), (.var 6)])])])])) d1 p1 n1
    (lst2 (fun S => due3 (k + 6) _ _ _ _ _ _ S) (fun S => due3 (k + 6) _ _ _ _ _ _ S))
  obtain ⟨a2, S3, q13, T2⟩ := told2 (k := k) (i := 19) (σ := sg n r w o t l m rs b (some (.ref a1)) (some (.ref c1)) none) (b1 := .call 23 [.var 2, .var 5, .var 7]) (b2 := .call 24 [.var 2, .var 5]) T1 (fun S => rfl) (by simp only [List.length_append, List.length_cons, List.length_nil]; omega) (fun S => rfl) (t23 k r hr w hw (o, t) (mem_prod ho ht)) (fun S => rfl) (t24 k r hr w hw o ho)
  obtain ⟨c2, S4, q14, T3⟩ := due2' (k := k) (i := 20) (σ := sg n r w o t l m rs b (some (.ref a2)) (some (.ref c1)) none) (e := (.lst [(.call 39 [(.lst [(.var 18), (.tup [(.con (.str ("row" : Str))), (.var 6)]), (.tup [(.con (.str ("row" : Str))), (.var 8)])])]), (.call 39 [(.lst [(.var 18), (.tup [(.con (.str ("row" : Str))), (.var 6)])])])])) T2 (fun S => rfl) (by simp only [List.length_append, List.length_cons, List.length_nil]; omega) (by simp only [List.length_append, List.length_cons, List.length_nil]; omega)
    (lst2 (fun S => due3 (k + 6) _ _ _ _ _ _ S) (fun S => due2 (k + 6) _ _ _ _ S))
  obtain ⟨a3, S5, q15, T4⟩ := told2 (k := k) (i := 19) (σ := sg n r w o t l m rs b (some (.ref a2)) (some (.ref c2)) none) (b1 := .call 25 [.var 2, .var 14]) (b2 := .call 26 [.var 2, .var 10, .var 5]) T3 (fun S => rfl) (by simp only [List.length_append, List.length_cons, List.length_nil]; omega) (fun S => rfl) (t25 k r hr w hw rs hrs) (fun S => rfl) (t26 k r hr w hw (l, o) (mem_prod hl ho))
  obtain ⟨c3, S6, q16, T5⟩ := due2' (k := k) (i := 20) (σ := sg n r w o t l m rs b (some (.ref a3)) (some (.ref c2)) none) (e := (.lst [(.call 39 [(.lst [(.var 18), (.tup [(.con (.str ("row" : Str))), (.var 15)])])]), (.call 39 [(.lst [(.var 18), (.tup [(.con (.str ("lot" : Str))), (.var 11)]), (.tup [(.con (.str ("row" : Str))), (.var 6)])])])])) T4 (fun S => rfl) (by simp only [List.length_append, List.length_cons, List.length_nil]; omega) (by simp only [List.length_append, List.length_cons, List.length_nil]; omega)
    (lst2 (fun S => due2 (k + 6) _ _ _ _ S) (fun S => due3 (k + 6) _ _ _ _ _ _ S))
  obtain ⟨S7, g1, T6⟩ := toldA (k := k) (i := 19) (σ := sg n r w o t l m rs b (some (.ref a3)) (some (.ref c3)) (some (.fn 28))) (b1 := .callv (.var 21) [.var 2, .var 10, .var 12]) T5 (fun S => rfl) (by simp only [List.length_append, List.length_cons, List.length_nil]; omega) (fun S => rfl) (t28 k r hr w hw (l, m) (mem_prod hl hm))
  obtain ⟨S8, g2, T7⟩ := dueA (k := k) (i := 20) (σ := sg n r w o t l m rs b (some (.ref a3)) (some (.ref c3)) (some (.fn 28))) (e := (.call 39 [(.lst [(.var 18), (.tup [(.con (.str ("lot" : Str))), (.var 11)]), (.tup [(.con (.str ("lot" : Str))), (.var 13)])])])) T6 (fun S => rfl) (by simp only [List.length_append, List.length_cons, List.length_nil]; omega) (fun S => due3 (k + 6) _ _ _ _ _ _ S)
  obtain ⟨S9, g3, T8⟩ := toldA (k := k) (i := 19) (σ := sg n r w o t l m rs b (some (.ref a3)) (some (.ref c3)) (some (.fn 29))) (b1 := .callv (.var 21) [.var 2, .var 10, .var 12]) T7 (fun S => rfl) (by simp only [List.length_append, List.length_cons, List.length_nil]; omega) (fun S => rfl) (t29 k r hr w hw (l, m) (mem_prod hl hm))
  obtain ⟨S10, g4, T9⟩ := dueA (k := k) (i := 20) (σ := sg n r w o t l m rs b (some (.ref a3)) (some (.ref c3)) (some (.fn 29))) (e := (.call 39 [(.lst [(.var 18), (.tup [(.con (.str ("lot" : Str))), (.var 11)]), (.tup [(.con (.str ("lot" : Str))), (.var 13)])])])) T8 (fun S => rfl) (by simp only [List.length_append, List.length_cons, List.length_nil]; omega) (fun S => due3 (k + 6) _ _ _ _ _ _ S)
  have q17 : RA.execS TC (CC k) Q17 (sg n r w o t l m rs b (some (.ref a3)) (some (.ref c3)) none) S6 = .ok (.nx (sg n r w o t l m rs b (some (.ref a3)) (some (.ref c3)) (some (.fn 29)))) S10 := by
    have lp := st_loop (T := TC) (C := CC k) (τ := sg n r w o t l m rs b (some (.ref a3)) (some (.ref c3)) none) (S := S6) (tup := false) (tgt := [21]) (sk := .val) (es := [(.tup [(.con (.fn 28)), (.con (.fn 29))])])
      (body := [(.exp (.append (.var 19) (.lam 37 (.callv (.var 21) [(.var 2), (.var 10), (.var 12)])))), (.exp (.append (.var 20) (.call 39 [(.lst [(.var 18), (.tup [(.con (.str ("lot" : Str))), (.var 11)]), (.tup [(.con (.str ("lot" : Str))), (.var 13)])])])))])
      (ds := [.tup [.fn 28, .fn 29]]) (it := [.fn 28, .fn 29]) (o := none) rfl rfl
    have t1 : turn TC (CC k) false [21] [(.exp (.append (.var 19) (.lam 37 (.callv (.var 21) [(.var 2), (.var 10), (.var 12)])))), (.exp (.append (.var 20) (.call 39 [(.lst [(.var 18), (.tup [(.con (.str ("lot" : Str))), (.var 11)]), (.tup [(.con (.str ("lot" : Str))), (.var 13)])])])))] (.fn 28) (sg n r w o t l m rs b (some (.ref a3)) (some (.ref c3)) none) S6 = .ok (.nx (sg n r w o t l m rs b (some (.ref a3)) (some (.ref c3)) (some (.fn 28)))) S8 :=
      (turn_eq (σ2 := sg n r w o t l m rs b (some (.ref a3)) (some (.ref c3)) (some (.fn 28))) rfl).trans ((E g1).trans ((E g2).trans xs_nil))
    have t2 : turn TC (CC k) false [21] [(.exp (.append (.var 19) (.lam 37 (.callv (.var 21) [(.var 2), (.var 10), (.var 12)])))), (.exp (.append (.var 20) (.call 39 [(.lst [(.var 18), (.tup [(.con (.str ("lot" : Str))), (.var 11)]), (.tup [(.con (.str ("lot" : Str))), (.var 13)])])])))] (.fn 29) (sg n r w o t l m rs b (some (.ref a3)) (some (.ref c3)) (some (.fn 28))) S8 = .ok (.nx (sg n r w o t l m rs b (some (.ref a3)) (some (.ref c3)) (some (.fn 29)))) S10 :=
      (turn_eq (σ2 := sg n r w o t l m rs b (some (.ref a3)) (some (.ref c3)) (some (.fn 29))) rfl).trans ((E g3).trans ((E g4).trans xs_nil))
    refine lp.trans ?_
    have u : ∀ {step : D → Sig → Store → Res Out} {g : Store → Bool} {d : D} {r : List D} {σ σ' : Sig} {S S' : Store}, g S = true → step d σ S = .ok (.nx σ') S' → forL step g (d :: r) σ S = forL step g r σ' S' := fun {step g d r σ σ' S S'} hg h => by
      show (if g S then (step d σ S).bind fun o S => match o with
        | .nx σ => forL step g r σ S
        | .ret x => .ok (.ret x) S
      else .bad) = _
      rw [if_pos hg, h, rk]
    rw [u rfl t1, u rfl t2]
    rfl
  obtain ⟨a4, S11, q18, T10⟩ := told2 (k := k) (i := 19) (σ := sg n r w o t l m rs b (some (.ref a3)) (some (.ref c3)) (some (.fn 29))) (b1 := .call 30 [.var 2, .var 10]) (b2 := .call 32 [.var 2, .var 14, .var 5]) T9 (fun S => rfl) (by simp only [List.length_append, List.length_cons, List.length_nil]; omega) (fun S => rfl) (t30 k r hr w hw l hl) (fun S => rfl) (t32 k r hr w hw (rs, o) (mem_prod hrs ho))
  obtain ⟨c4, S12, q19, T11⟩ := due2' (k := k) (i := 20) (σ := sg n r w o t l m rs b (some (.ref a4)) (some (.ref c3)) (some (.fn 29))) (e := (.lst [(.call 39 [(.lst [(.var 18), (.tup [(.con (.str ("lot" : Str))), (.var 11)])])]), (.call 39 [(.lst [(.var 18), (.tup [(.con (.str ("row" : Str))), (.var 15)]), (.tup [(.con (.str ("row" : Str))), (.var 6)])])])])) T10 (fun S => rfl) (by simp only [List.length_append, List.length_cons, List.length_nil]; omega) (by simp only [List.length_append, List.length_cons, List.length_nil]; omega)
    (lst2 (fun S => due2 (k + 6) _ _ _ _ S) (fun S => due3 (k + 6) _ _ _ _ _ _ S))
  obtain ⟨a5, S13, q20, T12⟩ := told2 (k := k) (i := 19) (σ := sg n r w o t l m rs b (some (.ref a4)) (some (.ref c4)) (some (.fn 29))) (b1 := .call 16 [.var 2, .var 5]) (b2 := .call 17 [.var 2, .var 10]) T11 (fun S => rfl) (by simp only [List.length_append, List.length_cons, List.length_nil]; omega) (fun S => rfl) (t16 k r hr w hw o ho) (fun S => rfl) (t17 k r hr w hw l hl)
  obtain ⟨c5, S14, q21, T13⟩ := due2' (k := k) (i := 20) (N := [due [(cnt w.1, w.2)], due [(cnt w.1, w.2)]]) (σ := sg n r w o t l m rs b (some (.ref a5)) (some (.ref c4)) (some (.fn 29))) (e := (.bin .mul (.lst [(.call 39 [(.lst [(.var 18)])])]) (.con (.int 2)))) T12 (fun S => rfl) (by simp only [List.length_append, List.length_cons, List.length_nil]; omega) (by simp only [List.length_append, List.length_cons, List.length_nil]; omega)
    (fun S => by
      have h1 : RA.evalE (CC k) (.lst [(.call 39 [(.lst [(.var 18)])])]) (sg n r w o t l m rs b (some (.ref a5)) (some (.ref c4)) (some (.fn 29))) S = .ok (.vl [.str (due [(cnt w.1, w.2)])]) S := ev_lst1 (due1 (k + 6) _ _ S)
      rw [ev_bin, h1, rk, ev_con, rk]
      rfl)
  obtain ⟨S15, q22, T14⟩ := toldA (k := k) (i := 19) (σ := sg n r w o t l m rs b (some (.ref a5)) (some (.ref c5)) (some (.fn 29))) (b1 := .call 33 [.var 2, .var 14, .var 5, .con .non]) T13 (fun S => rfl) (by simp only [List.length_append, List.length_cons, List.length_nil]; omega) (fun S => rfl) (t33 k r hr w hw (rs, o) (mem_prod hrs ho))
  obtain ⟨S16, q23, T15⟩ := dueA (k := k) (i := 20) (σ := sg n r w o t l m rs b (some (.ref a5)) (some (.ref c5)) (some (.fn 29))) (e := (.call 39 [(.lst [(.var 18), (.tup [(.con (.str ("row" : Str))), (.var 15)]), (.tup [(.con (.str ("row" : Str))), (.var 6)])])])) T14 (fun S => rfl) (by simp only [List.length_append, List.length_cons, List.length_nil]; omega) (fun S => due3 (k + 6) _ _ _ _ _ _ S)
  have q24 : RA.execS TC (CC k) Q24 (sg n r w o t l m rs b (some (.ref a5)) (some (.ref c5)) (some (.fn 29))) S16 = .ok (.ret (.bl true)) S16 := by
    have v1 : RA.evalE (CC k) (.var 19) (sg n r w o t l m rs b (some (.ref a5)) (some (.ref c5)) (some (.fn 29))) S16 = .ok (.ref a5) S16 := rfl
    have v2 : RA.evalE (CC k) (.var 20) (sg n r w o t l m rs b (some (.ref a5)) (some (.ref c5)) (some (.fn 29))) S16 = .ok (.ref c5) S16 := rfl
    unfold Q24
    rw [st_ret, ev_cmp, v1, rk, v2, rk, cm_eq, eqd_strs T15.a_ T15.c_, decide_eq_true rfl]
    rfl
  refine ⟨S16, ?_, T15.d⟩
  exact (E q11).trans ((E q12).trans ((E q13).trans ((E q14).trans ((E q15).trans ((E q16).trans ((E q17).trans ((E q18).trans ((E q19).trans ((E q20).trans ((E q21).trans ((E q22).trans ((E q23).trans (by rw [xs_cons, q24, rk])))))))))))))
end
/-- _law_right -/
theorem right {k n B : Nat} {S : Store} (d : Dice S n B) (hB : B ≤ 10000) : ∃ S', callF TC GA 1000 (k + 8) 40 [.ref n] S = .ok (.bl true) S' ∧ Dice S' n (B + 16) := by
  obtain ⟨r, hr, w, hw, o, ho, t, ht, l, hl, m, hm, rs, hrs, b, hb, S1, d1, s1, e1⟩ := drawn k n B S d hB
  obtain ⟨S2, e2, d2⟩ := turn_ok (k := k) d1 hr hw ho ht hl hm hrs hb
  refine ⟨S2, ?_, d2⟩
  rw [callF_eq (fn := F40) rfl rfl, Q_body]
  exact congrArg fin ((e1 _).trans e2)
end Law

set_option linter.all false
set_option maxRecDepth 100000
set_option maxHeartbeats 4000000
set_option autoImplicit false
/-! J7: k14: the law. -/
namespace Law
open PySem (Str PyData)
open RA
def U0 : RA.St := (.loop false [1] .rng1 [(.bcall .max [(.con (.int 1)), (.bcall .min [(.con (.int 6)), (.bcall .len [(.var 0)])])])] [(.asg 2 (.call 34 [(.var 0), (.var 1)])),     (.loop false [3] .rng1 [(.con (.int 6))] [(.ite (.not (.call 40 [(.var 2)])) [(.ret (.con (.bl false)))] [])])])
def U1 : RA.St := (.asg 4 (.lst [(.lam 37 (.call 24 [(.con (.int 120)), (.bin .mul (.tup [(.con (.int 1))]) (.con (.int 120)))])), (.lam 37 (.call 24 [(.con (.int 1)), (.tup [(.con (.int 0))])])), (.lam 37 (.call 25 [(.con (.int 3)), (.tup [])]))]))
def U2 : RA.St := (.ret (.and (.cmp .eq (.con (.int 120)) (.con (.int 120))) (.cmp .eq (.var 4) (.bin .mul (.lst [(.con (.str ("fine" : Str)))]) (.con (.int 3))))))
theorem U_body : F41.body = [U0, U1, U2] := rfl
def Bin : List RA.St := [(.ite (.not (.call 40 [(.var 2)])) [(.ret (.con (.bl false)))] [])]
def Bout : List RA.St := [(.asg 2 (.call 34 [(.var 0), (.var 1)])), (.loop false [3] .rng1 [(.con (.int ((6 : Nat) : Int)))] Bin)]
theorem step_law {k spot : Nat} {ns : List Int} {S : Store} {a b c : Option D} (hs : spot ≤ 1000) :
    ∃ u v S', RA.execs TC (CC (k + 1)) Bout [some (.ro (ns.map D.int)), some (.int (spot : Int)), a, b, c] S = .ok (.nx [some (.ro (ns.map D.int)), some (.int (spot : Int)), u, v, c]) S' := by
  obtain ⟨o, e1, dc⟩ := dice (T := TC) (Γ := GA) (W := 1000) (k := k + 7) (i := 34) (S := S) (ns := ns) rfl hs
  have fe : ∀ i ds S, (CC (k + 1)).fn i ds S = callF TC GA 1000 (k + 8) i ds S := fun _ _ _ => rfl
  generalize hS1 : S ++ [o] = S1 at e1 dc
  generalize S.length = n at e1 dc
  generalize CC (k + 1) = C at fe
  have st1 : RA.execS TC C (.asg 2 (.call 34 [(.var 0), (.var 1)])) [some (.ro (ns.map D.int)), some (.int (spot : Int)), a, b, c] S = .ok (.nx [some (.ro (ns.map D.int)), some (.int (spot : Int)), some (.ref n), b, c]) S1 := by
    simp only [↓ev_con, ↓ev_var, ↓ev_and, ↓ev_or, ↓ev_not, ↓ev_neg, ↓ev_bin, ↓ev_cmp, ↓ev_chain, ↓ev_ife, ↓ev_sub, ↓ev_slice, ↓ev_rev, ↓ev_ofInt, ↓ev_tup, ↓ev_lst, ↓ev_new, ↓ev_call, ↓ev_callv, ↓ev_bcall, ↓es_nil, ↓es_cons, ↓xs_nil, ↓xs_cons, ↓st_ret, ↓st_asg, ↓sx_asgT, ↓sx_par, ↓st_exp, ↓st_ite, ↓sx_seti, ↓sx_pass, rk, lk, fin_nx, fin_ret, fin_exc, List.getElem?_cons_zero, List.getElem?_cons_succ, List.set_cons_zero, List.set_cons_succ, truth_bl, cm_eq, cm_ne, cm_lt, cm_le, cm_gt, cm_ge, cm_is, cm_isn, cm_in, cm_nin, bc_len, bc_tuple, bc_list, bc_int, bc_repr, bc_isinst, Option.map_some, Option.bind_some, ↓reduceIte, Bool.false_eq_true, Bool.not_true, Bool.not_false, Bool.true_eq_false, fe, e1]
  have es : RA.evalEs C [(.con (.int ((6 : Nat) : Int)))] [some (.ro (ns.map D.int)), some (.int (spot : Int)), some (.ref n), b, c] S1 = .ok [.int ((6 : Nat) : Int)] S1 := rfl
  obtain ⟨σ', S2, e2, ⟨v, hv⟩, d2⟩ := forL_inv (step := turn TC C false [3] Bin) (g := fun S => still S ((List.range 6).map fun q : Nat => D.int (q : Int), none))
    (fun i σ S => (∃ v, σ = [some (.ro (ns.map D.int)), some (.int (spot : Int)), some (.ref n), v, c]) ∧ Dice S n (16 * i)) ((List.range 6).map fun q : Nat => D.int (q : Int)) 0 [some (.ro (ns.map D.int)), some (.int (spot : Int)), some (.ref n), b, c] S1 ⟨⟨b, rfl⟩, dc⟩ (fun i d σ S hi ⟨⟨v, hv⟩, h1⟩ => by
      subst hv
      have hil : i < 6 := by
        have := (List.getElem?_eq_some_iff.mp hi).1
        simpa using this
      obtain ⟨S4, e4, d4⟩ := right (k := k) h1 (by omega)
      refine ⟨rfl, [some (.ro (ns.map D.int)), some (.int (spot : Int)), some (.ref n), some d, c], S4, ?_, ⟨some d, rfl⟩, d4.more (by omega)⟩
      have tg : target [some (.ro (ns.map D.int)), some (.int (spot : Int)), some (.ref n), v, c] false [3] d = some [some (.ro (ns.map D.int)), some (.int (spot : Int)), some (.ref n), some d, c] := rfl
      rw [turn_eq tg]
      unfold Bin
      simp only [↓ev_con, ↓ev_var, ↓ev_and, ↓ev_or, ↓ev_not, ↓ev_neg, ↓ev_bin, ↓ev_cmp, ↓ev_chain, ↓ev_ife, ↓ev_sub, ↓ev_slice, ↓ev_rev, ↓ev_ofInt, ↓ev_tup, ↓ev_lst, ↓ev_new, ↓ev_call, ↓ev_callv, ↓ev_bcall, ↓es_nil, ↓es_cons, ↓xs_nil, ↓xs_cons, ↓st_ret, ↓st_asg, ↓sx_asgT, ↓sx_par, ↓st_exp, ↓st_ite, ↓sx_seti, ↓sx_pass, rk, lk, fin_nx, fin_ret, fin_exc, List.getElem?_cons_zero, List.getElem?_cons_succ, List.set_cons_zero, List.set_cons_succ, truth_bl, cm_eq, cm_ne, cm_lt, cm_le, cm_gt, cm_ge, cm_is, cm_isn, cm_in, cm_nin, bc_len, bc_tuple, bc_list, bc_int, bc_repr, bc_isinst, Option.map_some, Option.bind_some, ↓reduceIte, Bool.false_eq_true, Bool.not_true, Bool.not_false, Bool.true_eq_false, fe, e4])
    (fun _ _ _ => rfl)
  subst hv
  have st2 := st_loop (T := TC) (C := C) (tup := false) (tgt := [3]) (body := Bin) es (rng1 (S := S1) (b := 6) (by decide))
  rw [e2] at st2
  refine ⟨some (.ref n), v, S2, ?_⟩
  unfold Bout
  simp only [↓xs_nil, ↓xs_cons, rk, fin_nx, fin_ret, fin_exc, ↓st1, ↓st2]
theorem f1 (k : Nat) : tells (k + 7) 24 [.int 120, .tup (rep 120 [.int 1])] = (true, some ("fine" : Str)) := by kernel_rfl
theorem f2 (k : Nat) : tells (k + 7) 24 [.int 1, .tup [.int 0]] = (true, some ("fine" : Str)) := by kernel_rfl
theorem f3 (k : Nat) : tells (k + 7) 25 [.int 3, .tup []] = (true, some ("fine" : Str)) := by kernel_rfl
theorem law_all {k : Nat} {ns : List Int} (hl : ns.length ≤ 63) : ∃ S, callF TC GA 1000 (k + 9) 41 [.ro (ns.map D.int)] [] = .ok (.bl true) S := by
  rw [callF_eq (fn := F41) rfl rfl, U_body]
  have s1 : RA.start F41.ns [.ro (ns.map D.int)] = [some (.ro (ns.map D.int)), none, none, none, none] := rfl
  rw [s1]
  have ex : ∃ m : Nat, m ≤ 6 ∧ RA.evalEs (CC (k + 1)) [(.bcall .max [(.con (.int 1)), (.bcall .min [(.con (.int 6)), (.bcall .len [(.var 0)])])])] [some (.ro (ns.map D.int)), none, none, none, none] [] = .ok [.int (m : Int)] [] := by
    refine ⟨(if (if ((ns.map D.int).length : Int) < 6 then ((ns.map D.int).length : Int) else 6) > 1 then (if ((ns.map D.int).length : Int) < 6 then ((ns.map D.int).length : Int) else 6) else 1 : Int).toNat, by split <;> split <;> omega, ?_⟩
    have z : ((if (if ((ns.map D.int).length : Int) < 6 then ((ns.map D.int).length : Int) else 6) > 1 then (if ((ns.map D.int).length : Int) < 6 then ((ns.map D.int).length : Int) else 6) else 1 : Int).toNat : Int) = (if (if ((ns.map D.int).length : Int) < 6 then ((ns.map D.int).length : Int) else 6) > 1 then (if ((ns.map D.int).length : Int) < 6 then ((ns.map D.int).length : Int) else 6) else 1 : Int) :=
      Int.toNat_of_nonneg (by split <;> split <;> omega)
    rw [z]
    rfl
  obtain ⟨m, hm, es⟩ := ex
  obtain ⟨σ', S, e, ⟨v, u, w, hv⟩⟩ := forL_inv (step := turn TC (CC (k + 1)) false [1] Bout) (g := fun S => still S ((List.range m).map fun q : Nat => D.int (q : Int), none)) (fun _ σ _ => ∃ v u w, σ = [some (.ro (ns.map D.int)), v, u, w, none])
    ((List.range m).map fun q : Nat => D.int (q : Int)) 0 [some (.ro (ns.map D.int)), none, none, none, none] [] ⟨none, none, none, rfl⟩ (fun i d σ S hi ⟨v, u, w, hv⟩ => ⟨rfl, by
      subst hv
      have hil : i < m := by
        have := (List.getElem?_eq_some_iff.mp hi).1
        rwa [List.length_map, List.length_range] at this
      rw [List.getElem?_map, List.getElem?_range hil] at hi
      have hd : d = .int (i : Int) := (Option.some.inj hi).symm
      subst hd
      obtain ⟨u', v', S', e⟩ := step_law (k := k) (spot := i) (ns := ns) (S := S) (a := u) (b := w) (c := none) (by omega)
      exact ⟨_, _, (turn_eq rfl).trans e, _, _, _, rfl⟩⟩) (fun _ _ _ => rfl)
  subst hv
  have st1 := st_loop (T := TC) (C := CC (k + 1)) (tup := false) (tgt := [1]) (body := Bout) es (rng1 (by omega))
  rw [e] at st1
  obtain ⟨G1, g1⟩ := tell (k := k + 1) (σ := [some (.ro (ns.map D.int)), v, u, w, none]) (b := (.call 24 [(.con (.int 120)), (.bin .mul (.tup [(.con (.int 1))]) (.con (.int 120)))])) (fun S => rfl) (f1 (k + 1)) S
  obtain ⟨G2, g2⟩ := tell (k := k + 1) (σ := [some (.ro (ns.map D.int)), v, u, w, none]) (b := (.call 24 [(.con (.int 1)), (.tup [(.con (.int 0))])])) (fun S => rfl) (f2 (k + 1)) (S ++ G1)
  obtain ⟨G3, g3⟩ := tell (k := k + 1) (σ := [some (.ro (ns.map D.int)), v, u, w, none]) (b := (.call 25 [(.con (.int 3)), (.tup [])])) (fun S => rfl) (f3 (k + 1)) (S ++ G1 ++ G2)
  generalize S ++ G1 ++ G2 ++ G3 = S3 at g3
  have st2 : RA.execS TC (CC (k + 1)) U1 [some (.ro (ns.map D.int)), v, u, w, none] S = .ok (.nx [some (.ro (ns.map D.int)), v, u, w, some (.vl [.str "fine", .str "fine", .str "fine"])]) S3 := by
    unfold U1
    rw [st_asg, ev_lst, es_cons, g1, rk, es_cons, g2, rk, es_cons, g3, rk, es_nil, rk, rk, rk, rk, rk]
    rfl
  have st3 : RA.execS TC (CC (k + 1)) U2 [some (.ro (ns.map D.int)), v, u, w, some (.vl [.str "fine", .str "fine", .str "fine"])] S3 = .ok (.ret (.bl true)) S3 := by kernel_rfl
  have E : ∀ {s : RA.St} {rest : List RA.St} {σ σ' : Sig} {S S' : Store}, RA.execS TC (CC (k + 1)) s σ S = .ok (.nx σ') S' → RA.execs TC (CC (k + 1)) (s :: rest) σ S = RA.execs TC (CC (k + 1)) rest σ' S' := fun h => by rw [xs_cons, h, rk]
  have k3 : RA.execs TC (CC (k + 1)) [U2] [some (.ro (ns.map D.int)), v, u, w, some (.vl [.str "fine", .str "fine", .str "fine"])] S3 = .ok (.ret (.bl true)) S3 := by rw [xs_cons, st3, rk]
  have k2 : RA.execs TC (CC (k + 1)) [U1, U2] [some (.ro (ns.map D.int)), v, u, w, none] S = .ok (.ret (.bl true)) S3 := by rw [E st2, k3]
  have k1 : RA.execs TC (CC (k + 1)) [U0, U1, U2] [some (.ro (ns.map D.int)), none, none, none, none] [] = .ok (.ret (.bl true)) S3 := by rw [E (s := U0) st1, k2]
  have ce : CC (k + 1) = ora1 TC GA (callF TC GA 1000 (k + 8)) 1000 := rfl
  rw [ce] at k1
  exact ⟨S3, by rw [k1]; rfl⟩
end Law

set_option Elab.async false
set_option linter.all false
set_option maxRecDepth 100000
set_option maxHeartbeats 4000000
set_option autoImplicit false
namespace Law
open PySem PySem.Spec PyProof.Rows L2 LamX RA
def WT : Nat := 1000
theorem pure (ns : List Int) (hl : ns.length ≤ 63) (hb : ∀ z ∈ ns, Builtin.Int.intBits z ≤ 1048576) : ∃ S, callF TC GA WT 20 41 [.ro (ns.map D.int)] [] = .ok (.bl true) S := law_all (k := 11) hl
theorem head {w : World} {K : PySem.W.Frag} {mg : Str → Option Value} {h : Heap} {fa : Addr} (X : K.In h) (G0 : h.Ns mainGlobals mg) (hfa : mg "law" = some (.ref fa)) {f0 f1 f2 f3 f4 f5 f6 f7 f8 f9 f10 f11 f12 f13 f14 f15 f16 f17 f18 f19 f20 f21 f22 f23 f24 f25 f26 f27 f28 f29 f30 f31 f32 f33 f34 f35 f36 f37 f38 f39 f40 f41 C0 C1 C2 C3 C4 : Addr}
    {od0 an0 od1 an1 od2 an2 od3 an3 od4 an4 od5 an5 od6 an6 od7 an7 od8 an8 od9 an9 od10 an10 od11 an11 od12 an12 od13 an13 od14 an14 od15 an15 od16 an16 od17 an17 od18 an18 od19 an19 od20 an20 od21 an21 od22 an22 od23 an23 od24 an24 od25 an25 od26 an26 od27 an27 od28 an28 od29 an29 od30 an30 od31 an31 od32 an32 od33 an33 od34 an34 od35 an35 od36 an36 od37 an37 od38 an38 od39 an39 od40 an40 od41 an41 : Option Addr} {sl0 sl1 sl2 sl3 sl4 sl5 sl6 sl7 sl8 sl9 sl10 sl11 sl12 sl13 sl14 sl15 sl16 sl17 sl18 sl19 sl20 sl21 sl22 sl23 sl24 sl25 sl26 sl27 sl28 sl29 sl30 sl31 sl32 sl33 sl34 sl35 sl36 sl37 sl38 sl39 sl40 sl41 : Array (Option Value)} {oc0 kV0 dc0 pm0 cd0 ct0 oc1 kV1 dc1 pm1 cd1 ct1 oc2 kV2 dc2 pm2 cd2 ct2 oc3 kV3 dc3 pm3 cd3 ct3 oc4 kV4 dc4 pm4 cd4 ct4 oc5 kV5 dc5 pm5 cd5 ct5 oc6 kV6 dc6 pm6 cd6 ct6 oc7 kV7 dc7 pm7 cd7 ct7 oc8 kV8 dc8 pm8 cd8 ct8 oc9 kV9 dc9 pm9 cd9 ct9 oc10 kV10 dc10 pm10 cd10 ct10 oc11 kV11 dc11 pm11 cd11 ct11 oc12 kV12 dc12 pm12 cd12 ct12 oc13 kV13 dc13 pm13 cd13 ct13 oc14 kV14 dc14 pm14 cd14 ct14 oc15 kV15 dc15 pm15 cd15 ct15 oc16 kV16 dc16 pm16 cd16 ct16 oc17 kV17 dc17 pm17 cd17 ct17 oc18 kV18 dc18 pm18 cd18 ct18 oc19 kV19 dc19 pm19 cd19 ct19 oc20 kV20 dc20 pm20 cd20 ct20 oc21 kV21 dc21 pm21 cd21 ct21 oc22 kV22 dc22 pm22 cd22 ct22 oc23 kV23 dc23 pm23 cd23 ct23 oc24 kV24 dc24 pm24 cd24 ct24 oc25 kV25 dc25 pm25 cd25 ct25 oc26 kV26 dc26 pm26 cd26 ct26 oc27 kV27 dc27 pm27 cd27 ct27 oc28 kV28 dc28 pm28 cd28 ct28 oc29 kV29 dc29 pm29 cd29 ct29 oc30 kV30 dc30 pm30 cd30 ct30 oc31 kV31 dc31 pm31 cd31 ct31 oc32 kV32 dc32 pm32 cd32 ct32 oc33 kV33 dc33 pm33 cd33 ct33 oc34 kV34 dc34 pm34 cd34 ct34 oc35 kV35 dc35 pm35 cd35 ct35 oc36 kV36 dc36 pm36 cd36 ct36 oc37 kV37 dc37 pm37 cd37 ct37 oc38 kV38 dc38 pm38 cd38 ct38 oc39 kV39 dc39 pm39 cd39 ct39 oc40 kV40 dc40 pm40 cd40 ct40 oc41 kV41 dc41 pm41 cd41 ct41 : Value} {tk0 tk1 tk2 : Tok}
    (a0 : PySem.W.nsIn K mainGlobals "is_integer" = some (some (.ref f0))) (l0 : K.lookup f0 = some ⟨oc0, od0, .func (PySem.W.fnOf "is_integer" "is_integer" (defArgs (top 10)) (defBody (top 10)) (defScope (top 10)) .none kV0 dc0 pm0 an0 cd0 ct0), sl0⟩) (c0 : PySem.W.codeIn K cd0 "is_integer" = true) (k0 : PySem.W.keepIn K (.ref f0) = true)
    (a1 : PySem.W.nsIn K mainGlobals "require_width" = some (some (.ref f1))) (l1 : K.lookup f1 = some ⟨oc1, od1, .func (PySem.W.fnOf "require_width" "require_width" (defArgs (top 11)) (defBody (top 11)) (defScope (top 11)) .none kV1 dc1 pm1 an1 cd1 ct1), sl1⟩) (c1 : PySem.W.codeIn K cd1 "require_width" = true) (k1 : PySem.W.keepIn K (.ref f1) = true)
    (a2 : PySem.W.nsIn K mainGlobals "is_plain_row" = some (some (.ref f2))) (l2 : K.lookup f2 = some ⟨oc2, od2, .func (PySem.W.fnOf "is_plain_row" "is_plain_row" (defArgs (top 12)) (defBody (top 12)) (defScope (top 12)) .none kV2 dc2 pm2 an2 cd2 ct2), sl2⟩) (c2 : PySem.W.codeIn K cd2 "is_plain_row" = true) (k2 : PySem.W.keepIn K (.ref f2) = true)
    (a3 : PySem.W.nsIn K mainGlobals "lead_in" = some (some (.ref f3))) (l3 : K.lookup f3 = some ⟨oc3, od3, .func (PySem.W.fnOf "lead_in" "lead_in" (defArgs (top 13)) (defBody (top 13)) (defScope (top 13)) .none kV3 dc3 pm3 an3 cd3 ct3), sl3⟩) (c3 : PySem.W.codeIn K cd3 "lead_in" = true) (k3 : PySem.W.keepIn K (.ref f3) = true)
    (a4 : PySem.W.nsIn K mainGlobals "common_share" = some (some (.ref f4))) (l4 : K.lookup f4 = some ⟨oc4, od4, .func (PySem.W.fnOf "common_share" "common_share" (defArgs (top 14)) (defBody (top 14)) (defScope (top 14)) .none kV4 dc4 pm4 an4 cd4 ct4), sl4⟩) (c4 : PySem.W.codeIn K cd4 "common_share" = true) (k4 : PySem.W.keepIn K (.ref f4) = true)
    (a5 : PySem.W.nsIn K mainGlobals "lowest_row" = some (some (.ref f5))) (l5 : K.lookup f5 = some ⟨oc5, od5, .func (PySem.W.fnOf "lowest_row" "lowest_row" (defArgs (top 15)) (defBody (top 15)) (defScope (top 15)) .none kV5 dc5 pm5 an5 cd5 ct5), sl5⟩) (c5 : PySem.W.codeIn K cd5 "lowest_row" = true) (k5 : PySem.W.keepIn K (.ref f5) = true)
    (a6 : PySem.W.nsIn K mainGlobals "is_plain_lot" = some (some (.ref f6))) (l6 : K.lookup f6 = some ⟨oc6, od6, .func (PySem.W.fnOf "is_plain_lot" "is_plain_lot" (defArgs (top 16)) (defBody (top 16)) (defScope (top 16)) .none kV6 dc6 pm6 an6 cd6 ct6), sl6⟩) (c6 : PySem.W.codeIn K cd6 "is_plain_lot" = true) (k6 : PySem.W.keepIn K (.ref f6) = true)
    (a7 : PySem.W.nsIn K mainGlobals "dot" = some (some (.ref f7))) (l7 : K.lookup f7 = some ⟨oc7, od7, .func (PySem.W.fnOf "dot" "dot" (defArgs (top 17)) (defBody (top 17)) (defScope (top 17)) .none kV7 dc7 pm7 an7 cd7 ct7), sl7⟩) (c7 : PySem.W.codeIn K cd7 "dot" = true) (k7 : PySem.W.keepIn K (.ref f7) = true)
    (a8 : PySem.W.nsIn K mainGlobals "sum_of_rows" = some (some (.ref f8))) (l8 : K.lookup f8 = some ⟨oc8, od8, .func (PySem.W.fnOf "sum_of_rows" "sum_of_rows" (defArgs (top 18)) (defBody (top 18)) (defScope (top 18)) .none kV8 dc8 pm8 an8 cd8 ct8), sl8⟩) (c8 : PySem.W.codeIn K cd8 "sum_of_rows" = true) (k8 : PySem.W.keepIn K (.ref f8) = true)
    (a9 : PySem.W.nsIn K mainGlobals "times_row" = some (some (.ref f9))) (l9 : K.lookup f9 = some ⟨oc9, od9, .func (PySem.W.fnOf "times_row" "times_row" (defArgs (top 19)) (defBody (top 19)) (defScope (top 19)) .none kV9 dc9 pm9 an9 cd9 ct9), sl9⟩) (c9 : PySem.W.codeIn K cd9 "times_row" = true) (k9 : PySem.W.keepIn K (.ref f9) = true)
    (a10 : PySem.W.nsIn K mainGlobals "less_by" = some (some (.ref f10))) (l10 : K.lookup f10 = some ⟨oc10, od10, .func (PySem.W.fnOf "less_by" "less_by" (defArgs (top 20)) (defBody (top 20)) (defScope (top 20)) .none kV10 dc10 pm10 an10 cd10 ct10), sl10⟩) (c10 : PySem.W.codeIn K cd10 "less_by" = true) (k10 : PySem.W.keepIn K (.ref f10) = true)
    (a11 : PySem.W.nsIn K mainGlobals "rest_by" = some (some (.ref f11))) (l11 : K.lookup f11 = some ⟨oc11, od11, .func (PySem.W.fnOf "rest_by" "rest_by" (defArgs (top 21)) (defBody (top 21)) (defScope (top 21)) .none kV11 dc11 pm11 an11 cd11 ct11), sl11⟩) (c11 : PySem.W.codeIn K cd11 "rest_by" = true) (k11 : PySem.W.keepIn K (.ref f11) = true)
    (a12 : PySem.W.nsIn K mainGlobals "does_hold" = some (some (.ref f12))) (l12 : K.lookup f12 = some ⟨oc12, od12, .func (PySem.W.fnOf "does_hold" "does_hold" (defArgs (top 22)) (defBody (top 22)) (defScope (top 22)) .none kV12 dc12 pm12 an12 cd12 ct12), sl12⟩) (c12 : PySem.W.codeIn K cd12 "does_hold" = true) (k12 : PySem.W.keepIn K (.ref f12) = true)
    (a13 : PySem.W.nsIn K mainGlobals "with_row" = some (some (.ref f13))) (l13 : K.lookup f13 = some ⟨oc13, od13, .func (PySem.W.fnOf "with_row" "with_row" (defArgs (top 23)) (defBody (top 23)) (defScope (top 23)) .none kV13 dc13 pm13 an13 cd13 ct13), sl13⟩) (c13 : PySem.W.codeIn K cd13 "with_row" = true) (k13 : PySem.W.keepIn K (.ref f13) = true)
    (a14 : PySem.W.nsIn K mainGlobals "lot_in" = some (some (.ref f14))) (l14 : K.lookup f14 = some ⟨oc14, od14, .func (PySem.W.fnOf "lot_in" "lot_in" (defArgs (top 24)) (defBody (top 24)) (defScope (top 24)) .none kV14 dc14 pm14 an14 cd14 ct14), sl14⟩) (c14 : PySem.W.codeIn K cd14 "lot_in" = true) (k14 : PySem.W.keepIn K (.ref f14) = true)
    (a15 : PySem.W.nsIn K mainGlobals "apart_in" = some (some (.ref f15))) (l15 : K.lookup f15 = some ⟨oc15, od15, .func (PySem.W.fnOf "apart_in" "apart_in" (defArgs (top 25)) (defBody (top 25)) (defScope (top 25)) .none kV15 dc15 pm15 an15 cd15 ct15), sl15⟩) (c15 : PySem.W.codeIn K cd15 "apart_in" = true) (k15 : PySem.W.keepIn K (.ref f15) = true)
    (a16 : PySem.W.nsIn K mainGlobals "is_row" = some (some (.ref f16))) (l16 : K.lookup f16 = some ⟨oc16, od16, .func (PySem.W.fnOf "is_row" "is_row" (defArgs (top 26)) (defBody (top 26)) (defScope (top 26)) .none kV16 dc16 pm16 an16 cd16 ct16), sl16⟩) (c16 : PySem.W.codeIn K cd16 "is_row" = true) (k16 : PySem.W.keepIn K (.ref f16) = true)
    (a17 : PySem.W.nsIn K mainGlobals "is_lot" = some (some (.ref f17))) (l17 : K.lookup f17 = some ⟨oc17, od17, .func (PySem.W.fnOf "is_lot" "is_lot" (defArgs (top 27)) (defBody (top 27)) (defScope (top 27)) .none kV17 dc17 pm17 an17 cd17 ct17), sl17⟩) (c17 : PySem.W.codeIn K cd17 "is_lot" = true) (k17 : PySem.W.keepIn K (.ref f17) = true)
    (a18 : PySem.W.nsIn K mainGlobals "require_row" = some (some (.ref f18))) (l18 : K.lookup f18 = some ⟨oc18, od18, .func (PySem.W.fnOf "require_row" "require_row" (defArgs (top 28)) (defBody (top 28)) (defScope (top 28)) .none kV18 dc18 pm18 an18 cd18 ct18), sl18⟩) (c18 : PySem.W.codeIn K cd18 "require_row" = true) (k18 : PySem.W.keepIn K (.ref f18) = true)
    (a19 : PySem.W.nsIn K mainGlobals "require_rows" = some (some (.ref f19))) (l19 : K.lookup f19 = some ⟨oc19, od19, .func (PySem.W.fnOf "require_rows" "require_rows" (defArgs (top 29)) (defBody (top 29)) (defScope (top 29)) .none kV19 dc19 pm19 an19 cd19 ct19), sl19⟩) (c19 : PySem.W.codeIn K cd19 "require_rows" = true) (k19 : PySem.W.keepIn K (.ref f19) = true)
    (a20 : PySem.W.nsIn K mainGlobals "require_lot" = some (some (.ref f20))) (l20 : K.lookup f20 = some ⟨oc20, od20, .func (PySem.W.fnOf "require_lot" "require_lot" (defArgs (top 30)) (defBody (top 30)) (defScope (top 30)) .none kV20 dc20 pm20 an20 cd20 ct20), sl20⟩) (c20 : PySem.W.codeIn K cd20 "require_lot" = true) (k20 : PySem.W.keepIn K (.ref f20) = true)
    (a21 : PySem.W.nsIn K mainGlobals "row_plus" = some (some (.ref f21))) (l21 : K.lookup f21 = some ⟨oc21, od21, .func (PySem.W.fnOf "row_plus" "row_plus" (defArgs (top 31)) (defBody (top 31)) (defScope (top 31)) .none kV21 dc21 pm21 an21 cd21 ct21), sl21⟩) (c21 : PySem.W.codeIn K cd21 "row_plus" = true) (k21 : PySem.W.keepIn K (.ref f21) = true)
    (a22 : PySem.W.nsIn K mainGlobals "row_times" = some (some (.ref f22))) (l22 : K.lookup f22 = some ⟨oc22, od22, .func (PySem.W.fnOf "row_times" "row_times" (defArgs (top 32)) (defBody (top 32)) (defScope (top 32)) .none kV22 dc22 pm22 an22 cd22 ct22), sl22⟩) (c22 : PySem.W.codeIn K cd22 "row_times" = true) (k22 : PySem.W.keepIn K (.ref f22) = true)
    (a23 : PySem.W.nsIn K mainGlobals "product" = some (some (.ref f23))) (l23 : K.lookup f23 = some ⟨oc23, od23, .func (PySem.W.fnOf "product" "product" (defArgs (top 33)) (defBody (top 33)) (defScope (top 33)) .none kV23 dc23 pm23 an23 cd23 ct23), sl23⟩) (c23 : PySem.W.codeIn K cd23 "product" = true) (k23 : PySem.W.keepIn K (.ref f23) = true)
    (a24 : PySem.W.nsIn K mainGlobals "lowest" = some (some (.ref f24))) (l24 : K.lookup f24 = some ⟨oc24, od24, .func (PySem.W.fnOf "lowest" "lowest" (defArgs (top 34)) (defBody (top 34)) (defScope (top 34)) .none kV24 dc24 pm24 an24 cd24 ct24), sl24⟩) (c24 : PySem.W.codeIn K cd24 "lowest" = true) (k24 : PySem.W.keepIn K (.ref f24) = true)
    (a25 : PySem.W.nsIn K mainGlobals "lot_of" = some (some (.ref f25))) (l25 : K.lookup f25 = some ⟨oc25, od25, .func (PySem.W.fnOf "lot_of" "lot_of" (defArgs (top 35)) (defBody (top 35)) (defScope (top 35)) .none kV25 dc25 pm25 an25 cd25 ct25), sl25⟩) (c25 : PySem.W.codeIn K cd25 "lot_of" = true) (k25 : PySem.W.keepIn K (.ref f25) = true)
    (a26 : PySem.W.nsIn K mainGlobals "holds" = some (some (.ref f26))) (l26 : K.lookup f26 = some ⟨oc26, od26, .func (PySem.W.fnOf "holds" "holds" (defArgs (top 36)) (defBody (top 36)) (defScope (top 36)) .none kV26 dc26 pm26 an26 cd26 ct26), sl26⟩) (c26 : PySem.W.codeIn K cd26 "holds" = true) (k26 : PySem.W.keepIn K (.ref f26) = true)
    (a27 : PySem.W.nsIn K mainGlobals "require_two_lots" = some (some (.ref f27))) (l27 : K.lookup f27 = some ⟨oc27, od27, .func (PySem.W.fnOf "require_two_lots" "require_two_lots" (defArgs (top 37)) (defBody (top 37)) (defScope (top 37)) .none kV27 dc27 pm27 an27 cd27 ct27), sl27⟩) (c27 : PySem.W.codeIn K cd27 "require_two_lots" = true) (k27 : PySem.W.keepIn K (.ref f27) = true)
    (a28 : PySem.W.nsIn K mainGlobals "joined_lots" = some (some (.ref f28))) (l28 : K.lookup f28 = some ⟨oc28, od28, .func (PySem.W.fnOf "joined_lots" "joined_lots" (defArgs (top 38)) (defBody (top 38)) (defScope (top 38)) .none kV28 dc28 pm28 an28 cd28 ct28), sl28⟩) (c28 : PySem.W.codeIn K cd28 "joined_lots" = true) (k28 : PySem.W.keepIn K (.ref f28) = true)
    (a29 : PySem.W.nsIn K mainGlobals "met_lots" = some (some (.ref f29))) (l29 : K.lookup f29 = some ⟨oc29, od29, .func (PySem.W.fnOf "met_lots" "met_lots" (defArgs (top 39)) (defBody (top 39)) (defScope (top 39)) .none kV29 dc29 pm29 an29 cd29 ct29), sl29⟩) (c29 : PySem.W.codeIn K cd29 "met_lots" = true) (k29 : PySem.W.keepIn K (.ref f29) = true)
    (a30 : PySem.W.nsIn K mainGlobals "rows_apart" = some (some (.ref f30))) (l30 : K.lookup f30 = some ⟨oc30, od30, .func (PySem.W.fnOf "rows_apart" "rows_apart" (defArgs (top 40)) (defBody (top 40)) (defScope (top 40)) .none kV30 dc30 pm30 an30 cd30 ct30), sl30⟩) (c30 : PySem.W.codeIn K cd30 "rows_apart" = true) (k30 : PySem.W.keepIn K (.ref f30) = true)
    (a31 : PySem.W.nsIn K mainGlobals "sum_in" = some (some (.ref f31))) (l31 : K.lookup f31 = some ⟨oc31, od31, .func (PySem.W.fnOf "sum_in" "sum_in" (defArgs (top 41)) (defBody (top 41)) (defScope (top 41)) .none kV31 dc31 pm31 an31 cd31 ct31), sl31⟩) (c31 : PySem.W.codeIn K cd31 "sum_in" = true) (k31 : PySem.W.keepIn K (.ref f31) = true)
    (a32 : PySem.W.nsIn K mainGlobals "span_paper" = some (some (.ref f32))) (l32 : K.lookup f32 = some ⟨oc32, od32, .func (PySem.W.fnOf "span_paper" "span_paper" (defArgs (top 42)) (defBody (top 42)) (defScope (top 42)) .none kV32 dc32 pm32 an32 cd32 ct32), sl32⟩) (c32 : PySem.W.codeIn K cd32 "span_paper" = true) (k32 : PySem.W.keepIn K (.ref f32) = true)
    (a33 : PySem.W.nsIn K mainGlobals "is_span_paper" = some (some (.ref f33))) (l33 : K.lookup f33 = some ⟨oc33, od33, .func (PySem.W.fnOf "is_span_paper" "is_span_paper" (defArgs (top 43)) (defBody (top 43)) (defScope (top 43)) .none kV33 dc33 pm33 an33 cd33 ct33), sl33⟩) (c33 : PySem.W.codeIn K cd33 "is_span_paper" = true) (k33 : PySem.W.keepIn K (.ref f33) = true)
    (a34 : PySem.W.nsIn K mainGlobals "_law_dice" = some (some (.ref f34))) (l34 : K.lookup f34 = some ⟨oc34, od34, .func (PySem.W.fnOf "_law_dice" "_law_dice" (defArgs (top 45)) (defBody (top 45)) (defScope (top 45)) .none kV34 dc34 pm34 an34 cd34 ct34), sl34⟩) (c34 : PySem.W.codeIn K cd34 "_law_dice" = true) (k34 : PySem.W.keepIn K (.ref f34) = true)
    (a35 : PySem.W.nsIn K mainGlobals "_law_roll" = some (some (.ref f35))) (l35 : K.lookup f35 = some ⟨oc35, od35, .func (PySem.W.fnOf "_law_roll" "_law_roll" (defArgs (top 46)) (defBody (top 46)) (defScope (top 46)) .none kV35 dc35 pm35 an35 cd35 ct35), sl35⟩) (c35 : PySem.W.codeIn K cd35 "_law_roll" = true) (k35 : PySem.W.keepIn K (.ref f35) = true)
    (a36 : PySem.W.nsIn K mainGlobals "_law_pick" = some (some (.ref f36))) (l36 : K.lookup f36 = some ⟨oc36, od36, .func (PySem.W.fnOf "_law_pick" "_law_pick" (defArgs (top 47)) (defBody (top 47)) (defScope (top 47)) .none kV36 dc36 pm36 an36 cd36 ct36), sl36⟩) (c36 : PySem.W.codeIn K cd36 "_law_pick" = true) (k36 : PySem.W.keepIn K (.ref f36) = true)
    (a37 : PySem.W.nsIn K mainGlobals "_law_met" = some (some (.ref f37))) (l37 : K.lookup f37 = some ⟨oc37, od37, .func (PySem.W.fnOf "_law_met" "_law_met" (defArgs (top 48)) (defBody (top 48)) (defScope (top 48)) .none kV37 dc37 pm37 an37 cd37 ct37), sl37⟩) (c37 : PySem.W.codeIn K cd37 "_law_met" = true) (k37 : PySem.W.keepIn K (.ref f37) = true)
    (a38 : PySem.W.nsIn K mainGlobals "_law_one" = some (some (.ref f38))) (l38 : K.lookup f38 = some ⟨oc38, od38, .func (PySem.W.fnOf "_law_one" "_law_one" (defArgs (top 49)) (defBody (top 49)) (defScope (top 49)) .none kV38 dc38 pm38 an38 cd38 ct38), sl38⟩) (c38 : PySem.W.codeIn K cd38 "_law_one" = true) (k38 : PySem.W.keepIn K (.ref f38) = true)
    (a39 : PySem.W.nsIn K mainGlobals "_law_due" = some (some (.ref f39))) (l39 : K.lookup f39 = some ⟨oc39, od39, .func (PySem.W.fnOf "_law_due" "_law_due" (defArgs (top 50)) (defBody (top 50)) (defScope (top 50)) .none kV39 dc39 pm39 an39 cd39 ct39), sl39⟩) (c39 : PySem.W.codeIn K cd39 "_law_due" = true) (k39 : PySem.W.keepIn K (.ref f39) = true)
    (a40 : PySem.W.nsIn K mainGlobals "_law_right" = some (some (.ref f40))) (l40 : K.lookup f40 = some ⟨oc40, od40, .func (PySem.W.fnOf "_law_right" "_law_right" (defArgs (top 51)) (defBody (top 51)) (defScope (top 51)) .none kV40 dc40 pm40 an40 cd40 ct40), sl40⟩) (c40 : PySem.W.codeIn K cd40 "_law_right" = true) (k40 : PySem.W.keepIn K (.ref f40) = true)
    (a41 : PySem.W.nsIn K mainGlobals "law" = some (some (.ref f41))) (l41 : K.lookup f41 = some ⟨oc41, od41, .func (PySem.W.fnOf "law" "law" (defArgs (top 52)) (defBody (top 52)) (defScope (top 52)) .none kV41 dc41 pm41 an41 cd41 ct41), sl41⟩) (c41 : PySem.W.codeIn K cd41 "law" = true) (k41 : PySem.W.keepIn K (.ref f41) = true)
    (g0 : PySem.W.nsIn K mainGlobals "RotaError" = some (some (.ref C0))) (x0 : PySem.W.excIn K C0 [.type "ValueError", .type "Exception", .type "BaseException", .type "object"] "ValueError.__new__" = true) (kk0 : PySem.W.keepIn K (.ref C0) = true) (b0 : PySem.W.subIn K (.ref C0) (.type "BaseException") = some true) (t0 : PySem.W.typeIn K (.ref C0) = some (.type "type")) (ic0 : PySem.W.isClsIn K C0 = true)
    (g1 : PySem.W.nsIn K mainGlobals "InvalidRow" = some (some (.ref C1))) (x1 : PySem.W.excIn K C1 [.type "ValueError", .type "Exception", .type "BaseException", .type "object"] "ValueError.__new__" = true) (kk1 : PySem.W.keepIn K (.ref C1) = true) (b1 : PySem.W.subIn K (.ref C1) (.type "BaseException") = some true) (t1 : PySem.W.typeIn K (.ref C1) = some (.type "type")) (ic1 : PySem.W.isClsIn K C1 = true)
    (g2 : PySem.W.nsIn K mainGlobals "InvalidLot" = some (some (.ref C2))) (x2 : PySem.W.excIn K C2 [.type "ValueError", .type "Exception", .type "BaseException", .type "object"] "ValueError.__new__" = true) (kk2 : PySem.W.keepIn K (.ref C2) = true) (b2 : PySem.W.subIn K (.ref C2) (.type "BaseException") = some true) (t2 : PySem.W.typeIn K (.ref C2) = some (.type "type")) (ic2 : PySem.W.isClsIn K C2 = true)
    (g3 : PySem.W.nsIn K mainGlobals "InvalidOperation" = some (some (.ref C3))) (x3 : PySem.W.excIn K C3 [.type "ValueError", .type "Exception", .type "BaseException", .type "object"] "ValueError.__new__" = true) (kk3 : PySem.W.keepIn K (.ref C3) = true) (b3 : PySem.W.subIn K (.ref C3) (.type "BaseException") = some true) (t3 : PySem.W.typeIn K (.ref C3) = some (.type "type")) (ic3 : PySem.W.isClsIn K C3 = true)
    {kf4 kc4 kd4 : Addr} {kq4 : Str} {u4_0 u4_1 u4_2 u4_3 u4_4 u4_5 u4_6 u4_7 u4_8 u4_9 u4_10 u4_11 u4_12 u4_13 u4_14 : Pos} {kV4x kD4x kM4x kT4x kL4x kN4x : Value} {ko4 kA4 kE4 kG4 : Option Addr} {ks4 kS4 kU4 : Array (Option Value)} {kW4 : Array Value} {kfile4 : Str} {ktok4 : Tok} {kcd4 : ClassData}
    (g4 : PySem.W.nsIn K mainGlobals "InvalidCount" = some (some (.ref C4))) (kk4 : PySem.W.keepIn K (.ref C4) = true) (b4 : PySem.W.subIn K (.ref C4) (.type "BaseException") = some true) (t4 : PySem.W.typeIn K (.ref C4) = some (.type "type")) (ic4 : PySem.W.isClsIn K C4 = true) (y4a : PySem.W.findIn K (.ref C4) "__init__" = some (some (.ref kf4)))
    (y4b : K.lookup kf4 = some ⟨.type "function", ko4, .func (iniF "__init__" kq4 "self" "given" "given" [.FormattedValue (.Name "given" u4_0) 114 none u4_1, .Constant (.str " is given") 0 u4_2] u4_3 (iniScope "self" "given") .none kV4x kD4x kM4x kA4 (iniArgs "self" "given" u4_4 u4_5) kd4 kT4x kc4 u4_6 u4_7 u4_8 u4_9 u4_10 u4_11 u4_12 u4_13 u4_14), ks4⟩)
    (y4c : PySem.W.codeIn K (.ref kd4) kq4 = true) (y4d : PySem.W.excInitIn K C4 [.type "IndexError", .type "LookupError", .type "Exception", .type "BaseException", .type "object"] "IndexError.__new__" = true) (y4e : (u4_8.endLine == u4_9.line) = true) (y4f : K.lookup kd4 = some ⟨kL4x, kE4, .fields kW4, kS4⟩) (y4g : kW4[2]? = some (.str kfile4 ktok4)) (y4h : ((PySem.Challenge.rw_roundsalike_k14_errors_of_rows.prog.main.file : Str) == kfile4) = true)
    (y4i : K.lookup kc4 = some ⟨kN4x, kG4, .cell (some (.ref C4)), kU4⟩) (y4j : PySem.W.clsIn K C4 = some kcd4) (y4k : PySem.W.mroIn K C4 (.ref C4) = some true) (y4l : (PySem.Challenge.rw_roundsalike_k14_errors_of_rows.prog.main.scope.names.lookup ("super" : Str)).isSome = false) (y4m : PySem.W.nsIn K cStatics "thirdparty.any" = some none)
    (y4n : PySem.W.ks_superIn K C4 C4 "__init__" = some (some (.builtin "IndexError.__init__"))) (y4o : PySem.W.subIn K (.ref C4) (.type "IndexError") = some true) (y4p : PySem.W.findIn K (.ref C4) "__setattr__" = some (some (.builtin "object.__setattr__"))) (y4q : PySem.W.excOver K C4 [.type "IndexError", .type "LookupError", .type "Exception", .type "BaseException", .type "object"] = true) (y4r : PySem.W.takerIn K C4 "given" = some none) (y4s : PySem.W.hasDictIn K C4 = true)
    (y4t : PySem.W.findIn K (.ref C4) "__getattribute__" = some (some (.builtin "BaseException.__getattribute__"))) (y4u : PySem.W.findIn K (.ref C4) "__getattr__" = some none) (y4v : PySem.W.findIn K (.ref C4) "given" = some none)
    (s0_0 : PySem.W.subIn K (.ref C0) (.ref C0) = some true)
    (s0_1 : PySem.W.subIn K (.ref C0) (.ref C1) = some false)
    (s0_2 : PySem.W.subIn K (.ref C0) (.ref C2) = some false)
    (s0_3 : PySem.W.subIn K (.ref C0) (.ref C3) = some false)
    (s0_4 : PySem.W.subIn K (.ref C0) (.ref C4) = some false)
    (s1_0 : PySem.W.subIn K (.ref C1) (.ref C0) = some true)
    (s1_1 : PySem.W.subIn K (.ref C1) (.ref C1) = some true)
    (s1_2 : PySem.W.subIn K (.ref C1) (.ref C2) = some false)
    (s1_3 : PySem.W.subIn K (.ref C1) (.ref C3) = some false)
    (s1_4 : PySem.W.subIn K (.ref C1) (.ref C4) = some false)
    (s2_0 : PySem.W.subIn K (.ref C2) (.ref C0) = some true)
    (s2_1 : PySem.W.subIn K (.ref C2) (.ref C1) = some false)
    (s2_2 : PySem.W.subIn K (.ref C2) (.ref C2) = some true)
    (s2_3 : PySem.W.subIn K (.ref C2) (.ref C3) = some false)
    (s2_4 : PySem.W.subIn K (.ref C2) (.ref C4) = some false)
    (s3_0 : PySem.W.subIn K (.ref C3) (.ref C0) = some true)
    (s3_1 : PySem.W.subIn K (.ref C3) (.ref C1) = some false)
    (s3_2 : PySem.W.subIn K (.ref C3) (.ref C2) = some false)
    (s3_3 : PySem.W.subIn K (.ref C3) (.ref C3) = some true)
    (s3_4 : PySem.W.subIn K (.ref C3) (.ref C4) = some false)
    (s4_0 : PySem.W.subIn K (.ref C4) (.ref C0) = some false)
    (s4_1 : PySem.W.subIn K (.ref C4) (.ref C1) = some false)
    (s4_2 : PySem.W.subIn K (.ref C4) (.ref C2) = some false)
    (s4_3 : PySem.W.subIn K (.ref C4) (.ref C3) = some false)
    (s4_4 : PySem.W.subIn K (.ref C4) (.ref C4) = some true)
    (z0 : PySem.W.nsIn K mainGlobals "MAX_WIDTH" = some (some (.int 120 tk0)))
    (z1 : PySem.W.nsIn K mainGlobals "SUM" = some (some (.str "sum" tk1)))
    (z2 : PySem.W.nsIn K mainGlobals "APART" = some (some (.str "apart" tk2)))
    (n_len : PySem.W.nsIn K mainGlobals "len" = some none)
    (n_abs : PySem.W.nsIn K mainGlobals "abs" = some none)
    (n_max : PySem.W.nsIn K mainGlobals "max" = some none)
    (n_min : PySem.W.nsIn K mainGlobals "min" = some none)
    (n_sum : PySem.W.nsIn K mainGlobals "sum" = some none)
    (n_all : PySem.W.nsIn K mainGlobals "all" = some none)
    (n_any : PySem.W.nsIn K mainGlobals "any" = some none)
    (n_tuple : PySem.W.nsIn K mainGlobals "tuple" = some none)
    (n_list : PySem.W.nsIn K mainGlobals "list" = some none)
    (n_int : PySem.W.nsIn K mainGlobals "int" = some none)
    (n_str : PySem.W.nsIn K mainGlobals "str" = some none)
    (n_repr : PySem.W.nsIn K mainGlobals "repr" = some none)
    (n_isinstance : PySem.W.nsIn K mainGlobals "isinstance" = some none)
    (n_bool : PySem.W.nsIn K mainGlobals "bool" = some none)
    (n_dict : PySem.W.nsIn K mainGlobals "dict" = some none)
    (n_range : PySem.W.nsIn K mainGlobals "range" = some none)
    (n_zip : PySem.W.nsIn K mainGlobals "zip" = some none)
    (n_enumerate : PySem.W.nsIn K mainGlobals "enumerate" = some none)
    (n_sorted : PySem.W.nsIn K mainGlobals "sorted" = some none)
    (n_set : PySem.W.nsIn K mainGlobals "set" = some none)
    (n_super : PySem.W.nsIn K mainGlobals "super" = some none)
    {cc40 ct_40 : Addr} (e40 : cd40 = .ref cc40) {oq40 : Value} {dq40 : Option Addr} {vq40 : Array Value} {sq40 : Array (Option Value)} (q40 : K.lookup cc40 = some ⟨oq40, dq40, .fields vq40, sq40⟩) (p40 : vq40[11]? = some (.ref ct_40)) (h40 : PySem.W.codeHdIn K cc40 ct_40 = true) (m40 : h.get? ct_40 = some (PySem.W.tabObj #[])) (w40 : K.lookup ct_40 = none)
    {cc41 ct_41 : Addr} (e41 : cd41 = .ref cc41) {oq41 : Value} {dq41 : Option Addr} {vq41 : Array Value} {sq41 : Array (Option Value)} (q41 : K.lookup cc41 = some ⟨oq41, dq41, .fields vq41, sq41⟩) (p41 : vq41[11]? = some (.ref ct_41)) (h41 : PySem.W.codeHdIn K cc41 ct_41 = true) (m41 : h.get? ct_41 = some (PySem.W.tabObj #[])) (w41 : K.lookup ct_41 = none)
    (ne40_41 : ct_40 ≠ ct_41)
    : LawP PySem.Challenge.rw_roundsalike_k14_errors_of_rows w K 80 63 mg fa h := by
  have e := hfa.symm.trans (PySem.W.mg_of X G0 a41)
  cases e
  subst e40
  subst e41
  let G : Gd := ⟨K, [(ct_40, ("_law_right" ++ (".<locals>." : Str)) ++ ("<lambda>" : Str)), (ct_41, ("law" ++ (".<locals>." : Str)) ++ ("<lambda>" : Str))], fun i => ([some f0, some f1, some f2, some f3, some f4, some f5, some f6, some f7, some f8, some f9, some f10, some f11, some f12, some f13, some f14, some f15, some f16, some f17, some f18, some f19, some f20, some f21, some f22, some f23, some f24, some f25, some f26, some f27, some f28, some f29, some f30, some f31, some f32, some f33, some f34, some f35, some f36, none, some f38, some f39, some f40, some fa] : List (Option Addr)).getD i none, fun i => ([some C0, some C1, some C2, some C3, some C4] : List (Option Addr)).getD i none⟩
  have mod : ∀ base : Heap, ModOk G K mg MD TC PySem.Challenge.rw_roundsalike_k14_errors_of_rows.prog w base := fun base => ⟨rfl, all_cons (⟨_, .int 120, PySem.W.mg_of X G0 z0, ⟨_, rfl⟩, fun _ _ => .int _⟩) (all_cons (⟨_, .str "sum", PySem.W.mg_of X G0 z1, ⟨_, rfl⟩, fun _ _ => .str _⟩) (all_cons (⟨_, .str "apart", PySem.W.mg_of X G0 z2, ⟨_, rfl⟩, fun _ _ => .str _⟩) (all_nil))), all_cons (⟨f0, PySem.W.mg_of X G0 a0, rfl⟩) (all_cons (⟨f1, PySem.W.mg_of X G0 a1, rfl⟩) (all_cons (⟨f2, PySem.W.mg_of X G0 a2, rfl⟩) (all_cons (⟨f3, PySem.W.mg_of X G0 a3, rfl⟩) (all_cons (⟨f4, PySem.W.mg_of X G0 a4, rfl⟩) (all_cons (⟨f5, PySem.W.mg_of X G0 a5, rfl⟩) (all_cons (⟨f6, PySem.W.mg_of X G0 a6, rfl⟩) (all_cons (⟨f7, PySem.W.mg_of X G0 a7, rfl⟩) (all_cons (⟨f8, PySem.W.mg_of X G0 a8, rfl⟩) (all_cons (⟨f9, PySem.W.mg_of X G0 a9, rfl⟩) (all_cons (⟨f10, PySem.W.mg_of X G0 a10, rfl⟩) (all_cons (⟨f11, PySem.W.mg_of X G0 a11, rfl⟩) (all_cons (⟨f12, PySem.W.mg_of X G0 a12, rfl⟩) (all_cons (⟨f13, PySem.W.mg_of X G0 a13, rfl⟩) (all_cons (⟨f14, PySem.W.mg_of X G0 a14, rfl⟩) (all_cons (⟨f15, PySem.W.mg_of X G0 a15, rfl⟩) (all_cons (⟨f16, PySem.W.mg_of X G0 a16, rfl⟩) (all_cons (⟨f17, PySem.W.mg_of X G0 a17, rfl⟩) (all_cons (⟨f18, PySem.W.mg_of X G0 a18, rfl⟩) (all_cons (⟨f19, PySem.W.mg_of X G0 a19, rfl⟩) (all_cons (⟨f20, PySem.W.mg_of X G0 a20, rfl⟩) (all_cons (⟨f21, PySem.W.mg_of X G0 a21, rfl⟩) (all_cons (⟨f22, PySem.W.mg_of X G0 a22, rfl⟩) (all_cons (⟨f23, PySem.W.mg_of X G0 a23, rfl⟩) (all_cons (⟨f24, PySem.W.mg_of X G0 a24, rfl⟩) (all_cons (⟨f25, PySem.W.mg_of X G0 a25, rfl⟩) (all_cons (⟨f26, PySem.W.mg_of X G0 a26, rfl⟩) (all_cons (⟨f27, PySem.W.mg_of X G0 a27, rfl⟩) (all_cons (⟨f28, PySem.W.mg_of X G0 a28, rfl⟩) (all_cons (⟨f29, PySem.W.mg_of X G0 a29, rfl⟩) (all_cons (⟨f30, PySem.W.mg_of X G0 a30, rfl⟩) (all_cons (⟨f31, PySem.W.mg_of X G0 a31, rfl⟩) (all_cons (⟨f32, PySem.W.mg_of X G0 a32, rfl⟩) (all_cons (⟨f33, PySem.W.mg_of X G0 a33, rfl⟩) (all_cons (⟨f34, PySem.W.mg_of X G0 a34, rfl⟩) (all_cons (⟨f35, PySem.W.mg_of X G0 a35, rfl⟩) (all_cons (⟨f36, PySem.W.mg_of X G0 a36, rfl⟩) (all_cons (⟨f38, PySem.W.mg_of X G0 a38, rfl⟩) (all_cons (⟨f39, PySem.W.mg_of X G0 a39, rfl⟩) (all_cons (⟨f40, PySem.W.mg_of X G0 a40, rfl⟩) (all_cons (⟨fa, PySem.W.mg_of X G0 a41, rfl⟩) (all_nil))))))))))))))))))))))))))))))))))))))))), free_of (mem_cons (PySem.W.mg_none_of X G0 n_len) (mem_cons (PySem.W.mg_none_of X G0 n_abs) (mem_cons (PySem.W.mg_none_of X G0 n_max) (mem_cons (PySem.W.mg_none_of X G0 n_min) (mem_cons (PySem.W.mg_none_of X G0 n_sum) (mem_cons (PySem.W.mg_none_of X G0 n_all) (mem_cons (PySem.W.mg_none_of X G0 n_any) (mem_cons (PySem.W.mg_none_of X G0 n_tuple) (mem_cons (PySem.W.mg_none_of X G0 n_list) (mem_cons (PySem.W.mg_none_of X G0 n_int) (mem_cons (PySem.W.mg_none_of X G0 n_str) (mem_cons (PySem.W.mg_none_of X G0 n_repr) (mem_cons (PySem.W.mg_none_of X G0 n_isinstance) (mem_cons (PySem.W.mg_none_of X G0 n_bool) (mem_cons (PySem.W.mg_none_of X G0 n_dict) (mem_cons (PySem.W.mg_none_of X G0 n_range) (mem_cons (PySem.W.mg_none_of X G0 n_zip) (mem_cons (PySem.W.mg_none_of X G0 n_enumerate) (mem_cons (PySem.W.mg_none_of X G0 n_sorted) (mem_cons (PySem.W.mg_none_of X G0 n_set) (mem_cons (PySem.W.mg_none_of X G0 n_super) (mem_nil)))))))))))))))))))))), all_cons (⟨C0, ⟨PySem.W.mg_of X G0 g0, ⟨_, _, _, _, PySem.F.excBase_ValueError, x0⟩, kk0, b0, t0⟩, rfl⟩) (all_cons (⟨C1, ⟨PySem.W.mg_of X G0 g1, ⟨_, _, _, _, PySem.F.excBase_ValueError, x1⟩, kk1, b1, t1⟩, rfl⟩) (all_cons (⟨C2, ⟨PySem.W.mg_of X G0 g2, ⟨_, _, _, _, PySem.F.excBase_ValueError, x2⟩, kk2, b2, t2⟩, rfl⟩) (all_cons (⟨C3, ⟨PySem.W.mg_of X G0 g3, ⟨_, _, _, _, PySem.F.excBase_ValueError, x3⟩, kk3, b3, t3⟩, rfl⟩) (all_nil)))), fun k c k' c' hk hk' => (AllIx.get (Q := fun k c => ∀ k' c', ([some C0, some C1, some C2, some C3, some C4] : List (Option Addr)).getD k' none = some c' → PySem.W.exmOne K (.ref c) (.ref c') = some (TC.sub k k')) (AllIx.some (fun k' c' h' => AllIx.get (Q := fun k' c' => PySem.W.exmOne K (.ref C0) (.ref c') = some (TC.sub 0 k')) (AllIx.some (exm_mk b0 ic0 t0 s0_0) (AllIx.some (exm_mk b1 ic1 t1 s0_1) (AllIx.some (exm_mk b2 ic2 t2 s0_2) (AllIx.some (exm_mk b3 ic3 t3 s0_3) (AllIx.some (exm_mk b4 ic4 t4 s0_4) (AllIx.nil)))))) k' c' h') (AllIx.some (fun k' c' h' => AllIx.get (Q := fun k' c' => PySem.W.exmOne K (.ref C1) (.ref c') = some (TC.sub 1 k')) (AllIx.some (exm_mk b0 ic0 t0 s1_0) (AllIx.some (exm_mk b1 ic1 t1 s1_1) (AllIx.some (exm_mk b2 ic2 t2 s1_2) (AllIx.some (exm_mk b3 ic3 t3 s1_3) (AllIx.some (exm_mk b4 ic4 t4 s1_4) (AllIx.nil)))))) k' c' h') (AllIx.some (fun k' c' h' => AllIx.get (Q := fun k' c' => PySem.W.exmOne K (.ref C2) (.ref c') = some (TC.sub 2 k')) (AllIx.some (exm_mk b0 ic0 t0 s2_0) (AllIx.some (exm_mk b1 ic1 t1 s2_1) (AllIx.some (exm_mk b2 ic2 t2 s2_2) (AllIx.some (exm_mk b3 ic3 t3 s2_3) (AllIx.some (exm_mk b4 ic4 t4 s2_4) (AllIx.nil)))))) k' c' h') (AllIx.some (fun k' c' h' => AllIx.get (Q := fun k' c' => PySem.W.exmOne K (.ref C3) (.ref c') = some (TC.sub 3 k')) (AllIx.some (exm_mk b0 ic0 t0 s3_0) (AllIx.some (exm_mk b1 ic1 t1 s3_1) (AllIx.some (exm_mk b2 ic2 t2 s3_2) (AllIx.some (exm_mk b3 ic3 t3 s3_3) (AllIx.some (exm_mk b4 ic4 t4 s3_4) (AllIx.nil)))))) k' c' h') (AllIx.some (fun k' c' h' => AllIx.get (Q := fun k' c' => PySem.W.exmOne K (.ref C4) (.ref c') = some (TC.sub 4 k')) (AllIx.some (exm_mk b0 ic0 t0 s4_0) (AllIx.some (exm_mk b1 ic1 t1 s4_1) (AllIx.some (exm_mk b2 ic2 t2 s4_2) (AllIx.some (exm_mk b3 ic3 t3 s4_3) (AllIx.some (exm_mk b4 ic4 t4 s4_4) (AllIx.nil)))))) k' c' h') (AllIx.nil)))))) k c hk) k' c' hk', fun _ _ _ => rfl, fun x i f h => (show ∀ x d, MD.kcls.lookup x = some d → ∃ a, KeepM PySem.Challenge.rw_roundsalike_k14_errors_of_rows.prog w K mg base x a d.2 ∧ G.CA d.1 = some a from all_cons (⟨C4, ⟨PySem.W.mg_of X G0 g4, kk4, b4, t4, fun mod => keep_self_given mod PySem.F.excBase_IndexError PySem.W.kxs_IndexError PySem.F.store_IndexError y4a y4b y4c y4d y4e y4f y4g y4h y4i y4j y4k (PySem.W.mg_none_of X G0 n_super) y4l y4m y4n y4o y4p y4q y4r y4s, ⟨y4t, y4u, b4, y4s⟩, y4v⟩, rfl⟩) (all_nil)) x (i, f) h⟩
  refine ⟨[(cc40, ct_40), (cc41, ct_41)], spI G (callF TC GA WT 20 41), ?_, fun H a ns hl hb tH sq => law_sp (G := G) rfl ?_ sq (pure ns hl hb), fun base KB gN tb => ?_⟩
  · intro p hp
    simp only [List.mem_cons, List.not_mem_nil, or_false] at hp
    rcases hp with rfl | rfl
    · exact ⟨m40, w40, PySem.W.codeHd_of_K X h40⟩
    · exact ⟨m41, w41, PySem.W.codeHd_of_K X h41⟩
  · intro p hp
    simp only [G, List.mem_cons, List.not_mem_nil, or_false] at hp
    rcases hp with rfl | rfl
    · exact TabS.nil (tH (cc40, ct_40) (by simp))
    · exact TabS.nil (tH (cc41, ct_41) (by simp))
  have MKU40 : ∀ p ∈ G.T, p.1 = ct_40 → p.2 = ("_law_right" ++ (".<locals>." : Str)) ++ ("<lambda>" : Str) := fun p hp e => by
    simp only [G, List.mem_cons, List.not_mem_nil, or_false] at hp
    rcases hp with rfl | rfl
    · exact rfl
    · exact absurd e (Ne.symm ne40_41)
  have MKU41 : ∀ p ∈ G.T, p.1 = ct_41 → p.2 = ("law" ++ (".<locals>." : Str)) ++ ("<lambda>" : Str) := fun p hp e => by
    simp only [G, List.mem_cons, List.not_mem_nil, or_false] at hp
    rcases hp with rfl | rfl
    · exact absurd e ne40_41
    · exact rfl
  exact levels (P := PySem.Challenge.rw_roundsalike_k14_errors_of_rows.prog) (w := w) (mg := mg) (base := base) (Γ := GA) (Wt := WT) (mod base) (AllIx.get (Q := fun i f => ∃ (d : Df) (cdv : Value) (irs : List RA.St), DefAt K d f cdv ∧ GA[i]? = some ⟨d.ps.length, d.N.length, irs⟩ ∧ cSs 60 (MD.cc d) d.body = some irs ∧ LamMk G base mg d cdv) (AllIx.some (⟨D0, cd0, I0, ⟨k0, sc0, defArgs (top 10), .none, kV0, dc0, pm0, ct0, oc0, an0, od0, sl0, l0, c0, L2.Binds.all fun us hl => match us, hl with | [_], _ => rfl⟩, rfl, ci0, fun z => by cases z⟩) (AllIx.some (⟨D1, cd1, I1, ⟨k1, sc1, defArgs (top 11), .none, kV1, dc1, pm1, ct1, oc1, an1, od1, sl1, l1, c1, L2.Binds.all fun us hl => match us, hl with | [_], _ => rfl⟩, rfl, ci1, fun z => by cases z⟩) (AllIx.some (⟨D2, cd2, I2, ⟨k2, sc2, defArgs (top 12), .none, kV2, dc2, pm2, ct2, oc2, an2, od2, sl2, l2, c2, L2.Binds.all fun us hl => match us, hl with | [_, _], _ => rfl⟩, rfl, ci2, fun z => by cases z⟩) (AllIx.some (⟨D3, cd3, I3, ⟨k3, sc3, defArgs (top 13), .none, kV3, dc3, pm3, ct3, oc3, an3, od3, sl3, l3, c3, L2.Binds.all fun us hl => match us, hl with | [_], _ => rfl⟩, rfl, ci3, fun z => by cases z⟩) (AllIx.some (⟨D4, cd4, I4, ⟨k4, sc4, defArgs (top 14), .none, kV4, dc4, pm4, ct4, oc4, an4, od4, sl4, l4, c4, L2.Binds.all fun us hl => match us, hl with | [_, _], _ => rfl⟩, rfl, ci4, fun z => by cases z⟩) (AllIx.some (⟨D5, cd5, I5, ⟨k5, sc5, defArgs (top 15), .none, kV5, dc5, pm5, ct5, oc5, an5, od5, sl5, l5, c5, L2.Binds.all fun us hl => match us, hl with | [_], _ => rfl⟩, rfl, ci5, fun z => by cases z⟩) (AllIx.some (⟨D6, cd6, I6, ⟨k6, sc6, defArgs (top 16), .none, kV6, dc6, pm6, ct6, oc6, an6, od6, sl6, l6, c6, L2.Binds.all fun us hl => match us, hl with | [_, _], _ => rfl⟩, rfl, ci6, fun z => by cases z⟩) (AllIx.some (⟨D7, cd7, I7, ⟨k7, sc7, defArgs (top 17), .none, kV7, dc7, pm7, ct7, oc7, an7, od7, sl7, l7, c7, L2.Binds.all fun us hl => match us, hl with | [_, _], _ => rfl⟩, rfl, ci7, fun z => by cases z⟩) (AllIx.some (⟨D8, cd8, I8, ⟨k8, sc8, defArgs (top 18), .none, kV8, dc8, pm8, ct8, oc8, an8, od8, sl8, l8, c8, L2.Binds.all fun us hl => match us, hl with | [_, _], _ => rfl⟩, rfl, ci8, fun z => by cases z⟩) (AllIx.some (⟨D9, cd9, I9, ⟨k9, sc9, defArgs (top 19), .none, kV9, dc9, pm9, ct9, oc9, an9, od9, sl9, l9, c9, L2.Binds.all fun us hl => match us, hl with | [_, _], _ => rfl⟩, rfl, ci9, fun z => by cases z⟩) (AllIx.some (⟨D10, cd10, I10, ⟨k10, sc10, defArgs (top 20), .none, kV10, dc10, pm10, ct10, oc10, an10, od10, sl10, l10, c10, L2.Binds.all fun us hl => match us, hl with | [_, _], _ => rfl⟩, rfl, ci10, fun z => by cases z⟩) (AllIx.some (⟨D11, cd11, I11, ⟨k11, sc11, defArgs (top 21), .none, kV11, dc11, pm11, ct11, oc11, an11, od11, sl11, l11, c11, L2.Binds.all fun us hl => match us, hl with | [_, _], _ => rfl⟩, rfl, ci11, fun z => by cases z⟩) (AllIx.some (⟨D12, cd12, I12, ⟨k12, sc12, defArgs (top 22), .none, kV12, dc12, pm12, ct12, oc12, an12, od12, sl12, l12, c12, L2.Binds.all fun us hl => match us, hl with | [_, _], _ => rfl⟩, rfl, ci12, fun z => by cases z⟩) (AllIx.some (⟨D13, cd13, I13, ⟨k13, sc13, defArgs (top 23), .none, kV13, dc13, pm13, ct13, oc13, an13, od13, sl13, l13, c13, L2.Binds.all fun us hl => match us, hl with | [_, _], _ => rfl⟩, rfl, ci13, fun z => by cases z⟩) (AllIx.some (⟨D14, cd14, I14, ⟨k14, sc14, defArgs (top 24), .none, kV14, dc14, pm14, ct14, oc14, an14, od14, sl14, l14, c14, L2.Binds.all fun us hl => match us, hl with | [_], _ => rfl⟩, rfl, ci14, fun z => by cases z⟩) (AllIx.some (⟨D15, cd15, I15, ⟨k15, sc15, defArgs (top 25), .none, kV15, dc15, pm15, ct15, oc15, an15, od15, sl15, l15, c15, L2.Binds.all fun us hl => match us, hl with | [_, _], _ => rfl⟩, rfl, ci15, fun z => by cases z⟩) (AllIx.some (⟨D16, cd16, I16, ⟨k16, sc16, defArgs (top 26), .none, kV16, dc16, pm16, ct16, oc16, an16, od16, sl16, l16, c16, L2.Binds.all fun us hl => match us, hl with | [_, _], _ => rfl⟩, rfl, ci16, fun z => by cases z⟩) (AllIx.some (⟨D17, cd17, I17, ⟨k17, sc17, defArgs (top 27), .none, kV17, dc17, pm17, ct17, oc17, an17, od17, sl17, l17, c17, L2.Binds.all fun us hl => match us, hl with | [_, _], _ => rfl⟩, rfl, ci17, fun z => by cases z⟩) (AllIx.some (⟨D18, cd18, I18, ⟨k18, sc18, defArgs (top 28), .none, kV18, dc18, pm18, ct18, oc18, an18, od18, sl18, l18, c18, L2.Binds.all fun us hl => match us, hl with | [_, _], _ => rfl⟩, rfl, ci18, fun z => by cases z⟩) (AllIx.some (⟨D19, cd19, I19, ⟨k19, sc19, defArgs (top 29), .none, kV19, dc19, pm19, ct19, oc19, an19, od19, sl19, l19, c19, L2.Binds.all fun us hl => match us, hl with | [_, _], _ => rfl⟩, rfl, ci19, fun z => by cases z⟩) (AllIx.some (⟨D20, cd20, I20, ⟨k20, sc20, defArgs (top 30), .none, kV20, dc20, pm20, ct20, oc20, an20, od20, sl20, l20, c20, L2.Binds.all fun us hl => match us, hl with | [_, _], _ => rfl⟩, rfl, ci20, fun z => by cases z⟩) (AllIx.some (⟨D21, cd21, I21, ⟨k21, sc21, defArgs (top 31), .none, kV21, dc21, pm21, ct21, oc21, an21, od21, sl21, l21, c21, L2.Binds.all fun us hl => match us, hl with | [_, _, _], _ => rfl⟩, rfl, ci21, fun z => by cases z⟩) (AllIx.some (⟨D22, cd22, I22, ⟨k22, sc22, defArgs (top 32), .none, kV22, dc22, pm22, ct22, oc22, an22, od22, sl22, l22, c22, L2.Binds.all fun us hl => match us, hl with | [_, _, _], _ => rfl⟩, rfl, ci22, fun z => by cases z⟩) (AllIx.some (⟨D23, cd23, I23, ⟨k23, sc23, defArgs (top 33), .none, kV23, dc23, pm23, ct23, oc23, an23, od23, sl23, l23, c23, L2.Binds.all fun us hl => match us, hl with | [_, _, _], _ => rfl⟩, rfl, ci23, fun z => by cases z⟩) (AllIx.some (⟨D24, cd24, I24, ⟨k24, sc24, defArgs (top 34), .none, kV24, dc24, pm24, ct24, oc24, an24, od24, sl24, l24, c24, L2.Binds.all fun us hl => match us, hl with | [_, _], _ => rfl⟩, rfl, ci24, fun z => by cases z⟩) (AllIx.some (⟨D25, cd25, I25, ⟨k25, sc25, defArgs (top 35), .none, kV25, dc25, pm25, ct25, oc25, an25, od25, sl25, l25, c25, L2.Binds.all fun us hl => match us, hl with | [_, _], _ => rfl⟩, rfl, ci25, fun z => by cases z⟩) (AllIx.some (⟨D26, cd26, I26, ⟨k26, sc26, defArgs (top 36), .none, kV26, dc26, pm26, ct26, oc26, an26, od26, sl26, l26, c26, L2.Binds.all fun us hl => match us, hl with | [_, _, _], _ => rfl⟩, rfl, ci26, fun z => by cases z⟩) (AllIx.some (⟨D27, cd27, I27, ⟨k27, sc27, defArgs (top 37), .none, kV27, dc27, pm27, ct27, oc27, an27, od27, sl27, l27, c27, L2.Binds.all fun us hl => match us, hl with | [_, _, _], _ => rfl⟩, rfl, ci27, fun z => by cases z⟩) (AllIx.some (⟨D28, cd28, I28, ⟨k28, sc28, defArgs (top 38), .none, kV28, dc28, pm28, ct28, oc28, an28, od28, sl28, l28, c28, L2.Binds.all fun us hl => match us, hl with | [_, _, _], _ => rfl⟩, rfl, ci28, fun z => by cases z⟩) (AllIx.some (⟨D29, cd29, I29, ⟨k29, sc29, defArgs (top 39), .none, kV29, dc29, pm29, ct29, oc29, an29, od29, sl29, l29, c29, L2.Binds.all fun us hl => match us, hl with | [_, _, _], _ => rfl⟩, rfl, ci29, fun z => by cases z⟩) (AllIx.some (⟨D30, cd30, I30, ⟨k30, sc30, defArgs (top 40), .none, kV30, dc30, pm30, ct30, oc30, an30, od30, sl30, l30, c30, L2.Binds.all fun us hl => match us, hl with | [_, _], _ => rfl⟩, rfl, ci30, fun z => by cases z⟩) (AllIx.some (⟨D31, cd31, I31, ⟨k31, sc31, defArgs (top 41), .none, kV31, dc31, pm31, ct31, oc31, an31, od31, sl31, l31, c31, L2.Binds.all fun us hl => match us, hl with | [_, _, _], _ => rfl⟩, rfl, ci31, fun z => by cases z⟩) (AllIx.some (⟨D32, cd32, I32, ⟨k32, sc32, defArgs (top 42), .none, kV32, dc32, pm32, ct32, oc32, an32, od32, sl32, l32, c32, L2.Binds.all fun us hl => match us, hl with | [_, _, _], _ => rfl⟩, rfl, ci32, fun z => by cases z⟩) (AllIx.some (⟨D33, cd33, I33, ⟨k33, sc33, defArgs (top 43), .none, kV33, dc33, pm33, ct33, oc33, an33, od33, sl33, l33, c33, L2.Binds.all fun us hl => match us, hl with | [_, _, _, _], _ => rfl⟩, rfl, ci33, fun z => by cases z⟩) (AllIx.some (⟨D34, cd34, I34, ⟨k34, sc34, defArgs (top 45), .none, kV34, dc34, pm34, ct34, oc34, an34, od34, sl34, l34, c34, L2.Binds.all fun us hl => match us, hl with | [_, _], _ => rfl⟩, rfl, ci34, fun z => by cases z⟩) (AllIx.some (⟨D35, cd35, I35, ⟨k35, sc35, defArgs (top 46), .none, kV35, dc35, pm35, ct35, oc35, an35, od35, sl35, l35, c35, L2.Binds.all fun us hl => match us, hl with | [_, _], _ => rfl⟩, rfl, ci35, fun z => by cases z⟩) (AllIx.some (⟨D36, cd36, I36, ⟨k36, sc36, defArgs (top 47), .none, kV36, dc36, pm36, ct36, oc36, an36, od36, sl36, l36, c36, L2.Binds.all fun us hl => match us, hl with | [_, _], _ => rfl⟩, rfl, ci36, fun z => by cases z⟩) (AllIx.none (AllIx.some (⟨D38, cd38, I38, ⟨k38, sc38, defArgs (top 49), .none, kV38, dc38, pm38, ct38, oc38, an38, od38, sl38, l38, c38, L2.Binds.all fun us hl => match us, hl with | [_, _, _], _ => rfl⟩, rfl, ci38, fun z => by cases z⟩) (AllIx.some (⟨D39, cd39, I39, ⟨k39, sc39, defArgs (top 50), .none, kV39, dc39, pm39, ct39, oc39, an39, od39, sl39, l39, c39, L2.Binds.all fun us hl => match us, hl with | [_], _ => rfl⟩, rfl, ci39, fun z => by cases z⟩) (AllIx.some (⟨D40, .ref cc40, I40, ⟨k40, sc40, defArgs (top 51), .none, kV40, dc40, pm40, ct40, oc40, an40, od40, sl40, l40, c40, L2.Binds.all fun us hl => match us, hl with | [_], _ => rfl⟩, rfl, ci40, fun _ => ⟨cc40, ct_40, rfl, tb (cc40, ct_40) (by simp), by simp [G, D40], MKU40⟩⟩) (AllIx.some (⟨D41, .ref cc41, I41, ⟨k41, sc41, defArgs (top 52), .none, kV41, dc41, pm41, ct41, oc41, an41, od41, sl41, l41, c41, L2.Binds.all fun us hl => match us, hl with | [_], _ => rfl⟩, rfl, ci41, fun _ => ⟨cc41, ct_41, rfl, tb (cc41, ct_41) (by simp), by simp [G, D41], MKU41⟩⟩) (AllIx.nil)))))))))))))))))))))))))))))))))))))))))))) (all_cons (⟨f37, D37, cd37, "call", I37, rfl, PySem.W.mg_of X G0 a37, ⟨k37, sc37, defArgs (top 48), .none, kV37, dc37, pm37, ct37, oc37, an37, od37, sl37, l37, c37, L2.Binds.all fun us hl => match us, hl with | [_], _ => rfl⟩, rfl, by decide +kernel, by decide +kernel, rfl, ci37⟩) (all_nil)) 20 41 fa rfl
end Law

open PySem PySem.W PyProof.Rows
set_option maxRecDepth 100000 in
set_option maxHeartbeats 0 in
theorem PySem.Challenge.cw_roundsalike_k14_errors_of_rows_holds : PySem.Challenge.rw_roundsalike_k14_errors_of_rows.Holds := by
  w_on; o_law; k_head; (case hw => w_witness2)
  k_fill
  refine RA.walk_end (l := PySem.Challenge.rw_roundsalike_k14_errors_of_rows) (n := 63) (k := 80) rfl (by decide) rfl (RA.roomG_caller ⟨rfl, by decide, by decide⟩) (fun w h Y => PySem.W.km_in_of Y) ?F
  case F =>
    intro w s₀ mg mb fa h TP YY KX G hmg
    refine' Law.head KX G hmg ?hq_a0 ?hq_l0 ?hq_c0 ?hq_k0 ?hq_a1 ?hq_l1 ?hq_c1 ?hq_k1 ?hq_a2 ?hq_l2 ?hq_c2 ?hq_k2 ?hq_a3 ?hq_l3 ?hq_c3 ?hq_k3 ?hq_a4 ?hq_l4 ?hq_c4 ?hq_k4 ?hq_a5 ?hq_l5 ?hq_c5 ?hq_k5 ?hq_a6 ?hq_l6 ?hq_c6 ?hq_k6 ?hq_a7 ?hq_l7 ?hq_c7 ?hq_k7 ?hq_a8 ?hq_l8 ?hq_c8 ?hq_k8 ?hq_a9 ?hq_l9 ?hq_c9 ?hq_k9 ?hq_a10 ?hq_l10 ?hq_c10 ?hq_k10 ?hq_a11 ?hq_l11 ?hq_c11 ?hq_k11 ?hq_a12 ?hq_l12 ?hq_c12 ?hq_k12 ?hq_a13 ?hq_l13 ?hq_c13 ?hq_k13 ?hq_a14 ?hq_l14 ?hq_c14 ?hq_k14 ?hq_a15 ?hq_l15 ?hq_c15 ?hq_k15 ?hq_a16 ?hq_l16 ?hq_c16 ?hq_k16 ?hq_a17 ?hq_l17 ?hq_c17 ?hq_k17 ?hq_a18 ?hq_l18 ?hq_c18 ?hq_k18 ?hq_a19 ?hq_l19 ?hq_c19 ?hq_k19 ?hq_a20 ?hq_l20 ?hq_c20 ?hq_k20 ?hq_a21 ?hq_l21 ?hq_c21 ?hq_k21 ?hq_a22 ?hq_l22 ?hq_c22 ?hq_k22 ?hq_a23 ?hq_l23 ?hq_c23 ?hq_k23 ?hq_a24 ?hq_l24 ?hq_c24 ?hq_k24 ?hq_a25 ?hq_l25 ?hq_c25 ?hq_k25 ?hq_a26 ?hq_l26 ?hq_c26 ?hq_k26 ?hq_a27 ?hq_l27 ?hq_c27 ?hq_k27 ?hq_a28 ?hq_l28 ?hq_c28 ?hq_k28 ?hq_a29 ?hq_l29 ?hq_c29 ?hq_k29 ?hq_a30 ?hq_l30 ?hq_c30 ?hq_k30 ?hq_a31 ?hq_l31 ?hq_c31 ?hq_k31 ?hq_a32 ?hq_l32 ?hq_c32 ?hq_k32 ?hq_a33 ?hq_l33 ?hq_c33 ?hq_k33 ?hq_a34 ?hq_l34 ?hq_c34 ?hq_k34 ?hq_a35 ?hq_l35 ?hq_c35 ?hq_k35 ?hq_a36 ?hq_l36 ?hq_c36 ?hq_k36 ?hq_a37 ?hq_l37 ?hq_c37 ?hq_k37 ?hq_a38 ?hq_l38 ?hq_c38 ?hq_k38 ?hq_a39 ?hq_l39 ?hq_c39 ?hq_k39 ?hq_a40 ?hq_l40 ?hq_c40 ?hq_k40 ?hq_a41 ?hq_l41 ?hq_c41 ?hq_k41 ?hq_g0 ?hq_x0 ?hq_kk0 ?hq_b0 ?hq_t0 ?hq_ic0 ?hq_g1 ?hq_x1 ?hq_kk1 ?hq_b1 ?hq_t1 ?hq_ic1 ?hq_g2 ?hq_x2 ?hq_kk2 ?hq_b2 ?hq_t2 ?hq_ic2 ?hq_g3 ?hq_x3 ?hq_kk3 ?hq_b3 ?hq_t3 ?hq_ic3 ?hq_g4 ?hq_kk4 ?hq_b4 ?hq_t4 ?hq_ic4 ?hq_y4a ?hq_y4b ?hq_y4c ?hq_y4d ?hq_y4e ?hq_y4f ?hq_y4g ?hq_y4h ?hq_y4i ?hq_y4j ?hq_y4k ?hq_y4l ?hq_y4m ?hq_y4n ?hq_y4o ?hq_y4p ?hq_y4q ?hq_y4r ?hq_y4s ?hq_y4t ?hq_y4u ?hq_y4v ?hq_s0_0 ?hq_s0_1 ?hq_s0_2 ?hq_s0_3 ?hq_s0_4 ?hq_s1_0 ?hq_s1_1 ?hq_s1_2 ?hq_s1_3 ?hq_s1_4 ?hq_s2_0 ?hq_s2_1 ?hq_s2_2 ?hq_s2_3 ?hq_s2_4 ?hq_s3_0 ?hq_s3_1 ?hq_s3_2 ?hq_s3_3 ?hq_s3_4 ?hq_s4_0 ?hq_s4_1 ?hq_s4_2 ?hq_s4_3 ?hq_s4_4 ?hq_z0 ?hq_z1 ?hq_z2 ?hq_n_len ?hq_n_abs ?hq_n_max ?hq_n_min ?hq_n_sum ?hq_n_all ?hq_n_any ?hq_n_tuple ?hq_n_list ?hq_n_int ?hq_n_str ?hq_n_repr ?hq_n_isinstance ?hq_n_bool ?hq_n_dict ?hq_n_range ?hq_n_zip ?hq_n_enumerate ?hq_n_sorted ?hq_n_set ?hq_n_super ?hq_e40 ?hq_q40 ?hq_p40 ?hq_h40 ?hq_m40 ?hq_w40 ?hq_e41 ?hq_q41 ?hq_p41 ?hq_h41 ?hq_m41 ?hq_w41 ?hq_ne40_41
    (case hq_a0 => k_is); (case hq_l0 => k_is); (case hq_c0 => k_is); (case hq_k0 => k_is); (case hq_a1 => k_is); (case hq_l1 => k_is)
    (case hq_c1 => k_is); (case hq_k1 => k_is); (case hq_a2 => k_is); (case hq_l2 => k_is); (case hq_c2 => k_is); (case hq_k2 => k_is)
    (case hq_a3 => k_is); (case hq_l3 => k_is); (case hq_c3 => k_is); (case hq_k3 => k_is); (case hq_a4 => k_is); (case hq_l4 => k_is)
    (case hq_c4 => k_is); (case hq_k4 => k_is); (case hq_a5 => k_is); (case hq_l5 => k_is); (case hq_c5 => k_is); (case hq_k5 => k_is)
    (case hq_a6 => k_is); (case hq_l6 => k_is); (case hq_c6 => k_is); (case hq_k6 => k_is); (case hq_a7 => k_is); (case hq_l7 => k_is)
    (case hq_c7 => k_is); (case hq_k7 => k_is); (case hq_a8 => k_is); (case hq_l8 => k_is); (case hq_c8 => k_is); (case hq_k8 => k_is)
    (case hq_a9 => k_is); (case hq_l9 => k_is); (case hq_c9 => k_is); (case hq_k9 => k_is); (case hq_a10 => k_is); (case hq_l10 => k_is)
    (case hq_c10 => k_is); (case hq_k10 => k_is); (case hq_a11 => k_is); (case hq_l11 => k_is); (case hq_c11 => k_is); (case hq_k11 => k_is)
    (case hq_a12 => k_is); (case hq_l12 => k_is); (case hq_c12 => k_is); (case hq_k12 => k_is); (case hq_a13 => k_is); (case hq_l13 => k_is)
    (case hq_c13 => k_is); (case hq_k13 => k_is); (case hq_a14 => k_is); (case hq_l14 => k_is); (case hq_c14 => k_is); (case hq_k14 => k_is)
    (case hq_a15 => k_is); (case hq_l15 => k_is); (case hq_c15 => k_is); (case hq_k15 => k_is); (case hq_a16 => k_is); (case hq_l16 => k_is)
    (case hq_c16 => k_is); (case hq_k16 => k_is); (case hq_a17 => k_is); (case hq_l17 => k_is); (case hq_c17 => k_is); (case hq_k17 => k_is)
    (case hq_a18 => k_is); (case hq_l18 => k_is); (case hq_c18 => k_is); (case hq_k18 => k_is); (case hq_a19 => k_is); (case hq_l19 => k_is)
    (case hq_c19 => k_is); (case hq_k19 => k_is); (case hq_a20 => k_is); (case hq_l20 => k_is); (case hq_c20 => k_is); (case hq_k20 => k_is)
    (case hq_a21 => k_is); (case hq_l21 => k_is); (case hq_c21 => k_is); (case hq_k21 => k_is); (case hq_a22 => k_is); (case hq_l22 => k_is)
    (case hq_c22 => k_is); (case hq_k22 => k_is); (case hq_a23 => k_is); (case hq_l23 => k_is); (case hq_c23 => k_is); (case hq_k23 => k_is)
    (case hq_a24 => k_is); (case hq_l24 => k_is); (case hq_c24 => k_is); (case hq_k24 => k_is); (case hq_a25 => k_is); (case hq_l25 => k_is)
    (case hq_c25 => k_is); (case hq_k25 => k_is); (case hq_a26 => k_is); (case hq_l26 => k_is); (case hq_c26 => k_is); (case hq_k26 => k_is)
    (case hq_a27 => k_is); (case hq_l27 => k_is); (case hq_c27 => k_is); (case hq_k27 => k_is); (case hq_a28 => k_is); (case hq_l28 => k_is)
    (case hq_c28 => k_is); (case hq_k28 => k_is); (case hq_a29 => k_is); (case hq_l29 => k_is); (case hq_c29 => k_is); (case hq_k29 => k_is)
    (case hq_a30 => k_is); (case hq_l30 => k_is); (case hq_c30 => k_is); (case hq_k30 => k_is); (case hq_a31 => k_is); (case hq_l31 => k_is)
    (case hq_c31 => k_is); (case hq_k31 => k_is); (case hq_a32 => k_is); (case hq_l32 => k_is); (case hq_c32 => k_is); (case hq_k32 => k_is)
    (case hq_a33 => k_is); (case hq_l33 => k_is); (case hq_c33 => k_is); (case hq_k33 => k_is); (case hq_a34 => k_is); (case hq_l34 => k_is)
    (case hq_c34 => k_is); (case hq_k34 => k_is); (case hq_a35 => k_is); (case hq_l35 => k_is); (case hq_c35 => k_is); (case hq_k35 => k_is)
    (case hq_a36 => k_is); (case hq_l36 => k_is); (case hq_c36 => k_is); (case hq_k36 => k_is); (case hq_a37 => k_is); (case hq_l37 => k_is)
    (case hq_c37 => k_is); (case hq_k37 => k_is); (case hq_a38 => k_is); (case hq_l38 => k_is); (case hq_c38 => k_is); (case hq_k38 => k_is)
    (case hq_a39 => k_is); (case hq_l39 => k_is); (case hq_c39 => k_is); (case hq_k39 => k_is); (case hq_a40 => k_is); (case hq_l40 => k_is)
    (case hq_c40 => k_is); (case hq_k40 => k_is); (case hq_a41 => k_is); (case hq_l41 => k_is); (case hq_c41 => k_is); (case hq_k41 => k_is)
    (case hq_g0 => k_is); (case hq_x0 => k_exc); (case hq_kk0 => k_is); (case hq_b0 => k_is); (case hq_t0 => k_is); (case hq_ic0 => k_is)
    (case hq_g1 => k_is); (case hq_x1 => k_exc); (case hq_kk1 => k_is); (case hq_b1 => k_is); (case hq_t1 => k_is); (case hq_ic1 => k_is)
    (case hq_g2 => k_is); (case hq_x2 => k_exc); (case hq_kk2 => k_is); (case hq_b2 => k_is); (case hq_t2 => k_is); (case hq_ic2 => k_is)
    (case hq_g3 => k_is); (case hq_x3 => k_exc); (case hq_kk3 => k_is); (case hq_b3 => k_is); (case hq_t3 => k_is); (case hq_ic3 => k_is)
    (case hq_g4 => k_is); (case hq_kk4 => k_is); (case hq_b4 => k_is); (case hq_t4 => k_is); (case hq_ic4 => k_is); (case hq_y4a => k_is)
    (case hq_y4b => k_is); (case hq_y4c => k_is); (case hq_y4d => kx_is); (case hq_y4e => rfl); (case hq_y4f => k_is); (case hq_y4g => rfl)
    (case hq_y4h => rfl); (case hq_y4i => k_is); (case hq_y4j => (first | k_is | kernel_rfl)); (case hq_y4k => k_is); (case hq_y4l => rfl); (case hq_y4m => k_is)
    (case hq_y4n => (first | k_is | kernel_rfl)); (case hq_y4o => k_is); (case hq_y4p => k_is); (case hq_y4q => kx_is); (case hq_y4r => (first | k_is | kernel_rfl)); (case hq_y4s => k_is)
    (case hq_y4t => k_is); (case hq_y4u => k_is); (case hq_y4v => k_is); (case hq_s0_0 => k_is); (case hq_s0_1 => k_is); (case hq_s0_2 => k_is)
    (case hq_s0_3 => k_is); (case hq_s0_4 => k_is); (case hq_s1_0 => k_is); (case hq_s1_1 => k_is); (case hq_s1_2 => k_is); (case hq_s1_3 => k_is)
    (case hq_s1_4 => k_is); (case hq_s2_0 => k_is); (case hq_s2_1 => k_is); (case hq_s2_2 => k_is); (case hq_s2_3 => k_is); (case hq_s2_4 => k_is)
    (case hq_s3_0 => k_is); (case hq_s3_1 => k_is); (case hq_s3_2 => k_is); (case hq_s3_3 => k_is); (case hq_s3_4 => k_is); (case hq_s4_0 => k_is)
    (case hq_s4_1 => k_is); (case hq_s4_2 => k_is); (case hq_s4_3 => k_is); (case hq_s4_4 => k_is); (case hq_z0 => k_is); (case hq_z1 => k_is)
    (case hq_z2 => k_is); (case hq_n_len => k_is); (case hq_n_abs => k_is); (case hq_n_max => k_is); (case hq_n_min => k_is); (case hq_n_sum => k_is)
    (case hq_n_all => k_is); (case hq_n_any => k_is); (case hq_n_tuple => k_is); (case hq_n_list => k_is); (case hq_n_int => k_is); (case hq_n_str => k_is)
    (case hq_n_repr => k_is); (case hq_n_isinstance => k_is); (case hq_n_bool => k_is); (case hq_n_dict => k_is); (case hq_n_range => k_is); (case hq_n_zip => k_is)
    (case hq_n_enumerate => k_is); (case hq_n_sorted => k_is); (case hq_n_set => k_is); (case hq_n_super => k_is)
    (case hq_e40 => rfl); (case hq_q40 => k_is); (case hq_p40 => rfl); (case hq_h40 => kernel_rfl); (case hq_m40 => exact PySem.W.km_tabs_of YY _ (by simp)); (case hq_w40 => kernel_rfl)
    (case hq_e41 => rfl); (case hq_q41 => k_is); (case hq_p41 => rfl); (case hq_h41 => kernel_rfl); (case hq_m41 => exact PySem.W.km_tabs_of YY _ (by simp)); (case hq_w41 => kernel_rfl)
    (case hq_ne40_41 => decide)
