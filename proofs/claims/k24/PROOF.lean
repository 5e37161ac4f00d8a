import PyProof.Rows.All
import Wide.All
import OpenK.AllK
import Wide.FinOn
import HandS.ForMost
import HandS.TupAny
import HandS.TupMul
import HandS.Style
import HandS.FStr
import HandS.TryMany
import HandS.ExcInit
import HandS.CallSlots
import HandS.WordsExc
import HandS.ExcOwn
import HandS.Small
import HandS.Deep
import KE.DataEq
import HandS.SortInts
import HandS.TryOnly
import HandS.Ends
import PySem.Challenge.RW_tidemark_k24_standing_roots
set_option Elab.async false
set_option linter.all false
set_option maxRecDepth 100000
/-! MP: a small language of slots with a plain semantics over a heap of numbered objects. -/
namespace MP
open PySem L2

inductive Val where
  | non | bl (b : Bool) | int (i : Int) | str (x : Str) | tup (xs : List Val) | ref (n : Nat) | cst (c : Nat)
mutual
def Val.dec : (a b : Val) → Decidable (a = b)
  | .non, b => match b with
    | .non => Decidable.isTrue rfl | .bl _ | .int _ | .str _ | .tup _ | .ref _ | .cst _ => Decidable.isFalse (by intro h; cases h)
  | .bl x, b => match b with
    | .bl y => if e : x = y then Decidable.isTrue (by rw [e]) else Decidable.isFalse (by intro h; cases h; exact e rfl)
    | .non | .int _ | .str _ | .tup _ | .ref _ | .cst _ => Decidable.isFalse (by intro h; cases h)
  | .int x, b => match b with
    | .int y => if e : x = y then Decidable.isTrue (by rw [e]) else Decidable.isFalse (by intro h; cases h; exact e rfl)
    | .non | .bl _ | .str _ | .tup _ | .ref _ | .cst _ => Decidable.isFalse (by intro h; cases h)
  | .str x, b => match b with
    | .str y => if e : x = y then Decidable.isTrue (by rw [e]) else Decidable.isFalse (by intro h; cases h; exact e rfl)
    | .non | .bl _ | .int _ | .tup _ | .ref _ | .cst _ => Decidable.isFalse (by intro h; cases h)
  | .tup xs, b => match b with
    | .tup ys => match Val.decs xs ys with
      | Decidable.isTrue e => Decidable.isTrue (by rw [e])
      | Decidable.isFalse e => Decidable.isFalse (by intro h; cases h; exact e rfl)
    | .non | .bl _ | .int _ | .str _ | .ref _ | .cst _ => Decidable.isFalse (by intro h; cases h)
  | .ref x, b => match b with
    | .ref y => if e : x = y then Decidable.isTrue (by rw [e]) else Decidable.isFalse (by intro h; cases h; exact e rfl)
    | .non | .bl _ | .int _ | .str _ | .tup _ | .cst _ => Decidable.isFalse (by intro h; cases h)
  | .cst x, b => match b with
    | .cst y => if e : x = y then Decidable.isTrue (by rw [e]) else Decidable.isFalse (by intro h; cases h; exact e rfl)
    | .non | .bl _ | .int _ | .str _ | .tup _ | .ref _ => Decidable.isFalse (by intro h; cases h)
def Val.decs : (a b : List Val) → Decidable (a = b)
  | [], [] => Decidable.isTrue rfl
  | [], _ :: _ => Decidable.isFalse (by intro h; cases h)
  | _ :: _, [] => Decidable.isFalse (by intro h; cases h)
  | x :: xs, y :: ys => match Val.dec x y with
    | Decidable.isFalse e => Decidable.isFalse (by intro h; cases h; exact e rfl)
    | Decidable.isTrue e1 => match Val.decs xs ys with
      | Decidable.isTrue e2 => Decidable.isTrue (by rw [e1, e2])
      | Decidable.isFalse e => Decidable.isFalse (by intro h; cases h; exact e rfl)
end
instance : DecidableEq Val := Val.dec

inductive Ob where
  | nil | lst (xs : List Val) | dK (kvs : List (Key × Val)) | dT (kvs : List (List Key × Val)) | ins (c : Nat) (fs : List (Nat × Val))
  deriving DecidableEq

structure Hs where
  sz : Nat
  ob : Nat → Ob
def Hs.new (h : Hs) (o : Ob) : Hs := ⟨h.sz + 1, fun i => if i = h.sz then o else h.ob i⟩
def Hs.put (h : Hs) (n : Nat) (o : Ob) : Hs := ⟨h.sz, fun i => if i = n then o else h.ob i⟩
/-- the tuples (true) and lists (false) that are constants, by their numbers -/
abbrev Ro := Nat → Option (Bool × List Val)
def roL (ro : Ro) (t : Bool) (c : Nat) : Option (List Val) := match ro c with
  | some (k, xs) => if k = t then some xs else none
  | none => none
/-- the items of a list, written or constant -/
def sqV (ro : Ro) (h : Hs) : Val → Option (List Val)
  | .ref n => match h.ob n with
    | .lst xs => some xs
    | _ => none
  | .cst c => roL ro false c
  | _ => none
/-- .. of a tuple -/
def tuV (ro : Ro) : Val → Option (List Val)
  | .tup xs => some xs
  | .cst c => roL ro true c
  | _ => none

structure Exc where
  cls : Nat
  args : List Val

inductive R (α : Type) where
  | ok (a : α) (h : Hs) | ex (x : Exc) (h : Hs) | no
abbrev M (α : Type) := Hs → R α
def ret {α : Type} (a : α) : M α := fun h => .ok a h
def no {α : Type} : M α := fun _ => .no
def bnd {α β : Type} (m : M α) (f : α → M β) : M β := fun h => match m h with
  | .ok a h' => f a h'
  | .ex x h' => .ex x h'
  | .no => .no
def newO (o : Ob) : M Val := fun h => .ok (.ref h.sz) (h.new o)
def putO (n : Nat) (o : Ob) : M Unit := fun h => .ok () (h.put n o)
abbrev Env := List (Option Val)
def getv (i : Nat) (ρ : Env) : M Val := match ρ[i]? with
  | some (some v) => ret v
  | _ => no
def setv (i : Nat) (v : Val) (ρ : Env) : M Env := if i < ρ.length then ret (ρ.set i (some v)) else no
/-- a value's truth -/
def truV (ro : Ro) (x : Val) : M Bool := fun h => match x with
  | .non => .ok false h
  | .bl b => .ok b h
  | .int i => .ok (i != 0) h
  | .str y => if y.length ≤ sizeLine then .ok ((y.length : Int) != 0) h else .no
  | .tup xs => .ok (!xs.isEmpty) h
  | .ref a => match h.ob a with
    | .lst xs => .ok (!xs.isEmpty) h
    | .dK kvs => .ok (!kvs.isEmpty) h
    | _ => .no
  | .cst c => match ro c with
    | some (_, xs) => .ok (!xs.isEmpty) h
    | none => .no
def asB (x : Val) : M Bool := match x with
  | .bl b => ret b
  | _ => no

/-! ### data -/
def pyV (ro : Ro) (h : Hs) : Nat → Val → Option PyData
  | _, .non => some .none
  | _, .bl b => some (.bool b)
  | _, .int i => some (.int i)
  | _, .str x => some (.str x)
  | 0, _ => none
  | n + 1, .tup xs => (xs.mapM (pyV ro h n)).map .tuple
  | n + 1, .ref a => match h.ob a with
    | .lst xs => (xs.mapM (pyV ro h n)).map .list
    | _ => none
  | n + 1, .cst c => match ro c with
    | some (false, xs) => (xs.mapM (pyV ro h n)).map .list
    | some (true, xs) => (xs.mapM (pyV ro h n)).map .tuple
    | none => none
def eqM (ro : Ro) (x y : Val) : M Bool := fun h => match pyV ro h 20 x, pyV ro h 20 y with
  | some d, some e => .ok (PyData.eqv d e) h
  | _, _ => .no
/-- a key -/
def keyV : Val → Option Key
  | .int i => some (.inl i)
  | .str x => some (.inr x)
  | _ => none
def keyTV : Val → Option (List Key)
  | .tup xs => xs.mapM keyV
  | _ => none
def vOfKey : Key → Val
  | .inl i => .int i
  | .inr x => .str x
def look {κ : Type} [DecidableEq κ] (kvs : List (κ × Val)) (k : κ) : Option Val := (kvs.find? fun kv => decide (kv.1 = k)).map (·.2)
def putD {κ : Type} [DecidableEq κ] (kvs : List (κ × Val)) (k : κ) (v : Val) : List (κ × Val) :=
  if (kvs.any fun kv => decide (kv.1 = k)) = true then kvs.map (fun kv => if kv.1 = k then (kv.1, v) else kv) else kvs ++ [(k, v)]
def dropD {κ : Type} [DecidableEq κ] (kvs : List (κ × Val)) (k : κ) : List (κ × Val) := kvs.filter fun kv => decide (kv.1 ≠ k)
def putFl (f : Nat) (v : Val) : List (Nat × Val) → List (Nat × Val)
  | [] => [(f, v)]
  | (g, x) :: r => if g = f then (g, v) :: r else (g, x) :: putFl f v r
def cut {α : Type} (xs : List α) (lo hi : Option Int) : List α := (xs.drop (HT.sIx xs.length 0 lo)).take (HT.sIx xs.length xs.length hi - HT.sIx xs.length 0 lo)

/-! ### operators -/
def mulOk (i j : Int) : Bool := (decide (-(2 ^ 64) < i) && decide (i < 2 ^ 64)) || (decide (-(2 ^ 64) < j) && decide (j < 2 ^ 64))
def addV (x y : Val) : M Val := fun h => match x, y with
  | .int i, .int j => .ok (.int (i + j)) h
  | .str a, .str b => if a.length + b.length ≤ sizeLine then .ok (.str (a ++ b)) h else .no
  | .tup xs, .tup ys => if xs.length + ys.length ≤ sizeLine then .ok (.tup (xs ++ ys)) h else .no
  | .ref a, .ref b => match h.ob a, h.ob b with
    | .lst xs, .lst ys => if xs.length + ys.length ≤ sizeLine then newO (.lst (xs ++ ys)) h else .no
    | _, _ => .no
  | _, _ => .no
def subV (x y : Val) : M Val := match x, y with
  | .int i, .int j => ret (.int (i - j))
  | _, _ => no
def mulV (x y : Val) : M Val := fun h => match x, y with
  | .int i, .int j => if mulOk i j = true then .ok (.int (i * j)) h else .no
  | .tup xs, .int k => if xs ≠ [] ∧ 2 ≤ k ∧ k ≤ 1000 ∧ xs.length ≤ 1000 then .ok (.tup (List.replicate k.toNat xs).flatten) h else .no
  | .ref a, .int k => match h.ob a with
    | .lst xs => if -(2 ^ 63) ≤ k ∧ k < 2 ^ 63 ∧ xs.length * k.toNat ≤ sizeLine then newO (.lst (List.replicate k.toNat xs).flatten) h else .no
    | _ => .no
  | _, _ => .no
def fdivV (x y : Val) : M Val := match x, y with
  | .int i, .int j => if 0 < j ∧ j < 1073741824 then ret (.int (i / j)) else no
  | _, _ => no
def modV (x y : Val) : M Val := match x, y with
  | .int i, .int j => if 0 < j then ret (.int (i % j)) else no
  | _, _ => no
def andV (x y : Val) : M Val := match x, y with
  | .int i, .int j => ret (.int (Builtin.bitAnd i j))
  | _, _ => no
inductive BO where | add | sub | mul | fdiv | mod | band
  deriving DecidableEq
def binV : BO → Val → Val → M Val
  | .add => addV
  | .sub => subV
  | .mul => mulV
  | .fdiv => fdivV
  | .mod => modV
  | .band => andV
/-- x += y -/
def iaddV (x y : Val) : M Val := fun h => match x, y with
  | .int i, .int j => .ok (.int (i + j)) h
  | .str a, .str b => if a.length + b.length ≤ sizeLine then .ok (.str (a ++ b)) h else .no
  | _, _ => .no
def ordV (p : Int → Int → Bool) (x y : Val) : M Val := match x, y with
  | .int i, .int j => ret (.bl (p i j))
  | _, _ => no
/-- a tuple's ints -/
def intsV : List Val → Option (List Int)
  | [] => some []
  | .int i :: r => (intsV r).map (i :: ·)
  | _ => none
def ltV (x y : Val) : M Val := match x, y with
  | .int i, .int j => ret (.bl (decide (i < j)))
  | .str a, .str b => ret (.bl (decide (a.cps.toList < b.cps.toList)))
  | .tup xs, .tup ys => match intsV xs, intsV ys with
    | some ns, some ms => ret (.bl (HT.lexLt ns ms))
    | _, _ => no
  | _, _ => no
def isV (x y : Val) : M Val := match y with
  | .non => ret (.bl (decide (x = .non)))
  | .bl b => match x with
    | .bl a => ret (.bl (decide (a = b)))
    | _ => no
  | _ => no
/-- the data of a list or a tuple -/
def itemsD (ro : Ro) (h : Hs) (y : Val) : Option (List PyData) := match tuV ro y with
  | some ys => ys.mapM (pyV ro h 19)
  | none => match sqV ro h y with
    | some ys => ys.mapM (pyV ro h 19)
    | none => none
def inV (ro : Ro) (x y : Val) : M Bool := fun h => match itemsD ro h y with
  | some ds => match pyV ro h 20 x with
    | some d => .ok (ds.any fun z => PyData.eqv z d) h
    | none => .no
  | none => match y with
    | .str b => match x with
      | .str a => .ok (!(Builtin.Str.occurrences b a 0 b.length 1).isEmpty) h
      | _ => .no
    | .ref a => match h.ob a with
      | .dK kvs => match keyV x with
        | some k => .ok (look kvs k).isSome h
        | none => .no
      | .dT kvs => match keyTV x with
        | some k => .ok (look kvs k).isSome h
        | none => .no
      | _ => .no
    | _ => .no
inductive CO where | eq | ne | lt | le | gt | ge | is | isnot | isin | notin
  deriving DecidableEq
def cmpV (ro : Ro) : CO → Val → Val → M Val
  | .eq, x, y => bnd (eqM ro x y) fun b => ret (.bl b)
  | .ne, x, y => bnd (eqM ro x y) fun b => ret (.bl (!b))
  | .lt, x, y => ltV x y
  | .le, x, y => ordV (fun i j => decide (i ≤ j)) x y
  | .gt, x, y => ordV (fun i j => decide (j < i)) x y
  | .ge, x, y => ordV (fun i j => decide (j ≤ i)) x y
  | .is, x, y => isV x y
  | .isnot, x, y => bnd (isV x y) fun v => bnd (asB v) fun b => ret (.bl (!b))
  | .isin, x, y => bnd (inV ro x y) fun b => ret (.bl b)
  | .notin, x, y => bnd (inV ro x y) fun b => ret (.bl (!b))
/-- d[k] -/
def dget (h : Hs) (x y : Val) : Option Val := match x with
  | .ref a => match h.ob a with
    | .dK kvs => match keyV y with
      | some k => look kvs k
      | none => none
    | .dT kvs => match keyTV y with
      | some k => look kvs k
      | none => none
    | _ => none
  | _ => none
def ixV (ro : Ro) (x y : Val) : M Val := fun h => match sqV ro h x with
  | some xs => match y with
    | .int i => match atI xs i with
      | some v => .ok v h
      | none => .no
    | _ => .no
  | none => match x with
    | .str z => match y with
      | .int i => if z.length ≤ sizeLine then match atI z.cps.toList i with
        | some c => .ok (.str ⟨#[c]⟩) h
        | none => .no else .no
      | _ => .no
    | x => match tuV ro x with
     | some xs => match y with
      | .int i => match atI xs i with
        | some v => .ok v h
        | none => .no
      | _ => .no
     | none => match dget h x y with
      | some v => .ok v h
      | none => .no
def slV (ro : Ro) (x : Val) (lo hi : Option Int) : M Val := fun h => match sqV ro h x with
  | some xs => newO (.lst (cut xs lo hi)) h
  | none => match x with
    | .tup xs => .ok (.tup (cut xs lo hi)) h
    | _ => .no
def revV (ro : Ro) (x : Val) : M Val := fun h => match sqV ro h x with
  | some xs => newO (.lst xs.reverse) h
  | none => .no
/-- the heap behind o[i] = v -/
def dput (h : Hs) (o i v : Val) : Option Hs := match o with
  | .ref a => match h.ob a with
    | .lst xs => match i with
      | .int k => match ixN xs.length k with
        | some j => some (h.put a (.lst (xs.set j v)))
        | none => none
      | _ => none
    | .dK kvs => match keyV i with
      | some k => if kvs.length < sizeLine then some (h.put a (.dK (putD kvs k v))) else none
      | none => none
    | .dT kvs => match keyTV i with
      | some k => if kvs.length < sizeLine then some (h.put a (.dT (putD kvs k v))) else none
      | none => none
    | _ => none
  | _ => none
def setIx (o i v : Val) : M Unit := fun h => match dput h o i v with
  | some h' => .ok () h'
  | none => .no
def delIx (o i : Val) : M Unit := fun h => match o with
  | .ref a => match h.ob a with
    | .dK kvs => match keyV i with
      | some k => if (look kvs k).isSome = true then .ok () (h.put a (.dK (dropD kvs k))) else .no
      | none => .no
    | _ => .no
  | _ => .no
def getF (at_ : Nat → Nat → Bool) (x : Val) (f : Nat) : M Val := fun h => match x with
  | .ref a => match h.ob a with
    | .ins c fs => match fs.lookup f with
      | some v => if at_ c f = true then .ok v h else .no
      | none => .no
    | _ => .no
  | _ => .no
def setF (at_ : Nat → Nat → Bool) (x : Val) (f : Nat) (v : Val) : M Unit := fun h => match x with
  | .ref a => match h.ob a with
    | .ins c fs => if at_ c f = true ∧ fs.length < 1000 then .ok () (h.put a (.ins c (putFl f v fs))) else .no
    | _ => .no
  | _ => .no

/-! ### built-ins -/
inductive BI where | len | int | list | tuple | sum | all | any | max | min | sorted
  deriving DecidableEq
def boolsV : List Val → Option (List Bool)
  | [] => some []
  | .bl i :: r => (boolsV r).map (i :: ·)
  | _ => none
def isort : List Int → List Int := fun xs => xs.mergeSort (fun a b => decide (a ≤ b))
/-- the items of a list or a tuple -/
def itemsV (ro : Ro) (h : Hs) (x : Val) : Option (List Val) := match tuV ro x with
  | some xs => some xs
  | none => sqV ro h x
def lenV (ro : Ro) (h : Hs) (x : Val) : Option Nat := match itemsV ro h x with
  | some xs => some xs.length
  | none => match x with
    | .str y => if y.length ≤ sizeLine then some y.length else none
    | .ref a => match h.ob a with
      | .dK kvs => some kvs.length
      | _ => none
    | _ => none
def biV (ro : Ro) (b : BI) (vs : List Val) : M Val := fun h => match b, vs with
  | .len, [x] => match lenV ro h x with
    | some n => .ok (.int n) h
    | none => .no
  | .int, [.int i] => .ok (.int i) h
  | .list, [x] => match itemsV ro h x with
    | some xs => newO (.lst xs) h
    | none => .no
  | .tuple, [.tup xs] => .ok (.tup xs) h
  | .tuple, [x] => match sqV ro h x with
    | some xs => .ok (.tup xs) h
    | none => .no
  | .sum, [x] => match sqV ro h x with
    | some xs => match intsV xs with
      | some ns => .ok (.int ns.sum) h
      | none => .no
    | none => .no
  | .all, [x] => match sqV ro h x with
    | some xs => match boolsV xs with
      | some ns => .ok (.bl (ns.all id)) h
      | none => .no
    | none => .no
  | .any, [x] => match sqV ro h x with
    | some xs => match boolsV xs with
      | some ns => .ok (.bl (ns.any id)) h
      | none => .no
    | none => .no
  | .max, [.int i, .int j] => .ok (.int (if j > i then j else i)) h
  | .min, [.int i, .int j] => .ok (.int (if j < i then j else i)) h
  | .sorted, [x] => match sqV ro h x with
    | some xs => match intsV xs with
      | some ns => if ns.length < 64 then newO (.lst ((isort ns).map .int)) h else .no
      | none => .no
    | none => .no
  | _, _ => .no
inductive BM where | append | extend | pop | clear
  deriving DecidableEq
/-- the receiver's type -/
def bmTy (m : BM) (x : Val) (h : Hs) : Bool := match x with
  | .ref a => match h.ob a with
    | .lst _ => true
    | _ => false
  | _ => false
def bmV (m : BM) (x : Val) (vs : List Val) : M Val := fun h => match m, x, vs with
  | .append, .ref a, [v] => match h.ob a with
    | .lst xs => if xs.length < sizeLine then .ok .non (h.put a (.lst (xs ++ [v]))) else .no
    | _ => .no
  | .extend, .ref a, [.ref b] => match h.ob a, h.ob b with
    | .lst xs, .lst ys => if xs.length + ys.length ≤ sizeLine then .ok .non (h.put a (.lst (xs ++ ys))) else .no
    | _, _ => .no
  | .pop, .ref a, [] => match h.ob a with
    | .lst xs => match xs[xs.length - 1]? with
      | some y => .ok y (h.put a (.lst xs.dropLast))
      | none => .no
    | _ => .no
  | .pop, .ref a, [.int i] => match h.ob a with
    | .lst xs => match ixN xs.length i with
      | some k => match xs[k]? with
        | some y => .ok y (h.put a (.lst (xs.eraseIdx k)))
        | none => .no
      | none => .no
    | _ => .no
  | .clear, .ref a, [] => match h.ob a with
    | .lst _ => .ok .non (h.put a (.lst []))
    | _ => .no
  | _, _, _ => .no
/-- a text's or an int's text -/
def fmtV (x : Val) : M Val := match x with
  | .str y => if y.length ≤ sizeLine then ret (.str y) else no
  | .int i => if i.natAbs.log2 < 1920 then ret (.str (toString i)) else no
  | _ => no

/-! ### the language -/
mutual
inductive ME where
  | non | bl (b : Bool) | int (i : Int) | str (x : Str)
  | v (i : Nat) | g (x : Nat)
  | tup (es : MEs) | lst (es : MEs) | dK0 | dT0
  | bin (op : BO) (a b : ME) | neg (a : ME)
  | cmp (op : CO) (a b : ME) | chain (op op' : CO) (a b c : ME)
  | and (es : MEs) | or (es : MEs) | not (a : ME) | ife (c a b : ME)
  | ix (a b : ME) | sl (a : ME) (lo hi : MO) | rev (a : ME)
  | att (a : ME) (f : Nat)
  | call (f : Nat) (es : MEs) | meth (m : Nat) (a : ME) (es : MEs) | make (c : Nat) (es : MEs)
  | bi (b : BI) (es : MEs) | bm (m : BM) (a : ME) (es : MEs)
  | comp (own : List Nat) (elt : ME) (tg : MT) (it : MI) (ifs : MO)
  | fmt (a : ME) | fs (es : MEs)
inductive MEs where
  | nil | cons (a : ME) (r : MEs)
inductive MO where
  | none | some (a : ME)
inductive MT where
  | v (i : Nat) | tup (ts : MTs) | ix (o i : ME) | att (a : ME) (f : Nat)
inductive MTs where
  | nil | cons (a : MT) (r : MTs)
inductive MI where
  | val (a : ME) | range (es : MEs) | enum (a : ME)
end
mutual
inductive MS where
  | pass | expr (e : ME) | asg (t : MT) (e : ME) | aug (i : Nat) (e : ME) | augA (a : ME) (f : Nat) (e : ME) | augS (o i : ME) (e : ME)
  | ret (e : ME) | retN | ife (c : ME) (a b : MSs) | while (c : ME) (b : MSs) | for (t : MT) (it : MI) (b : MSs) | brk | cont
  | raise (c : Nat) (es : MEs) | try (b : MSs) (hs : MHs) | del (o i : ME) | never
inductive MSs where
  | nil | cons (s : MS) (r : MSs)
inductive MHs where
  | nil | cons (c : Nat) (b : MSs) (r : MHs)
end
/-- a def: its parameters' number, its slots' number, its body -/
structure Fn where
  np : Nat
  ns : Nat
  body : MSs
structure Tb where
  fn : Nat → Option Fn
  /-- class, method: the def's number -/
  me : Nat → Nat → Option Nat
  /-- the def of a class's __init__ -/
  ini : Nat → Option Nat
  glob : Nat → Option Val
  ro : Ro
  /-- the attributes that a class's instances have of their own -/
  at_ : Nat → Nat → Bool
  /-- is the first exception class caught by the second -/
  sub : Nat → Nat → Option Bool

/-! ### the semantics -/
/-- behind an __init__ -/
def endM (n : Nat) (r : Val) : M Val := match r with
  | .non => ret (.ref n)
  | _ => no
abbrev CallF := Nat → List Val → M Val
def wipe (ρ : Env) : List Nat → Env
  | [] => ρ
  | v :: vs => (wipe ρ vs).set v none
/-- a source: the list that is walked, if it is one, and the items -/
structure Src where
  at_ : Option Nat
  items : List Val
def Src.chk (s : Src) (h : Hs) : Bool := match s.at_ with
  | none => true
  | some a => decide (h.ob a = .lst s.items)
def rng (lo : Int) (n : Nat) : List Val := (List.range n).map fun i => Val.int (lo + (i : Nat))
def rngC (lo c : Int) (n : Nat) : List Val := (List.range n).map fun i => Val.int (lo + (i : Nat) * c)
def inR (i : Int) : Bool := decide (-(2 ^ 62) ≤ i) && decide (i < 2 ^ 62)
def rangeV (vs : List Val) : M Src := match vs with
  | [.int n] => if inR n = true then ret ⟨none, rng 0 n.toNat⟩ else no
  | [.int a, .int b] => if (inR a && inR b) = true then ret ⟨none, rng a (b - a).toNat⟩ else no
  | [.int a, .int b, .int c] => if c ≠ 0 ∧ c.natAbs < 1073741824 ∧ Builtin.Range.small a b c = true ∧ 0 ≤ Builtin.Range.rangeSize a b c then ret ⟨none, rngC a c (Builtin.Range.rangeSize a b c).toNat⟩ else no
  | _ => no
def valSrc (ro : Ro) (x : Val) : M Src := fun h => match x with
  | .tup xs => .ok ⟨none, xs⟩ h
  | .str y => .ok ⟨none, y.cps.toList.map fun c => Val.str ⟨#[c]⟩⟩ h
  | .ref a => match h.ob a with
    | .lst xs => .ok ⟨some a, xs⟩ h
    | _ => .no
  | .cst c => match ro c with
    | some (_, xs) => .ok ⟨none, xs⟩ h
    | none => .no
  | _ => .no
/-- what raises is no run -/
def nx {α : Type} (m : M α) : M α := fun h => match m h with
  | .ok a h' => .ok a h'
  | .ex _ _ => .no
  | .no => .no
/-- the turns of a comprehension -/
def compL (s : Src) (turn : Val → M (Option Val)) : List Val → M (List Val)
  | [] => fun h => if s.chk h = true then .ok [] h else .no
  | x :: xs => fun h => if s.chk h = true then bnd (nx (turn x)) (fun o => bnd (compL s turn xs) fun r => ret (o.toList ++ r)) h else .no
section
variable (T : Tb) (cl : CallF)
mutual
def evE : ME → Env → M Val
  | .non, _ => ret .non
  | .bl b, _ => ret (.bl b)
  | .int i, _ => ret (.int i)
  | .str x, _ => ret (.str x)
  | .v i, ρ => getv i ρ
  | .g x, _ => match T.glob x with
    | some v => ret v
    | none => no
  | .tup es, ρ => bnd (evEs es ρ) fun vs => if vs.length ≤ sizeLine then ret (.tup vs) else no
  | .lst es, ρ => bnd (evEs es ρ) fun vs => if vs.length ≤ sizeLine then newO (.lst vs) else no
  | .dK0, _ => newO (.dK [])
  | .dT0, _ => newO (.dT [])
  | .bin op a b, ρ => bnd (evE a ρ) fun x => bnd (evE b ρ) fun y => binV op x y
  | .neg a, ρ => bnd (evE a ρ) fun x => match x with
    | .int i => ret (.int (-i))
    | _ => no
  | .cmp op a b, ρ => bnd (evE a ρ) fun x => bnd (evE b ρ) fun y => cmpV T.ro op x y
  | .chain op op' a b c, ρ => bnd (evE a ρ) fun x => bnd (evE b ρ) fun y => bnd (cmpV T.ro op x y) fun z => bnd (asB z) fun k =>
    if k = true then bnd (evE c ρ) fun w => cmpV T.ro op' y w else ret (.bl false)
  | .and es, ρ => evAnd es ρ
  | .or es, ρ => evOr es ρ
  | .not a, ρ => bnd (evE a ρ) fun x => bnd (asB x) fun b => ret (.bl (!b))
  | .ife c a b, ρ => bnd (evE c ρ) fun x => bnd (truV T.ro x) fun k => if k = true then evE a ρ else evE b ρ
  | .ix a b, ρ => bnd (evE a ρ) fun x => bnd (evE b ρ) fun y => ixV T.ro x y
  | .sl a lo hi, ρ => bnd (evE a ρ) fun x => bnd (evO lo ρ) fun l => bnd (evO hi ρ) fun u => slV T.ro x l u
  | .rev a, ρ => bnd (evE a ρ) fun x => revV T.ro x
  | .att a f, ρ => bnd (evE a ρ) fun x => getF T.at_ x f
  | .call f es, ρ => bnd (evEs es ρ) fun vs => cl f vs
  | .meth m a es, ρ => bnd (evE a ρ) fun x => fun h => match x with
    | .ref n => match h.ob n with
      | .ins c fs => match T.me c m, fs.lookup m with
        | some f, none => bnd (evEs es ρ) (fun vs => cl f (x :: vs)) h
        | _, _ => .no
      | _ => .no
    | _ => .no
  | .make c es, ρ => bnd (evEs es ρ) fun vs => fun h => match T.ini c with
    | some f => bnd (cl f (.ref h.sz :: vs)) (endM h.sz) (h.new (.ins c []))
    | none => .no
  | .bi b es, ρ => bnd (evEs es ρ) fun vs => biV T.ro b vs
  | .bm m a es, ρ => bnd (evE a ρ) fun x => fun h => if bmTy m x h = true then bnd (evEs es ρ) (fun vs => bmV m x vs) h else .no
  | .comp own elt tg it ifs, ρ => bnd (evI it ρ) fun s => if s.items.length ≤ sizeLine then bnd (compL s (fun x => bnd (asgT tg x (wipe ρ own)) fun ρ' => bnd (evIf ifs ρ') fun b =>
      if b = true then bnd (evE elt ρ') fun y => ret (some y) else ret none) s.items) fun vs => newO (.lst vs) else no
  | .fmt a, ρ => bnd (evE a ρ) fmtV
  | .fs es, ρ => evFs es Str.empty ρ
def evEs : MEs → Env → M (List Val)
  | .nil, _ => ret []
  | .cons a r, ρ => bnd (evE a ρ) fun x => bnd (evEs r ρ) fun xs => ret (x :: xs)
def evFs : MEs → Str → Env → M Val
  | .nil, acc, _ => ret (.str acc)
  | .cons a r, acc, ρ => bnd (evE a ρ) fun x => match x with
    | .str y => if (acc ++ y).length ≤ sizeLine then evFs r (acc ++ y) ρ else no
    | _ => no
def evAnd : MEs → Env → M Val
  | .nil, _ => no
  | .cons a .nil, ρ => bnd (evE a ρ) fun x => bnd (asB x) fun b => ret (.bl b)
  | .cons a r, ρ => bnd (evE a ρ) fun x => bnd (asB x) fun b => if b = true then evAnd r ρ else ret (.bl false)
def evOr : MEs → Env → M Val
  | .nil, _ => no
  | .cons a .nil, ρ => bnd (evE a ρ) fun x => bnd (asB x) fun b => ret (.bl b)
  | .cons a r, ρ => bnd (evE a ρ) fun x => bnd (asB x) fun b => if b = true then ret (.bl true) else evOr r ρ
def evO : MO → Env → M (Option Int)
  | .none, _ => ret none
  | .some a, ρ => bnd (evE a ρ) fun x => match x with
    | .int i => ret (some i)
    | _ => no
def evIf : MO → Env → M Bool
  | .none, _ => ret true
  | .some a, ρ => bnd (evE a ρ) (truV T.ro)
def evI : MI → Env → M Src
  | .val a, ρ => bnd (evE a ρ) (valSrc T.ro)
  | .range es, ρ => bnd (evEs es ρ) rangeV
  | .enum a, ρ => bnd (evE a ρ) fun _ => no
def asgT : MT → Val → Env → M Env
  | .v i, x, ρ => setv i x ρ
  | .tup ts, x, ρ => fun h => match itemsV T.ro h x with
    | some xs => asgTs ts xs ρ h
    | none => .no
  | .ix o i, x, ρ => nx (bnd (evE o ρ) fun a => bnd (evE i ρ) fun k => bnd (setIx a k x) fun _ => ret ρ)
  | .att a f, x, ρ => nx (bnd (evE a ρ) fun o => bnd (setF T.at_ o f x) fun _ => ret ρ)
def asgTs : MTs → List Val → Env → M Env
  | .nil, [], ρ => ret ρ
  | .nil, _ :: _, _ => no
  | .cons _ _, [], _ => no
  | .cons t r, x :: xs, ρ => bnd (asgT t x ρ) fun ρ' => asgTs r xs ρ'
end
end
inductive Fl where
  | nx (ρ : Env) | rt (v : Val) | bk (ρ : Env) | ct (ρ : Env)
inductive RS where
  | fl (f : Fl) (h : Hs) | ex (x : Exc) (ρ : Env) (h : Hs) | no
abbrev SS := Env → Hs → RS
/-- what raises is no run -/
def nxS (a : SS) : SS := fun ρ h => match a ρ h with
  | .ex _ _ _ => .no
  | r => r
/-- an expression within a statement -/
def wth {α : Type} (m : M α) (ρ : Env) (f : α → Hs → RS) : Hs → RS := fun h => match m h with
  | .ok a h' => f a h'
  | .ex x h' => .ex x ρ h'
  | .no => .no
def seqS (a b : SS) : SS := fun ρ h => match a ρ h with
  | .fl (.nx ρ') h' => b ρ' h'
  | r => r
def loopS (s : Src) (turn : Val → SS) : List Val → SS
  | [] => fun ρ h => if s.chk h = true then .fl (.nx ρ) h else .no
  | x :: xs => fun ρ h => if s.chk h = true then match turn x ρ h with
    | .fl (.nx ρ') h' => loopS s turn xs ρ' h'
    | .fl (.ct ρ') h' => loopS s turn xs ρ' h'
    | .fl (.bk ρ') h' => .fl (.nx ρ') h'
    | .fl (.rt v) h' => .fl (.rt v) h'
    | .ex x ρ' h' => .ex x ρ' h'
    | .no => .no else .no
def whileS (c : Env → M Bool) (turn : SS) : Nat → SS
  | 0 => fun _ _ => .no
  | n + 1 => fun ρ h => wth (c ρ) ρ (fun b h => if b = true then match turn ρ h with
    | .fl (.nx ρ') h' => whileS c turn n ρ' h'
    | .fl (.ct ρ') h' => whileS c turn n ρ' h'
    | .fl (.bk ρ') h' => .fl (.nx ρ') h'
    | .fl (.rt v) h' => .fl (.rt v) h'
    | .ex x ρ' h' => .ex x ρ' h'
    | .no => .no else .fl (.nx ρ) h) h
def whileFuel : Nat := 1000000
section
variable (T : Tb) (cl : CallF)
mutual
def evS : MS → SS
  | .pass => fun ρ h => .fl (.nx ρ) h
  | .expr e => fun ρ => wth (evE T cl e ρ) ρ fun _ h => .fl (.nx ρ) h
  | .asg t e => fun ρ => wth (bnd (evE T cl e ρ) fun x => nx (asgT T cl t x ρ)) ρ fun ρ' h => .fl (.nx ρ') h
  | .aug i e => fun ρ => wth (bnd (getv i ρ) fun x => bnd (evE T cl e ρ) fun y => bnd (iaddV x y) fun z => setv i z ρ) ρ fun ρ' h => .fl (.nx ρ') h
  | .augA a f e => fun ρ => wth (bnd (evE T cl a ρ) fun o => bnd (getF T.at_ o f) fun x => bnd (evE T cl e ρ) fun y => bnd (iaddV x y) fun z => setF T.at_ o f z) ρ fun _ h => .fl (.nx ρ) h
  | .augS o i e => fun ρ => wth (bnd (evE T cl o ρ) fun a => bnd (evE T cl i ρ) fun k => bnd (ixV T.ro a k) fun x => bnd (evE T cl e ρ) fun y => bnd (iaddV x y) fun z => setIx a k z) ρ fun _ h => .fl (.nx ρ) h
  | .ret e => fun ρ => wth (evE T cl e ρ) ρ fun v h => .fl (.rt v) h
  | .retN => fun _ h => .fl (.rt .non) h
  | .ife c a b => fun ρ => wth (bnd (evE T cl c ρ) (truV T.ro)) ρ fun k h => if k = true then evSs a ρ h else evSs b ρ h
  | .while c b => fun ρ h => whileS (fun ρ => bnd (evE T cl c ρ) (truV T.ro)) (evSs b) whileFuel ρ h
  | .for t it b => fun ρ => wth (evI T cl it ρ) ρ fun s h => loopS s (fun x ρ => wth (nx (asgT T cl t x ρ)) ρ fun ρ' h => evSs b ρ' h) s.items ρ h
  | .brk => fun ρ h => .fl (.bk ρ) h
  | .cont => fun ρ h => .fl (.ct ρ) h
  | .raise c es => fun ρ => wth (evEs T cl es ρ) ρ fun vs h => .ex ⟨c, vs⟩ ρ h
  | .try b hs => fun ρ h => match evSs b ρ h with
    | .ex x ρ' h' => evH hs x ρ' h'
    | r => r
  | .del o i => fun ρ => wth (bnd (evE T cl o ρ) fun a => bnd (evE T cl i ρ) fun k => delIx a k) ρ fun _ h => .fl (.nx ρ) h
  | .never => fun _ _ => .no
def evSs : MSs → SS
  | .nil => fun ρ h => .fl (.nx ρ) h
  | .cons s r => seqS (evS s) (evSs r)
def evH : MHs → Exc → SS
  | .nil, x => fun ρ h => .ex x ρ h
  | .cons c b r, x => fun ρ h => match T.sub x.cls c with
    | some true => nxS (evSs b) ρ h
    | some false => evH r x ρ h
    | none => .no
end
/-- a def's run -/
def runF (F : Fn) (vs : List Val) : M Val := fun h => if vs.length = F.np ∧ F.np ≤ F.ns then
  match evSs T cl F.body (vs.map some ++ List.replicate (F.ns - F.np) none) h with
  | .fl (.nx _) h' => .ok .non h'
  | .fl (.rt v) h' => .ok v h'
  | .ex x _ h' => .ex x h'
  | _ => .no else .no
end
/-- calls to a depth -/
def callD (T : Tb) : Nat → CallF
  | 0 => fun _ _ => no
  | d + 1 => fun f vs => match T.fn f with
    | some F => runF T (callD T d) F vs
    | none => no
end MP

set_option maxRecDepth 100000
namespace MP
open PySem L2

/-- how numbers are read: classes, attributes, constants -/
structure Ln where
  K : PySem.W.Frag
  cA : Nat → Addr
  fN : Nat → Str
  kA : Nat → Addr
  fI : ∀ a b, fN a = fN b → a = b
structure Wd where
  ι : Nat → Addr
  h : Hs
  H : Hp
mutual
inductive VR (L : Ln) (w : Wd) : Val → V → Prop where
  | non : VR L w .non .non
  | bl (b : Bool) : VR L w (.bl b) (.bl b)
  | int (i : Int) : VR L w (.int i) (.int i)
  | str (x : Str) : VR L w (.str x) (.str x)
  | tup {xs : List Val} {p : Addr} {vs : List V} : w.H p = some (.tup vs) → VRs L w xs vs → VR L w (.tup xs) (.ref p)
  | ref {i : Nat} : i < w.h.sz → VR L w (.ref i) (.ref (w.ι i))
  | cst (c : Nat) : VR L w (.cst c) (.ref (L.kA c))
inductive VRs (L : Ln) (w : Wd) : List Val → List V → Prop where
  | nil : VRs L w [] []
  | cons {v : Val} {x : V} {vs : List Val} {xs : List V} : VR L w v x → VRs L w vs xs → VRs L w (v :: vs) (x :: xs)
end
def KR {κ : Type} (L : Ln) (w : Wd) : List (κ × Val) → List (κ × V) → Prop := Paired fun p q => p.1 = q.1 ∧ VR L w p.2 q.2
def FR (L : Ln) (w : Wd) : List (Nat × Val) → List (Str × V) → Prop := Paired fun p q => q.1 = L.fN p.1 ∧ VR L w p.2 q.2
def ObR (L : Ln) (w : Wd) : Ob → Addr → Prop
  | .nil, _ => False
  | .lst xs, a => ∃ vs, VRs L w xs vs ∧ w.H a = some (.lst vs)
  | .dK kvs, a => ∃ ks, KR L w kvs ks ∧ w.H a = some (.dK ks)
  | .dT kvs, a => ∃ ks, KR L w kvs ks ∧ w.H a = some (.dT ks)
  | .ins c fs, a => ∃ dx gs, FR L w fs gs ∧ w.H a = some (.ins (L.cA c) dx gs) ∧ w.H dx = some (.own a)
/-- a list of the written part -/
def KL (K : PySem.W.Frag) (a : Addr) (xs : List V) : Prop := ∃ (o : Obj) (its : Array Value) (n : Nat), K.lookup a = some o ∧ o.cls = .type "list" ∧ o.dict = none ∧ o.data = .seq its n ∧ its.size ≤ sizeLine ∧ Vals xs its.toList
/-- a tuple of the written part -/
def KT' (K : PySem.W.Frag) (a : Addr) (xs : List V) : Prop := ∃ (o : Obj) (its : Array Value) (n : Nat), K.lookup a = some o ∧ o.cls = .type "tuple" ∧ o.data = .seq its n ∧ its.size ≤ sizeLine ∧ Vals xs its.toList
structure Sim (L : Ln) (ro : Ro) (w : Wd) : Prop where
  obj : ∀ n, n < w.h.sz → ObR L w (w.h.ob n) (w.ι n)
  inj : ∀ m n, m < w.h.sz → n < w.h.sz → w.ι m = w.ι n → m = n
  cst : ∀ c xs, ro c = some (false, xs) → ∃ vs, VRs L w xs vs ∧ ((∃ o, w.H (L.kA c) = some (.frz o (.lst vs))) ∨ KL L.K (L.kA c) vs)
  cstT : ∀ c xs, ro c = some (true, xs) → ∃ vs, VRs L w xs vs ∧ KT' L.K (L.kA c) vs
def Mine (w : Wd) (b : Addr) : Prop := ∃ n, n < w.h.sz ∧ w.ι n = b
structure Ext (w w' : Wd) : Prop where
  sz : w.h.sz ≤ w'.h.sz
  io : ∀ n, n < w.h.sz → w'.ι n = w.ι n
  keep : ∀ b o, w.H b = some o → ¬ Mine w b → w'.H b = some o
  fresh : ∀ n, w.h.sz ≤ n → n < w'.h.sz → w.H (w'.ι n) = none
section
variable {L : Ln} {ro : Ro} {w w' w1 w2 : Wd}
/-- what stands at an object of ours -/
def isMine : HO → Prop
  | .lst _ => True
  | .dK _ => True
  | .dT _ => True
  | .ins _ _ _ => True
  | _ => False
theorem ObR.kind {o : Ob} {a : Addr} (r : ObR L w o a) : ∃ u, w.H a = some u ∧ isMine u := by
  cases o with
  | nil => exact r.elim
  | lst xs => obtain ⟨vs, _, e⟩ := r; exact ⟨_, e, trivial⟩
  | dK kvs => obtain ⟨vs, _, e⟩ := r; exact ⟨_, e, trivial⟩
  | dT kvs => obtain ⟨vs, _, e⟩ := r; exact ⟨_, e, trivial⟩
  | ins c fs => obtain ⟨dx, gs, _, e, _⟩ := r; exact ⟨_, e, trivial⟩
theorem Sim.mine (S : Sim L ro w) {b : Addr} (m : Mine w b) : ∃ u, w.H b = some u ∧ isMine u := by
  obtain ⟨n, hn, rfl⟩ := m
  exact (S.obj n hn).kind
theorem Sim.notMine (S : Sim L ro w) {b : Addr} {u : HO} (e : w.H b = some u) (k : ¬ isMine u) : ¬ Mine w b := fun m => by
  obtain ⟨u', e', k'⟩ := S.mine m
  rw [e] at e'; cases e'; exact k k'
theorem Sim.noneMine (S : Sim L ro w) {b : Addr} (e : w.H b = none) : ¬ Mine w b := fun m => by
  obtain ⟨u', e', _⟩ := S.mine m
  rw [e] at e'; cases e'
theorem Ext.refl (w : Wd) : Ext w w := ⟨Nat.le_refl _, fun _ _ => rfl, fun _ _ e _ => e, fun n h1 h2 => absurd h2 (Nat.not_lt_of_le h1)⟩
theorem Ext.trans (S1 : Sim L ro w1) (a : Ext w w1) (b : Ext w1 w2) : Ext w w2 := by
  have mine1 : ∀ b' o, w.H b' = some o → ¬ Mine w b' → ¬ Mine w1 b' := fun b' o e m ⟨n, hn, q⟩ => by
    by_cases hl : n < w.h.sz
    · exact m ⟨n, hl, by rw [← a.io n hl]; exact q⟩
    · have := a.fresh n (Nat.le_of_not_lt hl) hn
      rw [q, e] at this; cases this
  refine ⟨Nat.le_trans a.sz b.sz, fun n hn => ?_, fun b' o e m => ?_, fun n h1 h2 => ?_⟩
  · rw [b.io n (Nat.lt_of_lt_of_le hn a.sz), a.io n hn]
  · exact b.keep b' o (a.keep b' o e m) (mine1 b' o e m)
  · by_cases hl : n < w1.h.sz
    · rw [b.io n hl]; exact a.fresh n h1 hl
    · have f2 := b.fresh n (Nat.le_of_not_lt hl) h2
      cases q : w.H (w2.ι n) with
      | none => rfl
      | some o =>
        by_cases m : Mine w (w2.ι n)
        · obtain ⟨k, hk, e⟩ := m
          have : Mine w1 (w2.ι n) := ⟨k, Nat.lt_of_lt_of_le hk a.sz, by rw [a.io k hk]; exact e⟩
          exact absurd this (S1.noneMine f2)
        · rw [a.keep _ o q m] at f2; cases f2
theorem Ext.tup (S : Sim L ro w) (e : Ext w w') {p : Addr} {vs : List V} (h : w.H p = some (.tup vs)) : w'.H p = some (.tup vs) := e.keep _ _ h (S.notMine h (fun z => z))
mutual
theorem VR.ext (S : Sim L ro w) (e : Ext w w') : ∀ {v : Val} {x : V}, VR L w v x → VR L w' v x
  | _, _, .non => .non
  | _, _, .bl b => .bl b
  | _, _, .int i => .int i
  | _, _, .str x => .str x
  | _, _, .tup h r => .tup (e.tup S h) (VRs.ext S e r)
  | _, _, .ref (i := i) h => by
    rw [← e.io i h]
    exact .ref (Nat.lt_of_lt_of_le h e.sz)
  | _, _, .cst c => .cst c
theorem VRs.ext (S : Sim L ro w) (e : Ext w w') : ∀ {v : List Val} {x : List V}, VRs L w v x → VRs L w' v x
  | _, _, .nil => .nil
  | _, _, .cons a r => .cons (VR.ext S e a) (VRs.ext S e r)
end
theorem VRs.length : ∀ {v : List Val} {x : List V}, VRs L w v x → v.length = x.length
  | _, _, .nil => rfl
  | _, _, .cons _ r => by rw [List.length_cons, List.length_cons, r.length]
theorem VRs.append : ∀ {a b : List Val} {x y : List V}, VRs L w a x → VRs L w b y → VRs L w (a ++ b) (x ++ y)
  | _, _, _, _, .nil, s => s
  | _, _, _, _, .cons r t, s => .cons r (VRs.append t s)
theorem VRs.get : ∀ {v : List Val} {x : List V} {i : Nat} {a : Val}, VRs L w v x → v[i]? = some a → ∃ y, x[i]? = some y ∧ VR L w a y
  | _, _, _, _, .nil, e => by simp at e
  | _, _, 0, _, .cons r _, e => by simp at e; subst e; exact ⟨_, rfl, r⟩
  | _, _, i + 1, a, .cons _ t, e => by
    obtain ⟨u, h1, h2⟩ := VRs.get (i := i) (a := a) t (by simpa using e)
    exact ⟨u, by simpa using h1, h2⟩
theorem VRs.get' : ∀ {v : List Val} {x : List V} {i : Nat} {y : V}, VRs L w v x → x[i]? = some y → ∃ a, v[i]? = some a ∧ VR L w a y
  | _, _, _, _, .nil, e => by simp at e
  | _, _, 0, _, .cons r _, e => by simp at e; subst e; exact ⟨_, rfl, r⟩
  | _, _, i + 1, a, .cons _ t, e => by
    obtain ⟨u, h1, h2⟩ := VRs.get' (i := i) (y := a) t (by simpa using e)
    exact ⟨u, by simpa using h1, h2⟩
theorem VRs.set {a : Val} {y : V} (r : VR L w a y) : ∀ {v : List Val} {x : List V} (i : Nat), VRs L w v x → VRs L w (v.set i a) (x.set i y)
  | _, _, _, .nil => .nil
  | _, _, 0, .cons _ t => .cons r t
  | _, _, i + 1, .cons q t => .cons q (VRs.set r i t)
theorem VRs.take : ∀ {v : List Val} {x : List V} (n : Nat), VRs L w v x → VRs L w (v.take n) (x.take n)
  | _, _, 0, _ => .nil
  | _, _, _ + 1, .nil => .nil
  | _, _, n + 1, .cons r t => .cons r (VRs.take n t)
theorem VRs.drop : ∀ {v : List Val} {x : List V} (n : Nat), VRs L w v x → VRs L w (v.drop n) (x.drop n)
  | _, _, 0, r => r
  | _, _, _ + 1, .nil => .nil
  | _, _, n + 1, .cons _ t => VRs.drop n t
theorem VRs.dropLast : ∀ {v : List Val} {x : List V}, VRs L w v x → VRs L w v.dropLast x.dropLast
  | _, _, .nil => .nil
  | _, _, .cons _ .nil => .nil
  | _, _, .cons r (.cons q t) => by
    have z : VRs L w (List.cons _ _).dropLast (List.cons _ _).dropLast := VRs.dropLast (.cons q t)
    exact .cons r z
theorem VRs.eraseIdx : ∀ {v : List Val} {x : List V} (i : Nat), VRs L w v x → VRs L w (v.eraseIdx i) (x.eraseIdx i)
  | _, _, _, .nil => .nil
  | _, _, 0, .cons _ t => t
  | _, _, i + 1, .cons q t => .cons q (VRs.eraseIdx i t)
theorem VRs.reverse : ∀ {v : List Val} {x : List V}, VRs L w v x → VRs L w v.reverse x.reverse
  | _, _, .nil => .nil
  | _, _, .cons r t => by
    rw [List.reverse_cons, List.reverse_cons]
    exact VRs.append (VRs.reverse t) (.cons r .nil)
theorem VRs.rep {v : List Val} {x : List V} (r : VRs L w v x) : ∀ k : Nat, VRs L w (List.replicate k v).flatten (List.replicate k x).flatten
  | 0 => .nil
  | k + 1 => by
    rw [List.replicate_succ, List.replicate_succ, List.flatten_cons, List.flatten_cons]
    exact VRs.append r (VRs.rep r k)
theorem VRs.ints : ∀ {xs : List Val} {vs : List V} {ns : List Int}, VRs L w xs vs → intsV xs = some ns → vs = ns.map V.int
  | _, _, ns, .nil, e => by simp [intsV] at e; subst e; rfl
  | _, _, ns, .cons r t, e => by
    cases r with
    | int i =>
      simp only [intsV, Option.map_eq_some_iff] at e
      obtain ⟨ms, e1, rfl⟩ := e
      rw [List.map_cons, VRs.ints t e1]
    | _ => simp [intsV] at e
theorem VRs.of_ints : ∀ (ns : List Int), VRs L w (ns.map Val.int) (ns.map V.int)
  | [] => .nil
  | n :: r => .cons (.int n) (VRs.of_ints r)
theorem VRs.bools : ∀ {xs : List Val} {vs : List V} {ns : List Bool}, VRs L w xs vs → boolsV xs = some ns → vs = ns.map V.bl
  | _, _, ns, .nil, e => by simp [boolsV] at e; subst e; rfl
  | _, _, ns, .cons r t, e => by
    cases r with
    | bl i =>
      simp only [boolsV, Option.map_eq_some_iff] at e
      obtain ⟨ms, e1, rfl⟩ := e
      rw [List.map_cons, VRs.bools t e1]
    | _ => simp [boolsV] at e
theorem Paired.imp' {α β : Type} {F G : α → β → Prop} : ∀ {l₁ : List α} {l₂ : List β}, Paired F l₁ l₂ → (∀ a b, F a b → G a b) → Paired G l₁ l₂
  | _, _, .nil, _ => .nil
  | _, _, .cons r t, f => .cons (f _ _ r) (Paired.imp' t f)
theorem KR.ext {κ : Type} (S : Sim L ro w) (e : Ext w w') {a : List (κ × Val)} {b : List (κ × V)} (r : KR L w a b) : KR L w' a b := Paired.imp' r fun _ _ z => ⟨z.1, z.2.ext S e⟩
theorem FR.ext (S : Sim L ro w) (e : Ext w w') {a : List (Nat × Val)} {b : List (Str × V)} (r : FR L w a b) : FR L w' a b := Paired.imp' r fun _ _ z => ⟨z.1, z.2.ext S e⟩
/-- an object that is not written stays in relation -/
theorem ObR.ext (S : Sim L ro w) (e : Ext w w') {o : Ob} {a : Addr} (r : ObR L w o a) (k : w'.H a = w.H a) : ObR L w' o a := by
  cases o with
  | nil => exact r.elim
  | lst xs => obtain ⟨vs, r, q⟩ := r; exact ⟨vs, r.ext S e, by rw [k]; exact q⟩
  | dK kvs => obtain ⟨vs, r, q⟩ := r; exact ⟨vs, KR.ext S e r, by rw [k]; exact q⟩
  | dT kvs => obtain ⟨vs, r, q⟩ := r; exact ⟨vs, KR.ext S e r, by rw [k]; exact q⟩
  | ins c fs =>
    obtain ⟨dx, gs, r, q, z⟩ := r
    exact ⟨dx, gs, FR.ext S e r, by rw [k]; exact q, e.keep _ _ z (S.notMine z fun z => z)⟩
theorem Sim.cstExtT (S : Sim L ro w) (e : Ext w w') : ∀ c xs, ro c = some (true, xs) → ∃ vs, VRs L w' xs vs ∧ KT' L.K (L.kA c) vs := fun c xs q => by
  obtain ⟨vs, r, z⟩ := S.cstT c xs q
  exact ⟨vs, r.ext S e, z⟩
theorem Sim.cstExt (S : Sim L ro w) (e : Ext w w') : ∀ c xs, ro c = some (false, xs) → ∃ vs, VRs L w' xs vs ∧ ((∃ o, w'.H (L.kA c) = some (.frz o (.lst vs))) ∨ KL L.K (L.kA c) vs) := fun c xs q => by
  obtain ⟨vs, r, z⟩ := S.cst c xs q
  refine ⟨vs, r.ext S e, ?_⟩
  rcases z with ⟨o, z⟩ | z
  · exact .inl ⟨o, e.keep _ _ z (S.notMine z fun z => z)⟩
  · exact .inr z

/-! ### steps of the world -/
/-- something that is not ours is laid -/
def Wd.lay (w : Wd) (p : Addr) (o : HO) : Wd := ⟨w.ι, w.h, upd w.H p o⟩
theorem Ext.lay {p : Addr} {o : HO} (hp : w.H p = none) : Ext w (w.lay p o) := by
  refine ⟨Nat.le_refl _, fun _ _ => rfl, fun b u e _ => ?_, fun n h1 h2 => absurd h2 (Nat.not_lt_of_le h1)⟩
  show upd w.H p o b = some u
  rw [upd_ne (ne_of_none e hp)]; exact e
theorem Sim.lay (S : Sim L ro w) {p : Addr} {o : HO} (hp : w.H p = none) : Sim L ro (w.lay p o) := by
  have e : Ext w (w.lay p o) := Ext.lay hp
  refine ⟨fun n hn => (S.obj n hn).ext S e ?_, S.inj, S.cstExt e, S.cstExtT e⟩
  obtain ⟨u, q, _⟩ := (S.obj n hn).kind
  show upd w.H p o (w.ι n) = w.H (w.ι n)
  rw [upd_ne (ne_of_none q hp)]
/-- a new object of ours: H' holds it at p, and all that stood before -/
def Wd.neu (w : Wd) (p : Addr) (o : Ob) (H' : Hp) : Wd := ⟨fun i => if i = w.h.sz then p else w.ι i, w.h.new o, H'⟩
theorem Wd.neu_at {p : Addr} {o : Ob} {H' : Hp} : (w.neu p o H').ι w.h.sz = p := by
  show (if w.h.sz = w.h.sz then p else w.ι w.h.sz) = p
  rw [if_pos rfl]
theorem Ext.neu {p : Addr} {o : Ob} {H' : Hp} (hp : w.H p = none) (hk : ∀ b u, w.H b = some u → H' b = some u) : Ext w (w.neu p o H') := by
  refine ⟨Nat.le_succ _, fun n hn => ?_, fun b u e _ => hk b u e, fun n h1 h2 => ?_⟩
  · show (if n = w.h.sz then p else w.ι n) = w.ι n
    rw [if_neg (Nat.ne_of_lt hn)]
  · have : n = w.h.sz := Nat.le_antisymm (Nat.le_of_lt_succ h2) h1
    subst this
    rw [Wd.neu_at]; exact hp
theorem Sim.neu (S : Sim L ro w) {p : Addr} {o : Ob} {H' : Hp} (hp : w.H p = none) (hk : ∀ b u, w.H b = some u → H' b = some u) (r : ObR L (w.neu p o H') o p) : Sim L ro (w.neu p o H') := by
  have e : Ext w (w.neu p o H') := Ext.neu hp hk
  have low : ∀ n, n < w.h.sz → (w.neu p o H').ι n = w.ι n := e.io
  have nep : ∀ n, n < w.h.sz → w.ι n ≠ p := fun n hn q => S.noneMine hp ⟨n, hn, q⟩
  refine ⟨fun n hn => ?_, fun m n hm hn q => ?_, S.cstExt e, S.cstExtT e⟩
  · by_cases h : n = w.h.sz
    · subst h
      rw [Wd.neu_at]
      show ObR L (w.neu p o H') (if w.h.sz = w.h.sz then o else w.h.ob w.h.sz) p
      rw [if_pos rfl]; exact r
    · have hl : n < w.h.sz := Nat.lt_of_le_of_ne (Nat.le_of_lt_succ hn) h
      rw [low n hl]
      show ObR L (w.neu p o H') (if n = w.h.sz then o else w.h.ob n) (w.ι n)
      rw [if_neg h]
      refine (S.obj n hl).ext S e ?_
      obtain ⟨u, q, _⟩ := (S.obj n hl).kind
      show H' (w.ι n) = w.H (w.ι n)
      rw [hk _ _ q, q]
  · by_cases h1 : m = w.h.sz
    · by_cases h2 : n = w.h.sz
      · rw [h1, h2]
      · have hl : n < w.h.sz := Nat.lt_of_le_of_ne (Nat.le_of_lt_succ hn) h2
        rw [h1, Wd.neu_at, low n hl] at q
        exact absurd q.symm (nep n hl)
    · have hm' : m < w.h.sz := Nat.lt_of_le_of_ne (Nat.le_of_lt_succ hm) h1
      by_cases h2 : n = w.h.sz
      · rw [h2, Wd.neu_at, low m hm'] at q
        exact absurd q (nep m hm')
      · have hl : n < w.h.sz := Nat.lt_of_le_of_ne (Nat.le_of_lt_succ hn) h2
        rw [low m hm', low n hl] at q
        exact S.inj m n hm' hl q
/-- an object of ours is written -/
def Wd.wr (w : Wd) (n : Nat) (o : Ob) (u : HO) : Wd := ⟨w.ι, w.h.put n o, upd w.H (w.ι n) u⟩
theorem Ext.wr {n : Nat} {o : Ob} {u : HO} (hn : n < w.h.sz) : Ext w (w.wr n o u) := by
  refine ⟨Nat.le_refl _, fun _ _ => rfl, fun b v e m => ?_, fun k h1 h2 => absurd h2 (Nat.not_lt_of_le h1)⟩
  show upd w.H (w.ι n) u b = some v
  rw [upd_ne fun q => m ⟨n, hn, q.symm⟩]; exact e
theorem Sim.wr (S : Sim L ro w) {n : Nat} {o : Ob} {u : HO} (hn : n < w.h.sz) (r : ObR L (w.wr n o u) o (w.ι n)) : Sim L ro (w.wr n o u) := by
  have e : Ext w (w.wr n o u) := Ext.wr hn
  refine ⟨fun k hk => ?_, S.inj, S.cstExt e, S.cstExtT e⟩
  by_cases h : k = n
  · subst h
    show ObR L (w.wr k o u) (if k = k then o else w.h.ob k) (w.ι k)
    rw [if_pos rfl]; exact r
  · show ObR L (w.wr n o u) (if k = n then o else w.h.ob k) (w.ι k)
    rw [if_neg h]
    refine (S.obj k hk).ext S e ?_
    show upd w.H (w.ι n) u (w.ι k) = w.H (w.ι k)
    rw [upd_ne fun q => h (S.inj k n hk hn q)]
end

/-! ### readings -/
abbrev Rl (α β : Type) := Wd → α → β → Prop
/-- what is wanted behind a run -/
def Post {α β : Type} (L : Ln) (ro : Ro) (Rel : Rl α β) (W : WX) (w : Wd) (σ : St) (Q : β → Hp → Prop) : R α → Prop
  | .ok a h' => ∀ (w' : Wd) (x : β), w'.h = h' → Ext w w' → Sim L ro w' → Rel w' a x → Q x w'.H
  | .ex e h' => ∀ (w' : Wd) (d : Option Addr), w'.h = h' → Ext w w' → Sim L ro w' → W (.ref (L.cA e.cls)) d σ w'.H
  | .no => False
structure EnvR (L : Ln) (w : Wd) (ρ : Env) (σ : St) : Prop where
  len : ρ.length = σ.length
  at_ : ∀ (i : Nat) (v : Val), ρ[i]? = some (some v) → ∃ x, σ[i]? = some (some x) ∧ VR L w v x
def RG {α β : Type} (L : Ln) (ro : Ro) (Rel : Rl α β) (W : WX) (m : Env → M α) : St → Hp → (β → Hp → Prop) → Prop := fun σ H Q =>
  ∃ w ρ, w.H = H ∧ Sim L ro w ∧ EnvR L w ρ σ ∧ Post L ro Rel W w σ Q (m ρ w.h)
section
variable {L : Ln} {ro : Ro} {W : WX} {w w' w1 w2 : Wd} {σ : St} {ρ : Env}
theorem EnvR.ext (S : Sim L ro w) (e : Ext w w') (r : EnvR L w ρ σ) : EnvR L w' ρ σ := ⟨r.len, fun i v q => let ⟨x, a, b⟩ := r.at_ i v q; ⟨x, a, b.ext S e⟩⟩
theorem Post.step {α β : Type} {Rel : Rl α β} {Q : β → Hp → Prop} {r : R α} (S1 : Sim L ro w1) (e : Ext w w1) (p : Post L ro Rel W w σ Q r) : Post L ro Rel W w1 σ Q r := by
  cases r with
  | ok a h => exact fun w' x q e' s' z => p w' x q (e.trans S1 e') s' z
  | ex x h => exact fun w' d q e' s' => p w' d q (e.trans S1 e') s'
  | no => exact p
/-- one run, then the rest -/
theorem stepE {α β γ δ : Type} {Rel : Rl α β} {Rel' : Rl γ δ} {Q : δ → Hp → Prop} {Q' : β → Hp → Prop} {m : Env → M α} {k : α → M γ} (S : Sim L ro w) (E : EnvR L w ρ σ) (p : Post L ro Rel' W w σ Q (bnd (m ρ) k w.h))
    (hk : ∀ w1 a x, Ext w w1 → Sim L ro w1 → EnvR L w1 ρ σ → Rel w1 a x → Post L ro Rel' W w1 σ Q (k a w1.h) → Q' x w1.H) : RG L ro Rel W m σ w.H Q' := by
  refine ⟨w, ρ, rfl, S, E, ?_⟩
  unfold bnd at p
  cases q : m ρ w.h with
  | ok a h' =>
    rw [q] at p
    intro w1 x e1 x1 s1 r1
    subst e1
    exact hk w1 a x x1 s1 (E.ext S x1) r1 (p.step s1 x1)
  | ex x h' => rw [q] at p; exact p
  | no => rw [q] at p; exact p
theorem Post.imp {α β : Type} {Rel : Rl α β} {Q Q' : β → Hp → Prop} {r : R α} (p : Post L ro Rel W w σ Q r) (hk : ∀ (w' : Wd) (a : α) (x : β), Ext w w' → Sim L ro w' → Rel w' a x → Q x w'.H → Q' x w'.H) : Post L ro Rel W w σ Q' r := by
  cases r with
  | ok a h => exact fun w' x q e s z => hk w' a x e s z (p w' x q e s z)
  | ex x h => exact p
  | no => exact p
/-- the value is there -/
theorem Post.now {α β : Type} {Rel : Rl α β} {Q : β → Hp → Prop} {a : α} {x : β} (S : Sim L ro w) (p : Post L ro Rel W w σ Q (.ok a w.h)) (r : Rel w a x) : Q x w.H := p w x rfl (Ext.refl w) S r
end
theorem PE.imp {X : Cx} {e : Expr} {t t' : TE} (h : PE X e t) (f : ∀ σ H Q, t' σ H Q → t σ H Q) : PE X e t' := ⟨fun pins s σ H Q I q => h.run pins s σ H Q I (f σ H Q q)⟩
theorem PT.imp {X : Cx} {e : Expr} {t t' : TT} (h : PT X e t) (f : ∀ σ H Q, t' σ H Q → t σ H Q) : PT X e t' := ⟨fun pins s σ H Q I q => h.run pins s σ H Q I (f σ H Q q)⟩
theorem PA.imp {X : Cx} {e : List Expr} {t t' : TA} (h : PA X e t) (f : ∀ σ H Q, t' σ H Q → t σ H Q) : PA X e t' := ⟨fun pos pins s σ H Q I q => h.run pos pins s σ H Q I (f σ H Q q)⟩
theorem PS.imp {X : Cx} {e : Stmt} {t t' : TS} (h : PS X e t) (f : ∀ D σ H, t' D σ H → t D σ H) : PS X e t' := ⟨fun pins s σ H D I q => h.run pins s σ H D I (f D σ H q)⟩
theorem PSs.imp {X : Cx} {e : List Stmt} {t t' : TS} (h : PSs X e t) (f : ∀ D σ H, t' D σ H → t D σ H) : PSs X e t' := ⟨fun pins s σ H D I q => h.run pins s σ H D I (f D σ H q)⟩
end MP

set_option maxRecDepth 100000
namespace MP
open PySem L2
section
variable {L : Ln} {ro : Ro} {W : WX} {w w' w1 w2 : Wd} {σ : St} {ρ : Env} {X : Cx}
theorem Post.newTup {xs : List Val} {vs : List V} {Q : VK} (S : Sim L ro w) (p : Post L ro (VR L) W w σ Q (.ok (.tup xs) w.h)) (r : VRs L w xs vs) : ∀ q, w.H q = none → Q (.ref q) (upd w.H q (.tup vs)) := fun q hq =>
  p (w.lay q (.tup vs)) (.ref q) rfl (Ext.lay hq) (S.lay hq) (.tup upd_same (r.ext S (Ext.lay hq)))
theorem Wd.neu_lt {p : Addr} {o : Ob} {H' : Hp} : w.h.sz < (w.neu p o H').h.sz := Nat.lt_succ_self _
theorem kept_upd {H : Hp} {p : Addr} {o : HO} (hp : H p = none) : ∀ b u, H b = some u → upd H p o b = some u := fun b u e => by
  rw [upd_ne (ne_of_none e hp)]; exact e
theorem Post.newLst {xs : List Val} {vs : List V} {Q : VK} (S : Sim L ro w) (p : Post L ro (VR L) W w σ Q (newO (.lst xs) w.h)) (r : VRs L w xs vs) : ∀ q, w.H q = none → Q (.ref q) (upd w.H q (.lst vs)) := fun q hq => by
  have e : Ext w (w.neu q (.lst xs) (upd w.H q (.lst vs))) := Ext.neu hq (kept_upd hq)
  have z := p (w.neu q (.lst xs) (upd w.H q (.lst vs))) (.ref ((w.neu q (.lst xs) (upd w.H q (.lst vs))).ι w.h.sz)) rfl e (S.neu hq (kept_upd hq) ⟨vs, r.ext S e, upd_same⟩) (.ref Wd.neu_lt)
  rw [Wd.neu_at] at z
  exact z
theorem Post.newK {Q : VK} (S : Sim L ro w) (p : Post L ro (VR L) W w σ Q (newO (.dK []) w.h)) : ∀ q, w.H q = none → Q (.ref q) (upd w.H q (.dK [])) := fun q hq => by
  have e : Ext w (w.neu q (.dK []) (upd w.H q (.dK []))) := Ext.neu hq (kept_upd hq)
  have z := p (w.neu q (.dK []) (upd w.H q (.dK []))) (.ref ((w.neu q (.dK []) (upd w.H q (.dK []))).ι w.h.sz)) rfl e (S.neu hq (kept_upd hq) ⟨[], .nil, upd_same⟩) (.ref Wd.neu_lt)
  rw [Wd.neu_at] at z
  exact z
theorem Post.newT {Q : VK} (S : Sim L ro w) (p : Post L ro (VR L) W w σ Q (newO (.dT []) w.h)) : ∀ q, w.H q = none → Q (.ref q) (upd w.H q (.dT [])) := fun q hq => by
  have e : Ext w (w.neu q (.dT []) (upd w.H q (.dT []))) := Ext.neu hq (kept_upd hq)
  have z := p (w.neu q (.dT []) (upd w.H q (.dT []))) (.ref ((w.neu q (.dT []) (upd w.H q (.dT []))).ι w.h.sz)) rfl e (S.neu hq (kept_upd hq) ⟨[], .nil, upd_same⟩) (.ref Wd.neu_lt)
  rw [Wd.neu_at] at z
  exact z
/-- an object of ours rewritten -/
theorem Post.wrote {α β : Type} {Rel : Rl α β} {n : Nat} {o : Ob} {u : HO} {Q : β → Hp → Prop} {a : α} {x : β} (S : Sim L ro w) (hn : n < w.h.sz) (p : Post L ro Rel W w σ Q (.ok a (w.h.put n o))) (r : ObR L (w.wr n o u) o (w.ι n)) (rx : Rel (w.wr n o u) a x) :
    Q x (upd w.H (w.ι n) u) := p (w.wr n o u) x rfl (Ext.wr hn) (S.wr hn r) rx
theorem roL_of {t : Bool} {c : Nat} {xs : List Val} (e : roL ro t c = some xs) : ro c = some (t, xs) := by
  unfold roL at e
  split at e
  · rename_i k ys q
    split at e
    · rename_i hk
      cases e
      rw [q, hk]
    · cases e
  · cases e
theorem roL_eq {t : Bool} {c : Nat} {xs : List Val} (e : ro c = some (t, xs)) : roL ro t c = some xs := by
  unfold roL
  rw [e]
  simp
/-- the list at a value -/
theorem sq_of (S : Sim L ro w) {v : Val} {x : V} {xs : List Val} (r : VR L w v x) (e : sqV ro w.h v = some xs) : ∃ a vs, x = .ref a ∧ VRs L w xs vs ∧ SqL L.K w.H a vs := by
  cases r with
  | ref hi =>
    rename_i i
    have o := S.obj i hi
    simp only [sqV] at e
    split at e
    · rename_i ys q
      cases e
      rw [q] at o
      obtain ⟨vs, r, h⟩ := o
      exact ⟨_, vs, rfl, r, SqL.of h⟩
    · cases e
  | cst c =>
    have e' : ro c = some (false, xs) := roL_of e
    obtain ⟨vs, r, h⟩ := S.cst c xs e'
    refine ⟨_, vs, rfl, r, ?_⟩
    rcases h with ⟨o, h⟩ | h
    · exact .inl (.inr ⟨o, h⟩)
    · exact .inr h
  | _ => simp [sqV] at e
theorem tu_of (S : Sim L ro w) {v : Val} {x : V} {xs : List Val} (r : VR L w v x) (e : tuV ro v = some xs) : ∃ a vs, x = .ref a ∧ VRs L w xs vs ∧ SqT L.K w.H a vs := by
  cases r with
  | tup h r =>
    simp [tuV] at e
    subst e
    exact ⟨_, _, rfl, r, SqT.of h⟩
  | cst c =>
    have e' : ro c = some (true, xs) := roL_of e
    obtain ⟨vs, r, h⟩ := S.cstT c xs e'
    exact ⟨_, vs, rfl, r, .inr h⟩
  | _ => simp [tuV] at e
theorem lst_of (S : Sim L ro w) {n : Nat} {xs : List Val} (hn : n < w.h.sz) (e : w.h.ob n = .lst xs) : ∃ vs, VRs L w xs vs ∧ w.H (w.ι n) = some (.lst vs) := by
  have o := S.obj n hn
  rw [e] at o; exact o
theorem dK_of (S : Sim L ro w) {n : Nat} {xs : List (Key × Val)} (hn : n < w.h.sz) (e : w.h.ob n = .dK xs) : ∃ vs, KR L w xs vs ∧ w.H (w.ι n) = some (.dK vs) := by
  have o := S.obj n hn
  rw [e] at o; exact o
theorem dT_of (S : Sim L ro w) {n : Nat} {xs : List (List Key × Val)} (hn : n < w.h.sz) (e : w.h.ob n = .dT xs) : ∃ vs, KR L w xs vs ∧ w.H (w.ι n) = some (.dT vs) := by
  have o := S.obj n hn
  rw [e] at o; exact o
theorem ins_of (S : Sim L ro w) {n c : Nat} {fs : List (Nat × Val)} (hn : n < w.h.sz) (e : w.h.ob n = .ins c fs) : ∃ dx gs, FR L w fs gs ∧ w.H (w.ι n) = some (.ins (L.cA c) dx gs) ∧ w.H dx = some (.own (w.ι n)) := by
  have o := S.obj n hn
  rw [e] at o; exact o

/-! ### operators by values -/
def rS (L : Ln) (ro : Ro) (g : Val → Val → M Val) : R2 := fun x y H Q => ∃ w v u σ W, w.H = H ∧ Sim L ro w ∧ VR L w v x ∧ VR L w u y ∧ Post L ro (VR L) W w σ Q (g v u w.h)
theorem op_addS (hK : X.K = L.K) : OpR X (binaryOp .Add) (rS L ro addV) := by
  rintro pins s σ H x y v u Q I rx ry ⟨w, a, b, σ', W, rfl, S, ra, rb, p⟩
  cases ra with
  | int i =>
    cases rb with
    | int j => exact op_add pins s σ _ _ _ _ _ _ I rx ry ⟨i, j, rfl, rfl, p.now S (.int _)⟩
    | _ => exact p.elim
  | str i =>
    cases rb with
    | str j =>
      simp only [addV] at p
      split at p
      · rename_i hz
        exact op_add_str pins s σ _ _ _ _ _ _ I rx ry ⟨i, j, rfl, rfl, hz, p.now S (.str _)⟩
      · exact p.elim
    | _ => exact p.elim
  | tup ha r1 =>
    cases rb with
    | tup hb r2 =>
      rename_i vs1 _ _ vs2
      simp only [addV] at p
      split at p
      · rename_i hz
        have l1 := r1.length
        have l2 := r2.length
        refine op_catA pins s σ _ _ _ _ _ _ I rx ry ⟨_, _, _, _, rfl, rfl, SqT.of ha, SqT.of hb, by omega, fun e => ?_, fun e1 e2 => ?_, fun e1 e2 => p.newTup S (r1.append r2)⟩
        · subst e
          cases r1
          exact p.now S (.tup hb r2)
        · subst e2
          cases r2
          rw [List.append_nil] at p
          exact p.now S (.tup ha r1)
      · exact p.elim
    | _ => exact p.elim
  | ref hi =>
    cases rb with
    | ref hj =>
      simp only [addV] at p
      split at p
      · rename_i xs ys e1 e2
        split at p
        · rename_i hz
          obtain ⟨vs1, r1, h1⟩ := lst_of S hi e1
          obtain ⟨vs2, r2, h2⟩ := lst_of S hj e2
          have l1 := r1.length
          have l2 := r2.length
          exact op_cat pins s σ _ _ _ _ _ _ I rx ry ⟨_, _, vs1, vs2, rfl, rfl, h1, h2, by omega, p.newLst S (r1.append r2)⟩
        · exact p.elim
      · exact p.elim
    | _ => exact p.elim
  | _ => exact p.elim
theorem op_subS : OpR X (binaryOp .Sub) (rS L ro subV) := by
  rintro pins s σ H x y v u Q I rx ry ⟨w, a, b, σ', W, rfl, S, ra, rb, p⟩
  cases ra with
  | int i =>
    cases rb with
    | int j => exact op_sub pins s σ _ _ _ _ _ _ I rx ry ⟨i, j, rfl, rfl, p.now S (.int _)⟩
    | _ => exact p.elim
  | _ => exact p.elim
theorem mulOk_of {i j : Int} (h : mulOk i j = true) : CMul i j := by
  unfold mulOk at h
  simp only [Bool.or_eq_true, Bool.and_eq_true, decide_eq_true_eq] at h
  exact h
theorem op_mulS (hK : X.K = L.K) : OpR X (binaryOp .Mult) (rS L ro mulV) := by
  rintro pins s σ H x y v u Q I rx ry ⟨w, a, b, σ', W, rfl, S, ra, rb, p⟩
  cases ra with
  | int i =>
    cases rb with
    | int j =>
      simp only [mulV] at p
      split at p
      · rename_i hz
        exact op_mul pins s σ _ _ _ _ _ _ I rx ry ⟨i, j, rfl, rfl, mulOk_of hz, p.now S (.int _)⟩
      · exact p.elim
    | _ => exact p.elim
  | tup ha r1 =>
    cases rb with
    | int j =>
      simp only [mulV] at p
      split at p
      · rename_i hz
        have l1 := r1.length
        refine op_repT pins s σ _ _ _ _ _ _ I rx ry ⟨_, j, _, rfl, rfl, SqT.of ha, fun e => ?_, hz.2.1, hz.2.2.1, by omega, p.newTup S (r1.rep _)⟩
        subst e
        cases r1
        exact hz.1 rfl
      · exact p.elim
    | _ => exact p.elim
  | ref hi =>
    cases rb with
    | int j =>
      simp only [mulV] at p
      split at p
      · rename_i xs e1
        split at p
        · rename_i hz
          obtain ⟨vs1, r1, h1⟩ := lst_of S hi e1
          have l1 := r1.length
          exact op_rep pins s σ _ _ _ _ _ _ I rx ry ⟨_, j, vs1, rfl, rfl, h1, hz.1, hz.2.1, by rw [← l1]; exact hz.2.2, p.newLst S (r1.rep _)⟩
        · exact p.elim
      · exact p.elim
    | _ => exact p.elim
  | _ => exact p.elim
theorem op_fdivS : OpR X (binaryOp .FloorDiv) (rS L ro fdivV) := by
  rintro pins s σ H x y v u Q I rx ry ⟨w, a, b, σ', W, rfl, S, ra, rb, p⟩
  cases ra with
  | int i =>
    cases rb with
    | int j =>
      simp only [fdivV] at p
      split at p
      · rename_i hz
        exact op_fdiv pins s σ _ _ _ _ _ _ I rx ry ⟨i, j, rfl, rfl, hz, p.now S (.int _)⟩
      · exact p.elim
    | _ => exact p.elim
  | _ => exact p.elim
theorem op_modS : OpR X (binaryOp .Mod) (rS L ro modV) := by
  rintro pins s σ H x y v u Q I rx ry ⟨w, a, b, σ', W, rfl, S, ra, rb, p⟩
  cases ra with
  | int i =>
    cases rb with
    | int j =>
      simp only [modV] at p
      split at p
      · rename_i hz
        exact op_mod pins s σ _ _ _ _ _ _ I rx ry ⟨i, j, rfl, rfl, hz, p.now S (.int _)⟩
      · exact p.elim
    | _ => exact p.elim
  | _ => exact p.elim
theorem op_andS : OpR X (binaryOp .BitAnd) (rS L ro andV) := by
  rintro pins s σ H x y v u Q I rx ry ⟨w, a, b, σ', W, rfl, S, ra, rb, p⟩
  cases ra with
  | int i =>
    cases rb with
    | int j => exact op_and pins s σ _ _ _ _ _ _ I rx ry ⟨i, j, rfl, rfl, p.now S (.int _)⟩
    | _ => exact p.elim
  | _ => exact p.elim
def opOf : BO → Operator
  | .add => .Add
  | .sub => .Sub
  | .mul => .Mult
  | .fdiv => .FloorDiv
  | .mod => .Mod
  | .band => .BitAnd
theorem op_binS (hK : X.K = L.K) : ∀ b : BO, OpR X (binaryOp (opOf b)) (rS L ro (binV b))
  | .add => op_addS hK
  | .sub => op_subS
  | .mul => op_mulS hK
  | .fdiv => op_fdivS
  | .mod => op_modS
  | .band => op_andS
/-! ### data -/
mutual
theorem Dp.plainOf {K : PySem.W.Frag} {H : Hp} : ∀ {x : V} {d : PyData}, Dp K H x d → d.plain = true
  | _, _, .non => rfl
  | _, _, .bl _ => rfl
  | _, _, .int _ => rfl
  | _, _, .str _ => rfl
  | _, _, .lst _ r => by simp only [PyData.plain]; exact DpAll.plainOf r
  | _, _, .tup _ r => by simp only [PyData.plain]; exact DpAll.plainOf r
theorem DpAll.plainOf {K : PySem.W.Frag} {H : Hp} : ∀ {x : List V} {d : List PyData}, DpAll K H x d → PyData.plainAll d = true
  | _, _, .nil => rfl
  | _, _, .cons a r => by simp only [PyData.plainAll, Dp.plainOf a, DpAll.plainOf r, Bool.and_self]
end
theorem mapM_cons_some {α β : Type} {f : α → Option β} {a : α} {r : List α} {ds : List β} (h : (a :: r).mapM f = some ds) : ∃ d ds', f a = some d ∧ r.mapM f = some ds' ∧ ds = d :: ds' := by
  rw [List.mapM_cons] at h
  simp only [Option.bind_eq_bind, Option.bind_eq_some_iff, Option.pure_def, Option.some.injEq] at h
  obtain ⟨d, h1, ds', h2, h3⟩ := h
  exact ⟨d, ds', h1, h2, h3.symm⟩
theorem pyVs_dp {n : Nat} (S : Sim L ro w) (ih : ∀ v d x, pyV ro w.h n v = some d → VR L w v x → Dp L.K w.H x d ∧ d.depth ≤ n) :
    ∀ {xs : List Val} {vs : List V} {ds : List PyData}, VRs L w xs vs → xs.mapM (pyV ro w.h n) = some ds → DpAll L.K w.H vs ds ∧ PyData.depthAll ds ≤ n
  | _, _, ds, .nil, e => by
    simp at e; subst e
    exact ⟨.nil, Nat.zero_le _⟩
  | _, _, ds, .cons r t, e => by
    obtain ⟨d, ds', h1, h2, rfl⟩ := mapM_cons_some e
    obtain ⟨a, b⟩ := ih _ _ _ h1 r
    obtain ⟨a', b'⟩ := pyVs_dp S ih t h2
    exact ⟨.cons a a', by simp only [PyData.depthAll]; omega⟩
theorem pyV_dp (S : Sim L ro w) : ∀ (n : Nat) (v : Val) (d : PyData) (x : V), pyV ro w.h n v = some d → VR L w v x → Dp L.K w.H x d ∧ d.depth ≤ n := by
  intro n
  induction n with
  | zero =>
    intro v d x e r
    cases r with
    | non => simp [pyV] at e; subst e; exact ⟨.non, Nat.zero_le _⟩
    | bl b => simp [pyV] at e; subst e; exact ⟨.bl b, Nat.zero_le _⟩
    | int b => simp [pyV] at e; subst e; exact ⟨.int b, Nat.zero_le _⟩
    | str b => simp [pyV] at e; subst e; exact ⟨.str b, Nat.zero_le _⟩
    | _ => simp [pyV] at e
  | succ n ih =>
    intro v d x e r
    cases r with
    | non => simp [pyV] at e; subst e; exact ⟨.non, Nat.zero_le _⟩
    | bl b => simp [pyV] at e; subst e; exact ⟨.bl b, Nat.zero_le _⟩
    | int b => simp [pyV] at e; subst e; exact ⟨.int b, Nat.zero_le _⟩
    | str b => simp [pyV] at e; subst e; exact ⟨.str b, Nat.zero_le _⟩
    | tup h r =>
      simp only [pyV, Option.map_eq_some_iff] at e
      obtain ⟨ds, e1, rfl⟩ := e
      obtain ⟨a, b⟩ := pyVs_dp S ih r e1
      exact ⟨.tup (SqT.of h) a, by simp only [PyData.depth]; omega⟩
    | ref hi =>
      simp only [pyV] at e
      split at e
      · rename_i xs q
        simp only [Option.map_eq_some_iff] at e
        obtain ⟨ds, e1, rfl⟩ := e
        obtain ⟨vs, r, h⟩ := lst_of S hi q
        obtain ⟨a, b⟩ := pyVs_dp S ih r e1
        exact ⟨.lst (SqL.of h) a, by simp only [PyData.depth]; omega⟩
      · cases e
    | cst c =>
      simp only [pyV] at e
      split at e
      · rename_i xs q
        simp only [Option.map_eq_some_iff] at e
        obtain ⟨ds, e1, rfl⟩ := e
        obtain ⟨a, vs, hx, r, h⟩ := sq_of S (VR.cst (L := L) (w := w) c) (show sqV ro w.h (.cst c) = some xs from roL_eq q)
        cases hx
        obtain ⟨a, b⟩ := pyVs_dp S ih r e1
        exact ⟨.lst h a, by simp only [PyData.depth]; omega⟩
      · rename_i xs q
        simp only [Option.map_eq_some_iff] at e
        obtain ⟨ds, e1, rfl⟩ := e
        obtain ⟨a, vs, hx, r, h⟩ := tu_of S (VR.cst (L := L) (w := w) c) (show tuV ro (.cst c) = some xs from roL_eq q)
        cases hx
        obtain ⟨a, b⟩ := pyVs_dp S ih r e1
        exact ⟨.tup h a, by simp only [PyData.depth]; omega⟩
      · cases e
theorem op_eqS (hK : X.K = L.K) (hu : X.A.units + 64 < cLine) : OpR X (compareOp .Eq) (rS L ro (cmpV ro .eq)) := by
  rintro pins s σ H x y v u Q I rx ry ⟨w, a, b, σ', W, rfl, S, ra, rb, p⟩
  simp only [cmpV, bnd, eqM] at p
  split at p
  · rename_i a' h' q
    split at q
    · rename_i d e h1 h2
      cases q
      obtain ⟨d1, l1⟩ := pyV_dp S _ _ _ _ h1 ra
      obtain ⟨d2, l2⟩ := pyV_dp S _ _ _ _ h2 rb
      obtain ⟨as, r1⟩ := Dp.reads I _ x v (by rw [hK]; exact d1) rx
      obtain ⟨bs, r2⟩ := Dp.reads I _ y u (by rw [hK]; exact d2) ry
      exact SeqAt.eq_plain r1 r2 (Dp.plainOf d1) (Dp.plainOf d2) (by omega) ⟨.bl _, w.H, I, rfl, p.now S (.bl _)⟩
    · cases q
  · rename_i q
    split at q <;> cases q
  · exact p.elim
theorem op_neS (hK : X.K = L.K) (hu : X.A.units + 64 < cLine) : OpR X (compareOp .NotEq) (rS L ro (cmpV ro .ne)) := by
  rintro pins s σ H x y v u Q I rx ry ⟨w, a, b, σ', W, rfl, S, ra, rb, p⟩
  simp only [cmpV, bnd, eqM] at p
  split at p
  · rename_i a' h' q
    split at q
    · rename_i d e h1 h2
      cases q
      obtain ⟨d1, l1⟩ := pyV_dp S _ _ _ _ h1 ra
      obtain ⟨d2, l2⟩ := pyV_dp S _ _ _ _ h2 rb
      obtain ⟨as, r1⟩ := Dp.reads I _ x v (by rw [hK]; exact d1) rx
      obtain ⟨bs, r2⟩ := Dp.reads I _ y u (by rw [hK]; exact d2) ry
      exact SeqAt.ne_plain r1 r2 (Dp.plainOf d1) (Dp.plainOf d2) (by omega) ⟨.bl _, w.H, I, rfl, p.now S (.bl _)⟩
    · cases q
  · rename_i q
    split at q <;> cases q
  · exact p.elim
theorem op_ltS (hK : X.K = L.K) (hu : X.A.units + 64 < cLine) : OpR X (compareOp .Lt) (rS L ro (cmpV ro .lt)) := by
  rintro pins s σ H x y v u Q I rx ry ⟨w, a, b, σ', W, rfl, S, ra, rb, p⟩
  cases ra with
  | int i =>
    cases rb with
    | int j => exact op_lt pins s σ _ _ _ _ _ _ I rx ry ⟨i, j, rfl, rfl, p.now S (.bl _)⟩
    | _ => exact p.elim
  | str i =>
    cases rb with
    | str j => exact op_lt_str pins s σ _ _ _ _ _ _ I rx ry ⟨i, j, rfl, rfl, p.now S (.bl _)⟩
    | _ => exact p.elim
  | tup ha r1 =>
    cases rb with
    | tup hb r2 =>
      simp only [cmpV, ltV] at p
      cases e1 : intsV _ with
      | none => rw [e1] at p; exact p.elim
      | some ns =>
        rw [e1] at p
        cases e2 : intsV _ with
        | none => rw [e2] at p; exact p.elim
        | some ms =>
          rw [e2] at p
          have f1 := r1.ints e1
          have f2 := r2.ints e2
          subst f1; subst f2
          exact op_ltT (by omega) pins s σ _ _ _ _ _ _ I rx ry ⟨_, _, ns, ms, rfl, rfl, SqT.of ha, SqT.of hb, p.now S (.bl _)⟩
    | _ => exact p.elim
  | _ => exact p.elim
theorem op_ordS {op : CmpOp} {g : Int → Int → Bool} (ho : OpR X (compareOp op) (rI0 fun i j => .bl (g i j))) : OpR X (compareOp op) (rS L ro (ordV g)) := by
  rintro pins s σ H x y v u Q I rx ry ⟨w, a, b, σ', W, rfl, S, ra, rb, p⟩
  cases ra with
  | int i =>
    cases rb with
    | int j => exact ho pins s σ _ _ _ _ _ _ I rx ry ⟨i, j, rfl, rfl, p.now S (.bl _)⟩
    | _ => exact p.elim
  | _ => exact p.elim
theorem VR.non_iff {v : Val} {x : V} (r : VR L w v x) : decide (v = .non) = decide (x = .non) := by
  cases r <;> simp
theorem op_isS : OpR X (compareOp .Is) (rS L ro (cmpV ro .is)) := by
  rintro pins s σ H x y v u Q I rx ry ⟨w, a, b, σ', W, rfl, S, ra, rb, p⟩
  cases rb with
  | non =>
    simp only [cmpV, isV, ret] at p
    rw [ra.non_iff] at p
    exact op_isN pins s σ _ _ _ _ _ _ I rx ry ⟨rfl, p.now S (.bl _)⟩
  | bl b =>
    cases ra with
    | bl c => exact op_isBl pins s σ _ _ _ _ _ _ I rx ry ⟨c, b, rfl, rfl, p.now S (.bl _)⟩
    | _ => exact p.elim
  | _ => exact p.elim
theorem op_isnotS : OpR X (compareOp .IsNot) (rS L ro (cmpV ro .isnot)) := by
  rintro pins s σ H x y v u Q I rx ry ⟨w, a, b, σ', W, rfl, S, ra, rb, p⟩
  cases rb with
  | non =>
    simp only [cmpV, isV, ret, bnd, asB] at p
    rw [ra.non_iff] at p
    exact op_notN pins s σ _ _ _ _ _ _ I rx ry ⟨rfl, p.now S (.bl _)⟩
  | bl b =>
    cases ra with
    | bl c => exact op_notBl pins s σ _ _ _ _ _ _ I rx ry ⟨c, b, rfl, rfl, p.now S (.bl _)⟩
    | _ => exact p.elim
  | _ => exact p.elim
end
end MP

set_option maxRecDepth 100000
namespace MP
open PySem L2
section
variable {L : Ln} {ro : Ro} {W : WX} {w w' w1 w2 : Wd} {σ : St} {ρ : Env} {X : Cx}
theorem op_iaddS : OpR X (inplaceOp .Add) (rS L ro iaddV) := by
  rintro pins s σ H x y v u Q I rx ry ⟨w, a, b, σ', W, rfl, S, ra, rb, p⟩
  cases ra with
  | int i =>
    cases rb with
    | int j => exact iop_add pins s σ _ _ _ _ _ _ I rx ry ⟨i, j, rfl, rfl, p.now S (.int _)⟩
    | _ => exact p.elim
  | str i =>
    cases rb with
    | str j =>
      simp only [iaddV] at p
      split at p
      · rename_i hz
        exact iop_add_str pins s σ _ _ _ _ _ _ I rx ry ⟨i, j, rfl, rfl, hz, p.now S (.str _)⟩
      · exact p.elim
    | _ => exact p.elim
  | _ => exact p.elim
/-! ### dicts -/
theorem KR.length {κ : Type} : ∀ {a : List (κ × Val)} {b : List (κ × V)}, KR L w a b → a.length = b.length
  | _, _, .nil => rfl
  | _, _, .cons _ t => by rw [List.length_cons, List.length_cons, KR.length t]
theorem KR.look {κ : Type} [DecidableEq κ] (k : κ) : ∀ {a : List (κ × Val)} {b : List (κ × V)}, KR L w a b → (∀ v, MP.look a k = some v → ∃ x, valV b k = some x ∧ VR L w v x) ∧ (MP.look a k = none → valV b k = none)
  | _, _, .nil => ⟨fun v e => by simp [MP.look] at e, fun _ => rfl⟩
  | _, _, .cons (a := p) (b := q) ⟨e, r⟩ t => by
    have ih := KR.look k t
    by_cases hk : p.1 = k
    · have hq : q.1 = k := by rw [← e]; exact hk
      have e1 : ∀ l, MP.look (p :: l) k = some p.2 := fun l => by simp [MP.look, List.find?_cons, hk]
      have e2 : ∀ l, valV (q :: l) k = some q.2 := fun l => valV_pos hq
      exact ⟨fun v h => ⟨q.2, e2 _, by rw [e1] at h; cases h; exact r⟩, fun h => by rw [e1] at h; cases h⟩
    · have hq : ¬ q.1 = k := by rw [← e]; exact hk
      have e1 : ∀ l, MP.look (p :: l) k = MP.look l k := fun l => by simp [MP.look, List.find?_cons, hk]
      have e2 : ∀ l, valV (q :: l) k = valV l k := fun l => valV_neg hq
      exact ⟨fun v h => by rw [e1] at h; rw [e2]; exact ih.1 v h, fun h => by rw [e1] at h; rw [e2]; exact ih.2 h⟩
theorem KR.isSome {κ : Type} [DecidableEq κ] (k : κ) {a : List (κ × Val)} {b : List (κ × V)} (r : KR L w a b) : (MP.look a k).isSome = (valV b k).isSome := by
  have z := KR.look k r
  cases q : MP.look a k with
  | none => rw [z.2 q]; rfl
  | some v => obtain ⟨x, e, _⟩ := z.1 v q; rw [e]; rfl
theorem KR.any {κ : Type} [DecidableEq κ] (k : κ) : ∀ {a : List (κ × Val)} {b : List (κ × V)}, KR L w a b → (a.any fun kv => decide (kv.1 = k)) = (b.any fun kv => decide (kv.1 = k))
  | _, _, .nil => rfl
  | _, _, .cons (a := p) (b := q) ⟨e, r⟩ t => by rw [List.any_cons, List.any_cons, KR.any k t, e]
theorem KR.mapPut {κ : Type} [DecidableEq κ] (k : κ) {v : Val} {y : V} (r : VR L w v y) : ∀ {a : List (κ × Val)} {b : List (κ × V)}, KR L w a b → KR L w (a.map fun kv => if kv.1 = k then (kv.1, v) else kv) (b.map fun kv => if kv.1 = k then (kv.1, y) else kv)
  | _, _, .nil => .nil
  | _, _, .cons (a := p) (b := q) ⟨e, z⟩ t => by
    rw [List.map_cons, List.map_cons]
    refine .cons ?_ (KR.mapPut k r t)
    by_cases hk : p.1 = k
    · rw [if_pos hk, if_pos (show q.1 = k by rw [← e]; exact hk)]
      exact ⟨e, r⟩
    · rw [if_neg hk, if_neg (show ¬ q.1 = k by rw [← e]; exact hk)]
      exact ⟨e, z⟩
theorem KR.snoc {κ : Type} {k : κ} {v : Val} {y : V} (r : VR L w v y) : ∀ {a : List (κ × Val)} {b : List (κ × V)}, KR L w a b → KR L w (a ++ [(k, v)]) (b ++ [(k, y)])
  | _, _, .nil => .cons ⟨rfl, r⟩ .nil
  | _, _, .cons z t => .cons z (KR.snoc r t)
theorem KR.put {κ : Type} [DecidableEq κ] (k : κ) {v : Val} {y : V} (r : VR L w v y) {a : List (κ × Val)} {b : List (κ × V)} (z : KR L w a b) : KR L w (putD a k v) (putK b k y) := by
  unfold putD putK
  rw [KR.any k z]
  split
  · exact KR.mapPut k r z
  · exact KR.snoc r z
theorem KR.drop {κ : Type} [DecidableEq κ] (k : κ) : ∀ {a : List (κ × Val)} {b : List (κ × V)}, KR L w a b → KR L w (dropD a k) (dropK b k)
  | _, _, .nil => .nil
  | _, _, .cons (a := p) (b := q) ⟨e, z⟩ t => by
    unfold dropD dropK
    rw [List.filter_cons, List.filter_cons]
    by_cases hk : p.1 = k
    · rw [if_neg (by simp [hk]), if_neg (by simp [← e, hk])]
      exact KR.drop k t
    · rw [if_pos (by simp [hk]), if_pos (by simp [← e, hk])]
      exact .cons ⟨e, z⟩ (KR.drop k t)
theorem keyV_of {v : Val} {x : V} {k : Key} (r : VR L w v x) (e : keyV v = some k) : x = kV k := by
  cases r with
  | int i => simp [keyV] at e; subst e; rfl
  | str z => simp [keyV] at e; subst e; rfl
  | _ => simp [keyV] at e
theorem keysV_of : ∀ {v : List Val} {x : List V} {k : List Key}, VRs L w v x → v.mapM keyV = some k → x = k.map kV
  | _, _, k, .nil, e => by simp at e; subst e; rfl
  | _, _, k, .cons r t, e => by
    obtain ⟨d, ds, h1, h2, rfl⟩ := mapM_cons_some e
    rw [keyV_of r h1, keysV_of t h2, List.map_cons]
/-- what the dict gives -/
theorem dget_of (S : Sim L ro w) {v u z : Val} {x y : V} (r : VR L w v x) (q : VR L w u y) (e : dget w.h v u = some z) : ∃ a r', x = .ref a ∧ DGet w.H a y (some r') ∧ VR L w z r' := by
  cases r with
  | ref hi =>
    simp only [dget] at e
    split at e
    · rename_i kvs h1
      obtain ⟨ks, rk, h⟩ := dK_of S hi h1
      split at e
      · rename_i k hk
        obtain ⟨r', e2, r2⟩ := (KR.look k rk).1 _ e
        rw [keyV_of q hk]
        exact ⟨_, r', rfl, by rw [← e2]; exact DGet.k h, r2⟩
      · cases e
    · rename_i kvs h1
      obtain ⟨ks, rk, h⟩ := dT_of S hi h1
      split at e
      · rename_i k hk
        cases q with
        | tup ht rt =>
          simp only [keyTV] at hk
          have ek := keysV_of rt hk
          subst ek
          obtain ⟨r', e2, r2⟩ := (KR.look k rk).1 _ e
          exact ⟨_, r', rfl, by rw [← e2]; exact DGet.t h ht, r2⟩
        | _ => simp [keyTV] at hk
      · cases e
    · cases e
  | _ => simp [dget] at e
theorem ix_S (hK : X.K = L.K) (hu : X.A.units + 64 < cLine) : IxR X (rS L ro (ixV ro)) := by
  intro value slice pins s σ H x y v u Q I rx ry h hs
  obtain ⟨w, a, b, σ', W, rfl, S, ra, rb, p⟩ := h
  simp only [ixV] at p
  split at p
  · rename_i xs e1
    obtain ⟨l, vs, rfl, rs, hq⟩ := sq_of S ra e1
    cases rb with
    | int i =>
      simp only at p
      split at p
      · rename_i z e2
        have hl := rs.length
        unfold atI at e2
        cases q : ixN xs.length i with
        | none => rw [q] at e2; cases e2
        | some k =>
          rw [q] at e2
          obtain ⟨y', h3, r3⟩ := rs.get e2
          refine ix_list value slice pins s σ _ _ _ _ _ _ I rx ry ⟨l, vs, i, y', rfl, rfl, by rw [hK]; exact hq, ?_, p.now S r3⟩ hs
          unfold atI
          rw [← hl, q]
          exact h3
      · exact p.elim
    | _ => exact p.elim
  · split at p
    · rename_i z _
      cases ra
      cases rb with
      | int i =>
        simp only at p
        split at p
        · rename_i hz
          split at p
          · rename_i c e2
            exact ix_str value slice pins s σ _ _ _ _ _ _ I rx ry ⟨z, i, c, rfl, rfl, hz, e2, p.now S (.str _)⟩ hs
          · exact p.elim
        · exact p.elim
      | _ => exact p.elim
    · split at p
      · rename_i xs e1
        obtain ⟨l, vs, rfl, rs, hq⟩ := tu_of S ra e1
        cases rb with
        | int i =>
          simp only at p
          split at p
          · rename_i z e2
            have hl := rs.length
            unfold atI at e2
            cases q : ixN xs.length i with
            | none => rw [q] at e2; cases e2
            | some k =>
              rw [q] at e2
              obtain ⟨y', h3, r3⟩ := rs.get e2
              refine ix_tup value slice pins s σ _ _ _ _ _ _ I rx ry ⟨l, vs, i, y', rfl, rfl, by rw [hK]; exact hq, ?_, p.now S r3⟩ hs
              unfold atI
              rw [← hl, q]
              exact h3
          · exact p.elim
        | _ => exact p.elim
      · split at p
        · rename_i z e1
          obtain ⟨l, r', rfl, g, r2⟩ := dget_of S ra rb e1
          cases rx
          exact PyProof.Rows.tail_any (dict_typeIs I g) PySem.F.slot_dict_getitem.lookup (d_getItem (by omega) I g ry fun w' s' I' rw' => ⟨r', w.H, I', rw', p.now S r2⟩) hs
        · exact p.elim
def rS3 (L : Ln) (ro : Ro) (g : Val → Option Int → Option Int → M Val) : V → Option Int → Option Int → Hp → VK → Prop := fun x lo hi H Q => ∃ w v σ W, w.H = H ∧ Sim L ro w ∧ VR L w v x ∧ Post L ro (VR L) W w σ Q (g v lo hi w.h)
theorem VRs.cut {xs : List Val} {vs : List V} (r : VRs L w xs vs) (lo hi : Option Int) : VRs L w (MP.cut xs lo hi) (cutV vs lo hi) := by
  unfold MP.cut cutV
  rw [r.length]
  exact (r.drop _).take _
theorem sl_S (hK : X.K = L.K) : SlR X (rS3 L ro (slV ro)) := by
  intro pins s σ H x v vl vu lo hi sl Q I rx hsl pl pu h
  obtain ⟨w, a, σ', W, rfl, S, ra, p⟩ := h
  simp only [slV] at p
  split at p
  · rename_i xs e1
    obtain ⟨l, vs, rfl, rs, hq⟩ := sq_of S ra e1
    exact sl_list pins s σ _ _ _ _ _ _ _ _ _ I rx hsl pl pu ⟨l, vs, rfl, by rw [hK]; exact hq, p.newLst S (rs.cut lo hi)⟩
  · split at p
    · rename_i xs _
      cases ra with
      | tup ht rt =>
        rename_i vs
        refine sl_tupA pins s σ _ _ _ _ _ _ _ _ _ I rx hsl pl pu ⟨_, vs, rfl, SqT.of ht, fun e => ?_, fun _ => p.newTup S (rt.cut lo hi)⟩
        have z : MP.cut xs lo hi = xs := by
          unfold MP.cut
          rw [rt.length, e.1, e.2, List.drop_zero]
          exact List.take_of_length_le (by rw [rt.length]; simp)
        rw [z] at p
        exact p.now S (.tup ht rt)
    · exact p.elim
/-- o[i] = v -/
theorem dput_of (S : Sim L ro w) {o i v : Val} {x y z : V} {h' : Hs} (ro' : VR L w o x) (ri : VR L w i y) (rv : VR L w v z) (e : dput w.h o i v = some h') :
    ∃ a w', w'.h = h' ∧ Ext w w' ∧ Sim L ro w' ∧ x = .ref a ∧ ((∃ xs k j, y = .int k ∧ w.H a = some (.lst xs) ∧ ixN xs.length k = some j ∧ w'.H = upd w.H a (.lst (xs.set j z))) ∨ DPut w.H a y z w'.H) := by
  cases ro' with
  | ref hi =>
    rename_i n
    simp only [dput] at e
    split at e
    · rename_i xs e1
      obtain ⟨vs, rs, h⟩ := lst_of S hi e1
      cases ri with
      | int k =>
        simp only at e
        split at e
        · rename_i j e2
          cases e
          have ex : Ext w (w.wr n (.lst (xs.set j v)) (.lst (vs.set j z))) := Ext.wr hi
          exact ⟨_, _, rfl, ex, S.wr hi ⟨_, (VRs.set rv j rs).ext S ex, upd_same⟩, rfl, .inl ⟨vs, k, j, rfl, h, by rw [← rs.length]; exact e2, rfl⟩⟩
        · cases e
      | _ => cases e
    · rename_i kvs e1
      obtain ⟨ks, rk, h⟩ := dK_of S hi e1
      split at e
      · rename_i k hk
        split at e
        · rename_i hz
          cases e
          rw [keyV_of ri hk]
          have ex : Ext w (w.wr n (.dK (putD kvs k v)) (.dK (putK ks k z))) := Ext.wr hi
          exact ⟨_, _, rfl, ex, S.wr hi ⟨_, KR.ext S ex (KR.put k rv rk), upd_same⟩, rfl, .inr (DPut.k h (by rw [← KR.length rk]; exact hz))⟩
        · cases e
      · cases e
    · rename_i kvs e1
      obtain ⟨ks, rk, h⟩ := dT_of S hi e1
      split at e
      · rename_i k hk
        split at e
        · rename_i hz
          cases e
          cases ri with
          | tup ht rt =>
            simp only [keyTV] at hk
            have ek := keysV_of rt hk
            subst ek
            have ex : Ext w (w.wr n (.dT (putD kvs k v)) (.dT (putK ks k z))) := Ext.wr hi
            exact ⟨_, _, rfl, ex, S.wr hi ⟨_, KR.ext S ex (KR.put k rv rk), upd_same⟩, rfl, .inr (DPut.t h ht (by rw [← KR.length rk]; exact hz))⟩
          | _ => simp [keyTV] at hk
        · cases e
      · cases e
    · cases e
  | _ => simp [dput] at e
/-- a store by values -/
def rSet (L : Ln) (ro : Ro) : V → V → V → Hp → (Hp → Prop) → Prop := fun o i v H Q => ∃ w a k z h', w.H = H ∧ Sim L ro w ∧ VR L w a o ∧ VR L w k i ∧ VR L w z v ∧ dput w.h a k z = some h' ∧ ∀ w', w'.h = h' → Ext w w' → Sim L ro w' → Q w'.H
theorem set_S (hu : X.A.units + 64 < cLine) : PSet X (rSet L ro) := by
  intro pins s σ H o i v ov iv u Q I r1 r2 r3 h
  obtain ⟨w, a, k, z, h', rfl, S, q1, q2, q3, e, hq⟩ := h
  obtain ⟨l, w', e1, ex, S', rfl, hc⟩ := dput_of S q1 q2 q3 e
  have q := hq w' e1 ex S'
  rcases hc with ⟨xs, k, j, rfl, h, hj, eH⟩ | g
  · rw [eH] at q
    exact set_list pins s σ _ _ _ _ _ _ _ _ I r1 r2 r3 ⟨l, xs, k, j, rfl, rfl, h, hj, q⟩
  · exact set_dict (by omega) pins s σ _ _ _ _ _ _ _ _ I r1 r2 r3 ⟨l, w'.H, rfl, g, q⟩
/-! ### in -/
theorem items_dp (S : Sim L ro w) {y : Val} {u : V} {ds : List PyData} (r : VR L w y u) (e : itemsD ro w.h y = some ds) : (Dp L.K w.H u (.list ds) ∨ Dp L.K w.H u (.tuple ds)) ∧ PyData.depthAll ds ≤ 19 := by
  unfold itemsD at e
  split at e
  · rename_i ys e1
    obtain ⟨a, vs, rfl, rs, h⟩ := tu_of S r e1
    obtain ⟨d, l⟩ := pyVs_dp S (fun v d x => pyV_dp S 19 v d x) rs e
    exact ⟨.inr (.tup h d), l⟩
  · split at e
    · rename_i ys e1
      obtain ⟨a, vs, rfl, rs, h⟩ := sq_of S r e1
      obtain ⟨d, l⟩ := pyVs_dp S (fun v d x => pyV_dp S 19 v d x) rs e
      exact ⟨.inl (.lst h d), l⟩
    · cases e
/-- y in d, of a dict -/
theorem dkey_of (S : Sim L ro w) {u : Val} {y : V} {k : Key} {n : Nat} {kvs : List (Key × Val)} (hn : n < w.h.sz) (e : w.h.ob n = .dK kvs) (q : VR L w u y) (hk : keyV u = some k) : ∃ o, DGet w.H (w.ι n) y o ∧ o.isSome = (look kvs k).isSome := by
  obtain ⟨ks, rk, h⟩ := dK_of S hn e
  rw [keyV_of q hk]
  exact ⟨_, DGet.k h, (KR.isSome k rk).symm⟩
theorem dkeyT_of (S : Sim L ro w) {u : Val} {y : V} {k : List Key} {n : Nat} {kvs : List (List Key × Val)} (hn : n < w.h.sz) (e : w.h.ob n = .dT kvs) (q : VR L w u y) (hk : keyTV u = some k) : ∃ o, DGet w.H (w.ι n) y o ∧ o.isSome = (look kvs k).isSome := by
  obtain ⟨ks, rk, h⟩ := dT_of S hn e
  cases q with
  | tup ht rt =>
    simp only [keyTV] at hk
    have ek := keysV_of rt hk
    subst ek
    exact ⟨_, DGet.t h ht, (KR.isSome k rk).symm⟩
  | _ => simp [keyTV] at hk
theorem Post.bnd_ok {α β γ : Type} {Rel : Rl β γ} {Q : γ → Hp → Prop} {m : M α} {k : α → M β} {a : α} {h' : Hs} (e : m w.h = .ok a h') (p : Post L ro Rel W w σ Q (bnd m k w.h)) : Post L ro Rel W w σ Q (k a h') := by
  unfold bnd at p
  rw [e] at p
  exact p
theorem inV_kinds {x y : Val} (h : Hs) : (∃ b, inV ro x y h = .ok b h) ∨ inV ro x y h = .no := by
  unfold inV
  split
  · split
    · exact .inl ⟨_, rfl⟩
    · exact .inr rfl
  · split
    · split
      · exact .inl ⟨_, rfl⟩
      · exact .inr rfl
    · split
      · split
        · exact .inl ⟨_, rfl⟩
        · exact .inr rfl
      · split
        · exact .inl ⟨_, rfl⟩
        · exact .inr rfl
      · exact .inr rfl
    · exact .inr rfl
theorem in_run (hK : X.K = L.K) (hu : X.A.units + 66 < cLine) {pins : List (Addr × Obj)} {s : Shared} {σ' : St} {x y : V} {v u : Value} {a b : Val} {k : Bool} {R : Value → Shared → Prop} (I : Inv X pins σ' w.H s) (S : Sim L ro w) (rx : RelV x v) (ry : RelV y u)
    (ra : VR L w a x) (rb : VR L w b y) (e : inV ro a b w.h = .ok k w.h) (h : ∀ s', Inv X pins σ' w.H s' → R (.bool k) s') : wpAny (model X.prog X.w) X.A (compareOp .In v u) R X.xe s := by
  unfold inV at e
  split at e
  · rename_i ds e1
    split at e
    · rename_i d e2
      cases e
      obtain ⟨d1, l1⟩ := items_dp S rb e1
      obtain ⟨d2, l2⟩ := pyV_dp S _ _ _ _ e2 ra
      obtain ⟨as, r1⟩ := Dp.reads I _ x v (by rw [hK]; exact d2) rx
      rcases d1 with d1 | d1
      · obtain ⟨bs, r2⟩ := Dp.reads I _ y u (by rw [hK]; exact d1) ry
        have hp := Dp.plainOf d1
        simp only [PyData.plain] at hp
        exact SeqAt.in_list_data r2 r1 hp (Dp.plainOf d2) (by omega) (h s I)
      · obtain ⟨bs, r2⟩ := Dp.reads I _ y u (by rw [hK]; exact d1) ry
        have hp := Dp.plainOf d1
        simp only [PyData.plain] at hp
        exact SeqAt.in_tuple_data r2 r1 hp (Dp.plainOf d2) (by omega) (h s I)
    · cases e
  · split at e
    · rename_i z _
      cases rb
      cases ra with
      | str i =>
        cases e
        exact thn (op_in_str (X := X) pins s σ' _ _ _ _ _ (fun c H' => c = .bl (!(Builtin.Str.occurrences z i 0 z.length 1).isEmpty) ∧ H' = w.H) I rx ry ⟨i, z, rfl, rfl, rfl, rfl⟩) fun c s' ⟨_, _, I', rc, e1, e2⟩ => by
          subst e1; subst e2
          cases rc
          exact h s' I'
      | _ => cases e
    · rename_i n _
      cases rb with
      | ref hn =>
      cases ry
      split at e
      · rename_i kvs e1
        split at e
        · rename_i k' hk
          cases e
          obtain ⟨o, g, eo⟩ := dkey_of S hn e1 ra hk
          exact d_in (by omega) I g rx fun s' I' => by rw [eo]; exact h s' I'
        · cases e
      · rename_i kvs e1
        split at e
        · rename_i k' hk
          cases e
          obtain ⟨o, g, eo⟩ := dkeyT_of S hn e1 ra hk
          exact d_in (by omega) I g rx fun s' I' => by rw [eo]; exact h s' I'
        · cases e
      · cases e
    · cases e
theorem notin_run (hK : X.K = L.K) (hu : X.A.units + 66 < cLine) {pins : List (Addr × Obj)} {s : Shared} {σ' : St} {x y : V} {v u : Value} {a b : Val} {k : Bool} {R : Value → Shared → Prop} (I : Inv X pins σ' w.H s) (S : Sim L ro w) (rx : RelV x v) (ry : RelV y u)
    (ra : VR L w a x) (rb : VR L w b y) (e : inV ro a b w.h = .ok k w.h) (h : ∀ s', Inv X pins σ' w.H s' → R (.bool (!k)) s') : wpAny (model X.prog X.w) X.A (compareOp .NotIn v u) R X.xe s := by
  unfold inV at e
  split at e
  · rename_i ds e1
    split at e
    · rename_i d e2
      cases e
      obtain ⟨d1, l1⟩ := items_dp S rb e1
      obtain ⟨d2, l2⟩ := pyV_dp S _ _ _ _ e2 ra
      obtain ⟨as, r1⟩ := Dp.reads I _ x v (by rw [hK]; exact d2) rx
      rcases d1 with d1 | d1
      · obtain ⟨bs, r2⟩ := Dp.reads I _ y u (by rw [hK]; exact d1) ry
        have hp := Dp.plainOf d1
        simp only [PyData.plain] at hp
        exact SeqAt.notIn_list_data r2 r1 hp (Dp.plainOf d2) (by omega) (h s I)
      · obtain ⟨bs, r2⟩ := Dp.reads I _ y u (by rw [hK]; exact d1) ry
        have hp := Dp.plainOf d1
        simp only [PyData.plain] at hp
        exact SeqAt.notIn_tuple_data r2 r1 hp (Dp.plainOf d2) (by omega) (h s I)
    · cases e
  · split at e
    · rename_i z _
      cases rb
      cases ra with
      | str i =>
        cases e
        exact thn (op_notin_str (X := X) pins s σ' _ _ _ _ _ (fun c H' => c = .bl (!(!(Builtin.Str.occurrences z i 0 z.length 1).isEmpty)) ∧ H' = w.H) I rx ry ⟨i, z, rfl, rfl, rfl, rfl⟩) fun c s' ⟨_, _, I', rc, e1, e2⟩ => by
          subst e1; subst e2
          cases rc
          exact h s' I'
      | _ => cases e
    · rename_i n _
      cases rb with
      | ref hn =>
      cases ry
      split at e
      · rename_i kvs e1
        split at e
        · rename_i k' hk
          cases e
          obtain ⟨o, g, eo⟩ := dkey_of S hn e1 ra hk
          exact d_notIn (by omega) I g rx fun s' I' => by rw [eo]; exact h s' I'
        · cases e
      · rename_i kvs e1
        split at e
        · rename_i k' hk
          cases e
          obtain ⟨o, g, eo⟩ := dkeyT_of S hn e1 ra hk
          exact d_notIn (by omega) I g rx fun s' I' => by rw [eo]; exact h s' I'
        · cases e
      · cases e
    · cases e
theorem op_inS (hK : X.K = L.K) (hu : X.A.units + 66 < cLine) : OpR X (compareOp .In) (rS L ro (cmpV ro .isin)) := by
  rintro pins s σ H x y v u Q I rx ry ⟨w, a, b, σ', W, rfl, S, ra, rb, p⟩
  rcases inV_kinds (ro := ro) (x := a) (y := b) w.h with ⟨k, e⟩ | e
  · have p' := p.bnd_ok e
    exact in_run hK hu I S rx ry ra rb e fun s' I' => ⟨.bl k, w.H, I', rfl, p'.now S (.bl _)⟩
  · simp only [cmpV, bnd, e] at p
    exact p.elim
theorem op_notinS (hK : X.K = L.K) (hu : X.A.units + 66 < cLine) : OpR X (compareOp .NotIn) (rS L ro (cmpV ro .notin)) := by
  rintro pins s σ H x y v u Q I rx ry ⟨w, a, b, σ', W, rfl, S, ra, rb, p⟩
  rcases inV_kinds (ro := ro) (x := a) (y := b) w.h with ⟨k, e⟩ | e
  · have p' := p.bnd_ok e
    exact notin_run hK hu I S rx ry ra rb e fun s' I' => ⟨.bl (!k), w.H, I', rfl, p'.now S (.bl _)⟩
  · simp only [cmpV, bnd, e] at p
    exact p.elim
def coOf : CO → CmpOp
  | .eq => .Eq
  | .ne => .NotEq
  | .lt => .Lt
  | .le => .LtE
  | .gt => .Gt
  | .ge => .GtE
  | .is => .Is
  | .isnot => .IsNot
  | .isin => .In
  | .notin => .NotIn
theorem op_cmpS (hK : X.K = L.K) (hu : X.A.units + 66 < cLine) : ∀ c : CO, OpR X (compareOp (coOf c)) (rS L ro (cmpV ro c))
  | .eq => op_eqS hK (by omega)
  | .ne => op_neS hK (by omega)
  | .lt => op_ltS hK (by omega)
  | .le => op_ordS op_le
  | .gt => op_ordS op_gt
  | .ge => op_ordS op_ge
  | .is => op_isS
  | .isnot => op_isnotS
  | .isin => op_inS hK hu
  | .notin => op_notinS hK hu
end
end MP

set_option maxRecDepth 100000
namespace MP
open PySem L2
section
variable {L : Ln} {ro : Ro} {W : WX} {w w' w1 w2 : Wd} {σ : St} {ρ : Env} {X : Cx}
abbrev EqR' {α : Type} : Rl α α := fun _ a b => a = b
theorem isEmpty_VRs {xs : List Val} {vs : List V} (r : VRs L w xs vs) : (!xs.isEmpty) = !vs.isEmpty := by
  cases r <;> rfl
theorem isEmpty_KR {κ : Type} {xs : List (κ × Val)} {vs : List (κ × V)} (r : KR L w xs vs) : (!xs.isEmpty) = !vs.isEmpty := by
  cases r <;> rfl
/-- a value's truth -/
theorem tru_of (hK : X.K = L.K) (S : Sim L ro w) {v : Val} {x : V} {k : Bool} {h' : Hs} (r : VR L w v x) (e : truV ro v w.h = .ok k h') : h' = w.h ∧ TruV X.K x w.H k := by
  cases r with
  | non => cases e; exact ⟨rfl, rfl⟩
  | bl b => cases e; exact ⟨rfl, rfl⟩
  | int i => cases e; exact ⟨rfl, rfl⟩
  | str y =>
    simp only [truV] at e
    split at e
    · rename_i hz
      cases e; exact ⟨rfl, hz, rfl⟩
    · cases e
  | tup h r =>
    cases e
    exact ⟨rfl, .inr (.inl ⟨_, SqT.of h, isEmpty_VRs r⟩)⟩
  | ref hi =>
    simp only [truV] at e
    split at e
    · rename_i xs q
      cases e
      obtain ⟨vs, r, h⟩ := lst_of S hi q
      exact ⟨rfl, .inl ⟨_, SqL.of h, isEmpty_VRs r⟩⟩
    · rename_i xs q
      cases e
      obtain ⟨vs, r, h⟩ := dK_of S hi q
      exact ⟨rfl, .inr (.inr ⟨_, h, isEmpty_KR r⟩)⟩
    · cases e
  | cst c =>
    simp only [truV] at e
    split at e
    · rename_i t xs q
      cases e
      cases t with
      | false =>
        obtain ⟨a, vs, hx, r, h⟩ := sq_of S (VR.cst (L := L) (w := w) c) (show sqV ro w.h (.cst c) = some xs from roL_eq q)
        cases hx
        exact ⟨rfl, .inl ⟨_, by rw [hK]; exact h, isEmpty_VRs r⟩⟩
      | true =>
        obtain ⟨a, vs, hx, r, h⟩ := tu_of S (VR.cst (L := L) (w := w) c) (show tuV ro (.cst c) = some xs from roL_eq q)
        cases hx
        exact ⟨rfl, .inr (.inl ⟨_, by rw [hK]; exact h, isEmpty_VRs r⟩)⟩
    · cases e
theorem truV_kinds {v : Val} (h : Hs) : (∃ k, truV ro v h = .ok k h) ∨ truV ro v h = .no := by
  cases v <;> simp only [truV]
  · exact .inl ⟨_, rfl⟩
  · exact .inl ⟨_, rfl⟩
  · exact .inl ⟨_, rfl⟩
  · split
    · exact .inl ⟨_, rfl⟩
    · exact .inr rfl
  · exact .inl ⟨_, rfl⟩
  · split
    · exact .inl ⟨_, rfl⟩
    · exact .inl ⟨_, rfl⟩
    · exact .inr rfl
  · split
    · exact .inl ⟨_, rfl⟩
    · exact .inr rfl
/-! ### built-ins by values -/
def rC (L : Ln) (ro : Ro) (g : List Val → M Val) : List V → Hp → VK → Prop := fun xs H Q => ∃ w vs σ W, w.H = H ∧ Sim L ro w ∧ VRs L w vs xs ∧ Post L ro (VR L) W w σ Q (g vs w.h)
theorem items_of (hK : X.K = L.K) (S : Sim L ro w) {v : Val} {x : V} {xs : List Val} (r : VR L w v x) (e : itemsV ro w.h v = some xs) : ∃ a vs, x = .ref a ∧ VRs L w xs vs ∧ (SqL X.K w.H a vs ∨ SqT X.K w.H a vs) := by
  unfold itemsV at e
  split at e
  · rename_i ys e1
    cases e
    obtain ⟨a, vs, e2, r, h⟩ := tu_of S r e1
    exact ⟨a, vs, e2, r, .inr (by rw [hK]; exact h)⟩
  · obtain ⟨a, vs, e2, r, h⟩ := sq_of S r e
    exact ⟨a, vs, e2, r, .inl (by rw [hK]; exact h)⟩
theorem call_lenS (hK : X.K = L.K) : CallR X (.builtin "len") (rC L ro (biV ro .len)) := by
  rintro pins s σ H xs us Q I rs ⟨w, vs, σ', W, rfl, S, r, p⟩
  cases r with
  | nil => exact p.elim
  | cons r t =>
    cases t with
    | cons _ _ => exact p.elim
    | nil =>
      simp only [biV] at p
      split at p
      · rename_i n e
        unfold lenV at e
        split at e
        · rename_i ys e1
          cases e
          obtain ⟨a, zs, rfl, r2, h⟩ := items_of hK S r e1
          rw [r2.length] at p
          exact call_len_seq pins s σ _ _ _ _ I rs ⟨a, zs, rfl, h, p.now S (.int _)⟩
        · split at e
          · rename_i y _
            split at e
            · rename_i hz
              cases e
              cases r
              exact call_len_str pins s σ _ _ _ _ I rs ⟨y, rfl, hz, p.now S (.int _)⟩
            · cases e
          · split at e
            · rename_i kvs e1
              cases e
              cases r with
              | ref hi =>
                obtain ⟨ks, rk, h⟩ := dK_of S hi e1
                obtain ⟨u, rfl, rx⟩ := vals1 rs
                cases rx
                rw [KR.length rk] at p
                exact d_len I (Rd.of h) fun t' s' I' => ⟨.int _, w.H, I', ⟨_, rfl⟩, p.now S (.int _)⟩
            · cases e
          · cases e
      · exact p.elim
theorem call_intS : CallR X (.type "int") (rC L ro (biV ro .int)) := by
  rintro pins s σ H xs us Q I rs ⟨w, vs, σ', W, rfl, S, r, p⟩
  cases r with
  | nil => exact p.elim
  | cons r t =>
    cases t with
    | cons _ _ => cases r <;> exact p.elim
    | nil =>
      cases r with
      | int i => exact call_int1 pins s σ _ _ _ _ I rs (.inl ⟨i, rfl, p.now S (.int _)⟩)
      | _ => exact p.elim
theorem call_listS (hK : X.K = L.K) : CallR X (.type "list") (rC L ro (biV ro .list)) := by
  rintro pins s σ H xs us Q I rs ⟨w, vs, σ', W, rfl, S, r, p⟩
  cases r with
  | nil => exact p.elim
  | cons r t =>
    cases t with
    | cons _ _ => exact p.elim
    | nil =>
      simp only [biV] at p
      split at p
      · rename_i ys e
        obtain ⟨a, zs, rfl, r2, h⟩ := items_of hK S r e
        exact call_list_of pins s σ _ _ _ _ I rs ⟨a, zs, rfl, h, p.newLst S r2⟩
      · exact p.elim
theorem call_tupleS (hK : X.K = L.K) : CallR X (.type "tuple") (rC L ro (biV ro .tuple)) := by
  rintro pins s σ H xs us Q I rs ⟨w, vs, σ', W, rfl, S, r, p⟩
  cases r with
  | nil => exact p.elim
  | cons r t =>
    cases t with
    | cons _ _ => cases r <;> exact p.elim
    | nil =>
      cases r with
      | tup h r2 => exact call_tuple_of pins s σ _ _ _ _ I rs ⟨_, _, rfl, .inr ⟨SqT.of h, p.now S (.tup h r2)⟩⟩
      | ref hi =>
        simp only [biV] at p
        split at p
        · rename_i ys e
          obtain ⟨a, zs, ea, r2, h⟩ := sq_of S (VR.ref (L := L) hi) e
          cases ea
          exact call_tuple_of pins s σ _ _ _ _ I rs ⟨_, zs, rfl, .inl ⟨by rw [hK]; exact h, p.newTup S r2⟩⟩
        · exact p.elim
      | cst c =>
        simp only [biV] at p
        split at p
        · rename_i ys e
          obtain ⟨a, zs, ea, r2, h⟩ := sq_of S (VR.cst (L := L) (w := w) c) e
          cases ea
          exact call_tuple_of pins s σ _ _ _ _ I rs ⟨_, zs, rfl, .inl ⟨by rw [hK]; exact h, p.newTup S r2⟩⟩
        · exact p.elim
      | _ => exact p.elim
theorem call_sumS (hK : X.K = L.K) (hc : X.calm = true) : CallR X (.builtin "sum") (rC L ro (biV ro .sum)) := by
  rintro pins s σ H xs us Q I rs ⟨w, vs, σ', W, rfl, S, r, p⟩
  cases r with
  | nil => exact p.elim
  | cons r t =>
    cases t with
    | cons _ _ => exact p.elim
    | nil =>
      simp only [biV] at p
      split at p
      · rename_i ys e
        obtain ⟨a, zs, rfl, r2, h⟩ := sq_of S r e
        split at p
        · rename_i ns e2
          have := r2.ints e2
          subst this
          exact cr_sum hc pins s σ _ _ _ _ I rs ⟨a, ns, rfl, by rw [hK]; exact h, p.now S (.int _)⟩
        · exact p.elim
      · exact p.elim
theorem call_allS (hK : X.K = L.K) (hc : X.calm = true) : CallR X (.builtin "all") (rC L ro (biV ro .all)) := by
  rintro pins s σ H xs us Q I rs ⟨w, vs, σ', W, rfl, S, r, p⟩
  cases r with
  | nil => exact p.elim
  | cons r t =>
    cases t with
    | cons _ _ => exact p.elim
    | nil =>
      simp only [biV] at p
      split at p
      · rename_i ys e
        obtain ⟨a, zs, rfl, r2, h⟩ := sq_of S r e
        split at p
        · rename_i ns e2
          have := r2.bools e2
          subst this
          exact cr_all hc pins s σ _ _ _ _ I rs ⟨a, ns, rfl, by rw [hK]; exact h, p.now S (.bl _)⟩
        · exact p.elim
      · exact p.elim
theorem call_anyS (hK : X.K = L.K) (hc : X.calm = true) : CallR X (.builtin "any") (rC L ro (biV ro .any)) := by
  rintro pins s σ H xs us Q I rs ⟨w, vs, σ', W, rfl, S, r, p⟩
  cases r with
  | nil => exact p.elim
  | cons r t =>
    cases t with
    | cons _ _ => exact p.elim
    | nil =>
      simp only [biV] at p
      split at p
      · rename_i ys e
        obtain ⟨a, zs, rfl, r2, h⟩ := sq_of S r e
        split at p
        · rename_i ns e2
          have := r2.bools e2
          subst this
          exact cr_any hc pins s σ _ _ _ _ I rs ⟨a, ns, rfl, by rw [hK]; exact h, p.now S (.bl _)⟩
        · exact p.elim
      · exact p.elim
theorem isort_one (ns ns' : List Int) (h1 : ns'.Perm ns) (h2 : ns'.Pairwise (· ≤ ·)) : ns' = isort ns := by
  have p1 : (isort ns).Perm ns := List.mergeSort_perm _ _
  have s1 : (isort ns).Pairwise (fun a b => decide (a ≤ b) = true) := by
    refine List.pairwise_mergeSort (fun a b c h1 h2 => ?_) (fun a b => ?_) ns
    · simp only [decide_eq_true_eq] at *; omega
    · simp only [Bool.or_eq_true, decide_eq_true_eq]; omega
  have s2 : (isort ns).Pairwise (· ≤ ·) := s1.imp fun h => by simpa using h
  exact List.Perm.eq_of_pairwise (le := fun a b : Int => a ≤ b) (fun a b _ _ h1 h2 => Int.le_antisymm h1 h2) h2 s2 (h1.trans p1.symm)
theorem call_sortedS (hK : X.K = L.K) : CallR X (.builtin "sorted") (rC L ro (biV ro .sorted)) := by
  rintro pins s σ H xs us Q I rs ⟨w, vs, σ', W, rfl, S, r, p⟩
  cases r with
  | nil => exact p.elim
  | cons r t =>
    cases t with
    | cons _ _ => exact p.elim
    | nil =>
      simp only [biV] at p
      split at p
      · rename_i ys e
        obtain ⟨a, zs, rfl, r2, h⟩ := sq_of S r e
        split at p
        · rename_i ns e2
          have := r2.ints e2
          subst this
          split at p
          · refine cr_sortedI pins s σ _ _ _ _ I rs ⟨a, ns, rfl, by rw [hK]; exact h, fun ns' q h1 h2 hq => ?_⟩
            have := isort_one ns ns' h1 h2
            subst this
            exact p.newLst S (VRs.of_ints _) q hq
          · exact p.elim
        · exact p.elim
      · exact p.elim
theorem call_maxS (hc : X.calm = true) : CallR X (.builtin "max") (rC L ro (biV ro .max)) := by
  rintro pins s σ H xs us Q I rs ⟨w, vs, σ', W, rfl, S, r, p⟩
  cases r with
  | nil => exact p.elim
  | cons r t =>
    cases t with
    | nil => cases r <;> exact p.elim
    | cons r' t =>
      cases t with
      | cons _ _ => cases r <;> cases r' <;> exact p.elim
      | nil =>
        cases r with
        | int i =>
          cases r' with
          | int j => exact call_max2 hc pins s σ _ _ _ _ I rs ⟨i, j, rfl, p.now S (.int _)⟩
          | _ => exact p.elim
        | _ => cases r' <;> exact p.elim
theorem call_minS (hc : X.calm = true) : CallR X (.builtin "min") (rC L ro (biV ro .min)) := by
  rintro pins s σ H xs us Q I rs ⟨w, vs, σ', W, rfl, S, r, p⟩
  cases r with
  | nil => exact p.elim
  | cons r t =>
    cases t with
    | nil => cases r <;> exact p.elim
    | cons r' t =>
      cases t with
      | cons _ _ => cases r <;> cases r' <;> exact p.elim
      | nil =>
        cases r with
        | int i =>
          cases r' with
          | int j => exact call_min2 hc pins s σ _ _ _ _ I rs ⟨i, j, rfl, p.now S (.int _)⟩
          | _ => exact p.elim
        | _ => cases r' <;> exact p.elim
/-! ### methods of lists -/
def rM (L : Ln) (ro : Ro) (g : Val → List Val → M Val) : V → List V → Hp → VK → Prop := fun x xs H Q => ∃ w v vs σ W, w.H = H ∧ Sim L ro w ∧ VR L w v x ∧ VRs L w vs xs ∧ Post L ro (VR L) W w σ Q (g v vs w.h)
theorem mt_appendS : MtR X "list.append" (rM L ro (bmV .append)) := by
  rintro pins s σ H x xs v us Q I rx rs ⟨w, a, vs, σ', W, rfl, S, r, rv, p⟩
  cases r with
  | ref hi =>
    cases rv with
    | cons r1 t =>
      cases t with
      | nil =>
        simp only [bmV] at p
        split at p
        · rename_i ys e
          split at p
          · rename_i hz
            obtain ⟨zs, r2, h⟩ := lst_of S hi e
            exact mt_append pins s σ _ _ _ _ _ _ I rx rs ⟨_, zs, _, rfl, rfl, h, by rw [← r2.length]; exact hz, p.wrote S hi ⟨_, (r2.append (.cons r1 .nil)).ext S (Ext.wr hi), upd_same⟩ .non⟩
          · exact p.elim
        · exact p.elim
      | cons _ _ => exact p.elim
    | nil => exact p.elim
  | _ => exact p.elim
theorem mt_extendS : MtR X "list.extend" (rM L ro (bmV .extend)) := by
  rintro pins s σ H x xs v us Q I rx rs ⟨w, a, vs, σ', W, rfl, S, r, rv, p⟩
  cases r with
  | ref hi =>
    cases rv with
    | cons r1 t =>
      cases r1 with
      | ref hj =>
        cases t with
        | nil =>
          simp only [bmV] at p
          split at p
          · rename_i ys ys' e e'
            split at p
            · rename_i hz
              obtain ⟨zs, r2, h⟩ := lst_of S hi e
              obtain ⟨zs', r2', h'⟩ := lst_of S hj e'
              have l1 := r2.length
              have l2 := r2'.length
              exact mt_extend pins s σ _ _ _ _ _ _ I rx rs ⟨_, _, zs, zs', rfl, rfl, h, h', by omega, p.wrote S hi ⟨_, (r2.append r2').ext S (Ext.wr hi), upd_same⟩ .non⟩
            · exact p.elim
          · exact p.elim
        | cons _ _ => exact p.elim
      | _ => cases t <;> exact p.elim
    | nil => exact p.elim
  | _ => exact p.elim
theorem ixN_bounds {n : Nat} {i : Int} {k : Nat} (h : ixN n i = some k) (hn : n ≤ sizeLine) : -(2 ^ 63) ≤ i ∧ i < 2 ^ 63 := by
  have z := ixN_seq h
  have := line63
  omega
theorem mt_popS : MtR X "list.pop" (rM L ro (bmV .pop)) := by
  rintro pins s σ H x xs v us Q I rx rs ⟨w, a, vs, σ', W, rfl, S, r, rv, p⟩
  cases r with
  | ref hi =>
    cases rv with
    | nil =>
      simp only [bmV] at p
      split at p
      · rename_i ys e
        split at p
        · rename_i y e2
          obtain ⟨zs, r2, h⟩ := lst_of S hi e
          obtain ⟨z, e3, r3⟩ := r2.get e2
          exact mt_pop pins s σ _ _ _ _ _ _ I rx rs ⟨_, zs, z, rfl, rfl, h, by rw [← r2.length]; exact e3, p.wrote S hi ⟨_, r2.dropLast.ext S (Ext.wr hi), upd_same⟩ (r3.ext S (Ext.wr hi))⟩
        · exact p.elim
      · exact p.elim
    | cons r1 t =>
      cases r1 with
      | int i =>
        cases t with
        | nil =>
          simp only [bmV] at p
          split at p
          · rename_i ys e
            split at p
            · rename_i k hk
              split at p
              · rename_i y e2
                obtain ⟨zs, r2, h⟩ := lst_of S hi e
                obtain ⟨z, e3, r3⟩ := r2.get e2
                have hs := ixN_seq hk
                have hlen : zs.length ≤ sizeLine := (I.lstM h).1
                have hb := ixN_bounds hk (by rw [r2.length]; exact hlen)
                exact mt_popAt pins s σ _ _ _ _ _ _ I rx rs ⟨_, zs, i, k, z, rfl, rfl, h, hb.1, hb.2, by rw [← r2.length]; exact hs.1, e3, p.wrote S hi ⟨_, (r2.eraseIdx k).ext S (Ext.wr hi), upd_same⟩ (r3.ext S (Ext.wr hi))⟩
              · exact p.elim
            · exact p.elim
          · exact p.elim
        | cons _ _ => exact p.elim
      | _ => cases t <;> exact p.elim
  | _ => cases rv with
    | nil => exact p.elim
    | cons r1 t => cases r1 <;> cases t <;> exact p.elim
theorem mt_clearS : MtR X "list.clear" (rM L ro (bmV .clear)) := by
  rintro pins s σ H x xs v us Q I rx rs ⟨w, a, vs, σ', W, rfl, S, r, rv, p⟩
  cases r with
  | ref hi =>
    cases rv with
    | nil =>
      simp only [bmV] at p
      split at p
      · rename_i ys e
        obtain ⟨zs, r2, h⟩ := lst_of S hi e
        exact mt_clear pins s σ _ _ _ _ _ _ I rx rs ⟨_, zs, rfl, rfl, h, p.wrote S hi ⟨_, .nil, upd_same⟩ .non⟩
      · exact p.elim
    | cons _ _ => exact p.elim
  | _ => cases rv <;> exact p.elim
theorem bmTy_of (hK : X.K = L.K) (S : Sim L ro w) {m : BM} {v : Val} {x : V} (r : VR L w v x) (e : bmTy m v w.h = true) : tyV X.K "list" x w.H := by
  cases r with
  | ref hi =>
    simp only [bmTy] at e
    split at e
    · rename_i xs q
      obtain ⟨vs, r, h⟩ := lst_of S hi q
      exact .inl ⟨rfl, vs, SqL.of h⟩
    · cases e
  | _ => cases e
/-! ### attributes -/
theorem FR.length : ∀ {a : List (Nat × Val)} {b : List (Str × V)}, FR L w a b → a.length = b.length
  | _, _, .nil => rfl
  | _, _, .cons _ t => by rw [List.length_cons, List.length_cons, FR.length t]
theorem FR.look (f : Nat) : ∀ {a : List (Nat × Val)} {b : List (Str × V)}, FR L w a b → (∀ v, a.lookup f = some v → ∃ x, b.lookup (L.fN f) = some x ∧ VR L w v x) ∧ (a.lookup f = none → b.lookup (L.fN f) = none)
  | _, _, .nil => ⟨fun v e => by simp at e, fun _ => rfl⟩
  | _, _, .cons (a := (g, p)) (b := (s, q)) ⟨e, r⟩ t => by
    have ih := FR.look f t
    have es : s = L.fN g := e
    by_cases hk : f = g
    · subst hk
      subst es
      have e1 : ∀ l, List.lookup f ((f, p) :: l) = some p := fun l => by simp [List.lookup]
      have e2 : ∀ l, List.lookup (L.fN f) ((L.fN f, q) :: l) = some q := fun l => by simp [List.lookup]
      exact ⟨fun v h => ⟨q, e2 _, by rw [e1] at h; cases h; exact r⟩, fun h => by rw [e1] at h; cases h⟩
    · have hq : ¬ L.fN f = s := fun z => hk (L.fI _ _ (z.trans es))
      have e1 : ∀ l, List.lookup f ((g, p) :: l) = List.lookup f l := fun l => by
        have : (f == g) = false := beq_eq_false_iff_ne.mpr hk
        simp only [List.lookup, this]
      have e2 : ∀ l, List.lookup (L.fN f) ((s, q) :: l) = List.lookup (L.fN f) l := fun l => by
        have : (L.fN f == s) = false := beq_eq_false_iff_ne.mpr hq
        simp only [List.lookup, this]
      exact ⟨fun v h => by rw [e1] at h; rw [e2]; exact ih.1 v h, fun h => by rw [e1] at h; rw [e2]; exact ih.2 h⟩
theorem FR.put (f : Nat) {v : Val} {y : V} (r : VR L w v y) : ∀ {a : List (Nat × Val)} {b : List (Str × V)}, FR L w a b → FR L w (putFl f v a) (putF (L.fN f) y b)
  | _, _, .nil => .cons ⟨rfl, r⟩ .nil
  | _, _, .cons (a := (g, p)) (b := (s, q)) ⟨e, z⟩ t => by
    have es : s = L.fN g := e
    subst es
    show FR L w (if g = f then (g, v) :: _ else (g, p) :: putFl f v _) (if L.fN g = L.fN f then (L.fN g, y) :: _ else (L.fN g, q) :: putF (L.fN f) y _)
    by_cases hk : g = f
    · rw [if_pos hk, if_pos (by rw [hk])]
      exact .cons ⟨rfl, r⟩ t
    · rw [if_neg hk, if_neg fun z => hk (L.fI _ _ z)]
      exact .cons ⟨rfl, z⟩ (FR.put f r t)
theorem getF_of {at_ : Nat → Nat → Bool} (S : Sim L ro w) {v u : Val} {x : V} {f : Nat} {h' : Hs} (r : VR L w v x) (e : getF at_ v f w.h = .ok u h') : h' = w.h ∧ ∃ a c dx gs y, x = .ref a ∧ w.H a = some (.ins (L.cA c) dx gs) ∧ gs.lookup (L.fN f) = some y ∧ VR L w u y ∧ at_ c f = true := by
  cases r with
  | ref hi =>
    simp only [getF] at e
    split at e
    · rename_i c fs q
      obtain ⟨dx, gs, rf, h, ho⟩ := ins_of S hi q
      split at e
      · rename_i v' e2
        split at e
        · rename_i ha
          cases e
          obtain ⟨y, h3, r3⟩ := (FR.look f rf).1 _ e2
          exact ⟨rfl, _, c, dx, gs, y, rfl, h, h3, r3, ha⟩
        · cases e
      · cases e
    · cases e
  | _ => cases e
theorem getF_kinds {at_ : Nat → Nat → Bool} {v : Val} {f : Nat} (h : Hs) : (∃ u, getF at_ v f h = .ok u h) ∨ getF at_ v f h = .no := by
  unfold getF
  split
  · split
    · split
      · split
        · exact .inl ⟨_, rfl⟩
        · exact .inr rfl
      · exact .inr rfl
    · exact .inr rfl
  · exact .inr rfl
theorem setF_of {at_ : Nat → Nat → Bool} (S : Sim L ro w) {v u : Val} {x y : V} {f : Nat} {h' : Hs} (r : VR L w v x) (ru : VR L w u y) (e : setF at_ v f u w.h = .ok () h') :
    ∃ a c dx gs w', x = .ref a ∧ w.H a = some (.ins (L.cA c) dx gs) ∧ gs.length < 1000 ∧ at_ c f = true ∧ w'.h = h' ∧ Ext w w' ∧ Sim L ro w' ∧ w'.H = upd w.H a (.ins (L.cA c) dx (putF (L.fN f) y gs)) := by
  cases r with
  | ref hi =>
    rename_i n
    simp only [setF] at e
    split at e
    · rename_i c fs q
      obtain ⟨dx, gs, rf, h, ho⟩ := ins_of S hi q
      split at e
      · rename_i ha
        cases e
        have hdx : dx ≠ w.ι n := ne_of ho h (by intro z; cases z)
        exact ⟨_, c, dx, gs, w.wr n (.ins c (putFl f u fs)) (.ins (L.cA c) dx (putF (L.fN f) y gs)), rfl, h, by rw [← FR.length rf]; exact ha.2, ha.1, rfl, Ext.wr hi, S.wr hi ⟨dx, _, FR.ext S (Ext.wr hi) (FR.put f ru rf), upd_same, by show upd w.H _ _ dx = _; rw [upd_ne hdx]; exact ho⟩, rfl⟩
      · cases e
    · cases e
  | _ => cases e
theorem setF_kinds {at_ : Nat → Nat → Bool} {v u : Val} {f : Nat} (h : Hs) : (∃ h', setF at_ v f u h = .ok () h') ∨ setF at_ v f u h = .no := by
  unfold setF
  split
  · split
    · split
      · exact .inl ⟨_, rfl⟩
      · exact .inr rfl
    · exact .inr rfl
  · exact .inr rfl
end
end MP

set_option maxRecDepth 100000
namespace MP
open PySem L2

/-- how numbers stand in the text -/
structure Cn where
  fnN : Nat → Str
  clN : Nat → Str
  /-- is a def of the module -/
  gf : Nat → Bool
  /-- is a class of the module -/
  gc : Nat → Bool
  /-- is an exception class of the module -/
  ge : Nat → Bool
  glN : Nat → Str
  fN : Nat → Str
  /-- the built-in names that the text may use -/
  bl : List Str
def visC (sc : Scope) (x : Str) : Bool := match sc.names.lookup x with
  | some .local => true
  | some .cell => true
  | some .free => true
  | _ => false
def locC (sc : Scope) (x : Str) : Bool := match sc.names.lookup x with
  | some .local => true
  | some .cell => true
  | _ => false
def glC (sc : Scope) (x : Str) : Bool := match sc.names.lookup x with
  | some .globalImplicit => true
  | _ => false
def nmOk (x : Str) : Bool := x != "super" && x != "__debug__" && x != "__classdict__" && x != "__name__"
def biN : BI → Str
  | .len => "len"
  | .int => "int"
  | .list => "list"
  | .tuple => "tuple"
  | .sum => "sum"
  | .all => "all"
  | .any => "any"
  | .max => "max"
  | .min => "min"
  | .sorted => "sorted"
def bmN : BM → Str
  | .append => "append"
  | .extend => "extend"
  | .pop => "pop"
  | .clear => "clear"
/-- not a form of its own where it stands -/
def okTop : Expr → Bool
  | .Starred _ _ => false
  | .Slice _ _ _ _ => false
  | .Set _ _ _ => false
  | .Call (.Name id _) [] [] _ => id != "super"
  | _ => true
def okEs : List Expr → Bool
  | [] => true
  | e :: r => okTop e && okEs r
mutual
/-- only names of the block -/
def tgIn (own : List Nat) : MT → Bool
  | .v i => decide (i ∈ own)
  | .tup ts => tgsIn own ts
  | _ => false
def tgsIn (own : List Nat) : MTs → Bool
  | .nil => true
  | .cons t r => tgIn own t && tgsIn own r
end
section
variable (C : Cn) (N : List Str)
def ckName (sc : Scope) (i : Nat) (x : Str) : Bool := decide (N[i]? = some x) && visC sc x && nmOk x
def ckStore (sc : Scope) (i : Nat) (x : Str) : Bool := decide (N[i]? = some x) && locC sc x && nmOk x
def ckBi (sc : Scope) (x : Str) (y : Str) : Bool := decide (x = y) && glC sc x && nmOk x && decide (x ∈ C.bl)
def ckGl (sc : Scope) (x y : Str) : Bool := decide (x = y) && glC sc x && nmOk x
mutual
def ckE (sc : Scope) : ME → Expr → Bool
  | .non, .Constant .none _ _ => true
  | .bl b, .Constant (.bool c) _ _ => b == c
  | .int i, .Constant (.int j) _ _ => decide (i = j)
  | .str x, .Constant (.str y) _ _ => decide (x = y)
  | .v i, .Name x _ => ckName N sc i x
  | .g k, .Name x _ => ckGl sc (C.glN k) x
  | .tup es, .Tuple xs _ _ => ckEs sc es xs
  | .lst es, .List xs _ => ckEs sc es xs
  | .dK0, .Dict [] [] _ => true
  | .dT0, .Dict [] [] _ => true
  | .bin op a b, .BinOp x o y _ => decide (o = opOf op) && ckE sc a x && ckE sc b y
  | .neg a, .UnaryOp .USub x _ => ckE sc a x
  | .cmp op a b, .Compare x [o] [y] _ => decide (o = coOf op) && ckE sc a x && ckE sc b y
  | .chain op op' a b c, .Compare x [o, o'] [y, z] _ => decide (o = coOf op) && decide (o' = coOf op') && ckE sc a x && ckE sc b y && ckE sc c z
  | .and es, .BoolOp .And xs _ => ckEs sc es xs && !xs.isEmpty
  | .or es, .BoolOp .Or xs _ => ckEs sc es xs && !xs.isEmpty
  | .not a, .UnaryOp .Not x _ => ckE sc a x
  | .ife c a b, .IfExp t x y _ => ckE sc c t && ckE sc a x && ckE sc b y
  | .ix a b, .Subscript x y _ => ckE sc a x && ckE sc b y && okTop y
  | .sl a lo hi, .Subscript x (.Slice l u none _) _ => ckE sc a x && ckO sc lo l && ckO sc hi u
  | .rev a, .Subscript x (.Slice none none (some (.UnaryOp .USub (.Constant (.int i) _ _) _)) _) _ => ckE sc a x && decide (i = 1)
  | .att a f, .Attribute x nm _ => ckE sc a x && okTop x && decide (nm = C.fN f)
  | .call f es, .Call (.Name x _) xs [] _ => ckGl sc (C.fnN f) x && ckEs sc es xs && okEs xs && C.gf f
  | .make c es, .Call (.Name x _) xs [] _ => ckGl sc (C.clN c) x && ckEs sc es xs && okEs xs && C.gc c
  | .bi b es, .Call (.Name x _) xs [] _ => ckBi C sc x (biN b) && ckEs sc es xs && okEs xs && !xs.isEmpty
  | .meth m a es, .Call (.Attribute x nm ap) xs [] p => ckE sc a x && okTop x && decide (nm = C.fN m) && ckEs sc es xs && okEs xs && decide (xs.length < 30) && (ap.endLine == p.line)
  | .bm m a es, .Call (.Attribute x nm ap) xs [] p => ckE sc a x && okTop x && decide (nm = bmN m) && ckEs sc es xs && okEs xs && decide (xs.length < 30) && (ap.endLine == p.line)
  | .comp own elt tg it ifs, .ListComp e [⟨t, i, fs, k⟩] scope _ => decide (k = 0) && ckI sc it i && okTop i && blkC N sc scope (own.filterMap fun j => (N[j]?).map fun x => (x, j)) && decide ((own.filterMap fun j => (N[j]?).map fun x => (x, j)).map (·.2) = own) && ckT scope tg t && tgIn own tg && ckE scope elt e && ckFs scope ifs fs
  | .fmt a, .FormattedValue x k none _ => ckE sc a x && decide (k = -1)
  | .fs es, .JoinedStr (x :: y :: xs) _ => ckEs sc es (x :: y :: xs)
  | _, _ => false
def ckEs (sc : Scope) : MEs → List Expr → Bool
  | .nil, [] => true
  | .cons a r, x :: xs => ckE sc a x && ckEs sc r xs
  | _, _ => false
def ckO (sc : Scope) : MO → Option Expr → Bool
  | .none, none => true
  | .some a, some x => ckE sc a x
  | _, _ => false
def ckFs (sc : Scope) : MO → List Expr → Bool
  | .none, [] => true
  | .some a, [x] => ckE sc a x
  | _, _ => false
def ckI (sc : Scope) : MI → Expr → Bool
  | .val a, x => ckE sc a x
  | .range es, .Call (.Name x _) xs [] _ => ckBi C sc x "range" && ckEs sc es xs && okEs xs && !xs.isEmpty && decide (xs.length ≤ 3)
  | _, _ => false
def ckT (sc : Scope) : MT → Expr → Bool
  | .v i, .Name x _ => ckStore N sc i x
  | .tup ts, .Tuple xs _ _ => ckTs sc ts xs && okEs xs
  | .ix o i, .Subscript x y _ => ckE sc o x && ckE sc i y && okTop x && okTop y
  | .att a f, .Attribute x nm _ => ckE sc a x && okTop x && decide (nm = C.fN f)
  | _, _ => false
def ckTs (sc : Scope) : MTs → List Expr → Bool
  | .nil, [] => true
  | .cons a r, x :: xs => ckT sc a x && ckTs sc r xs
  | _, _ => false
end
end
/-- an assignment of the common form -/
def asgC (sc : Scope) : Expr → Expr → Bool
  | .Tuple _ _ _, .Tuple _ _ _ => false
  | .List _ _, _ => false
  | .Name y py, .ListComp _ _ s q => (match sc.names.lookup y with
    | some .cell => true
    | some .local => (py.line == q.line) && !(s.names.any fun (n, k) => n == y && (k == .local || k == .cell))
    | _ => false)
  | _, .SetComp _ _ _ _ => false
  | _, .DictComp _ _ _ _ _ => false
  | _, _ => true
def notComp : Expr → Bool
  | .ListComp _ _ _ _ => false
  | .SetComp _ _ _ _ => false
  | .DictComp _ _ _ _ _ => false
  | _ => true
section
variable (C : Cn) (N : List Str)
/-- an expression in an except suite -/
def ckX (sc : Scope) : ME → Expr → Bool
  | .non, .Constant .none _ _ => true
  | .bl b, .Constant (.bool c) _ _ => b == c
  | .int i, .Constant (.int j) _ _ => decide (i = j)
  | .str x, .Constant (.str y) _ _ => decide (x = y)
  | .v i, .Name x _ => ckName N sc i x
  | .not a, .UnaryOp .Not x _ => ckX sc a x
  | _, _ => false
def ckXs (sc : Scope) : MSs → List Stmt → Bool
  | .nil, [] => true
  | .cons (.ret a) r, .Return (some x) _ :: xs => ckX N sc a x && ckXs sc r xs
  | .cons (.asg (.v i) a) r, .Assign [.Name y _] x _ :: xs => ckX N sc a x && ckStore N sc i y && ckXs sc r xs
  | .cons .pass r, .Pass _ :: xs => ckXs sc r xs
  | .cons .cont r, .Continue _ :: xs => ckXs sc r xs
  | _, _ => false
mutual
def ckS (sc : Scope) : MS → Stmt → Bool
  | .pass, .Pass _ => true
  | .pass, .Expr (.Constant (.str _) _ _) _ => true
  | .expr e, .Expr x _ => ckE C N sc e x && notComp x
  | .asg t e, .Assign [y] x _ => ckT C N sc t y && ckE C N sc e x && asgC sc y x
  | .aug i e, .AugAssign (.Name y _) .Add x _ => ckStore N sc i y && ckE C N sc e x
  --| .augA a f e, .AugAssign (.Attribute u nm _) .Add x _ => ckE C N sc a u && decide (nm = C.fN f) && ckE C N sc e x
  --| .augS o i e, .AugAssign (.Subscript u v _) .Add x _ => ckE C N sc o u && ckE C N sc i v && okTop v && ckE C N sc e x
  | .ret e, .Return (some x) _ => ckE C N sc e x
  | .retN, .Return none _ => true
  | .ife c a b, .If t xs ys _ => ckE C N sc c t && ckSs sc a xs && ckSs sc b ys
  | .while c b, .While t xs [] _ => ckE C N sc c t && ckSs sc b xs
  | .for t it b, .For y x xs [] _ => ckT C N sc t y && ckI C N sc it x && okTop x && ckSs sc b xs
  | .brk, .Break _ => true
  | .cont, .Continue _ => true
  --| .raise c es, .Raise (some (.Call (.Name x _) xs [] _)) none _ => ckGl sc (C.clN c) x && ckEs C N sc es xs && okEs xs && C.ge c
  --| .try b hs, .Try xs hd [] [] _ => ckSs sc b xs && ckHs sc hs hd && !hd.isEmpty
  --| .del o i, .Delete [.Subscript u v _] _ => ckE C N sc o u && ckE C N sc i v
  | _, _ => false
def ckSs (sc : Scope) : MSs → List Stmt → Bool
  | .nil, [] => true
  | .cons a r, x :: xs => ckS sc a x && ckSs sc r xs
  | _, _ => false
def ckHs (sc : Scope) : MHs → List ExceptHandler → Bool
  | .nil, [] => true
  | .cons c b r, .ExceptHandler (some (.Name x _)) none (y :: ys) _ :: hs => ckGl sc (C.clN c) x && C.ge c && ckXs N sc b (y :: ys) && ckHs sc r hs
  | _, _ => false
end
end
section
variable {C : Cn} {N : List Str} {sc : Scope} {env : Env} {pos : Pos}
theorem star_ok {e : Expr} {es : List Expr} {env : PySem.Env} (h : okTop e = true) : starEach (e :: es) env = (false, eval e env) :: starEach es env := by
  cases e <;> first | rfl | (simp [okTop] at h)
theorem stars_ok {pos : Pos} {env : PySem.Env} : ∀ {es : List Expr}, okEs es = true → (backTo pos (starEach es env)).any (·.1) = false ∧ (backTo pos (starEach es env)).all (fun x => !x.1) = true ∧ (starEach es env).length = es.length
  | [], _ => ⟨rfl, rfl, rfl⟩
  | e :: r, h => by
    simp only [okEs, Bool.and_eq_true] at h
    obtain ⟨a, b, c⟩ := @stars_ok pos env r h.2
    rw [star_ok h.1]
    refine ⟨?_, ?_, by rw [List.length_cons, List.length_cons, c]⟩
    · show (false || _) = false
      rw [Bool.false_or]; exact a
    · show (!false && _) = true
      rw [Bool.not_false, Bool.true_and]; exact b
theorem tgt_ok {e : Expr} {es : List Expr} {env : PySem.Env} (h : okTop e = true) : assignEach (e :: es) env = (false, assign e env) :: assignEach es env := by
  cases e <;> first | rfl | (simp [okTop] at h)
theorem tgts_ok {env : PySem.Env} : ∀ {es : List Expr}, okEs es = true → (assignEach es env).length = es.length ∧ (assignEach es env).findIdx? (·.1) = none
  | [], _ => ⟨rfl, rfl⟩
  | e :: r, h => by
    simp only [okEs, Bool.and_eq_true] at h
    obtain ⟨a, b⟩ := @tgts_ok env r h.2
    rw [tgt_ok h.1]
    refine ⟨by rw [List.length_cons, List.length_cons, a], ?_⟩
    rw [List.findIdx?_cons]
    simp [b]
theorem base_ok {e : Expr} {f : Str} {env : PySem.Env} (h : okTop e = true) : attributeBase e f env (eval e env) = eval e env := by
  unfold attributeBase
  split
  · rename_i id p pos
    have : (id != "super") = true := by simpa [okTop] using h
    rw [if_pos (by rw [this]; rfl)]
  · rfl
theorem plainIx_ok {b : Expr} (h : okTop b = true) : PlainIx b := fun o i => by
  cases b <;> first | rfl | (simp [okTop] at h)
theorem folded_ok {e : Expr} {env : PySem.Env} (h : okTop e = true) : ∀ x, foldedSetIterable e env x = pure x := fun x => by
  cases e <;> first | rfl | (simp [okTop] at h)
theorem marks_ok {op : CmpOp} {b : Expr} (h : okTop b = true) : behindInMarks op b = false := by
  cases b <;> first | rfl | (simp [okTop] at h)
theorem nmOk_super {x : Str} (h : nmOk x = true) : (x != "super") = true := by
  simp only [nmOk, Bool.and_eq_true] at h
  exact h.1.1.1
theorem nmOk_of {x : Str} (h : nmOk x = true) : (x == ("__debug__" : Str)) = false ∧ (x == ("__classdict__" : Str)) = false ∧ x ≠ "__name__" := by
  simp only [nmOk, Bool.and_eq_true, bne_iff_ne, ne_eq] at h
  exact ⟨beq_eq_false_iff_ne.mpr h.1.1.2, beq_eq_false_iff_ne.mpr h.1.2, h.2⟩
theorem ckE_top {m : ME} {e : Expr} (h : ckE C N sc m e = true) : okTop e = true := by
  cases e with
  | Starred _ _ => cases m <;> exact absurd h Bool.false_ne_true
  | Slice _ _ _ _ => cases m <;> exact absurd h Bool.false_ne_true
  | Set _ _ _ => cases m <;> exact absurd h Bool.false_ne_true
  | Call f xs ks p =>
    cases f with
    | Name x q =>
      cases xs with
      | nil =>
        cases ks with
        | nil =>
          cases m with
          | call f es =>
            simp only [ckE, ckGl, Bool.and_eq_true, decide_eq_true_eq] at h
            obtain ⟨⟨⟨⟨⟨e, _⟩, n⟩, _⟩, _⟩, _⟩ := h
            rw [e] at n
            exact nmOk_super n
          | make f es =>
            simp only [ckE, ckGl, Bool.and_eq_true, decide_eq_true_eq] at h
            obtain ⟨⟨⟨⟨⟨e, _⟩, n⟩, _⟩, _⟩, _⟩ := h
            rw [e] at n
            exact nmOk_super n
          | bi f es =>
            simp only [ckE, ckBi, Bool.and_eq_true, decide_eq_true_eq] at h
            obtain ⟨⟨⟨⟨⟨_, n⟩, _⟩, _⟩, _⟩, _⟩ := h
            exact nmOk_super n
          | _ => exact absurd h Bool.false_ne_true
        | cons _ _ => rfl
      | cons _ _ => rfl
    | _ => rfl
  | _ => rfl
theorem ckEs_top : ∀ {ms : MEs} {es : List Expr}, ckEs C N sc ms es = true → okEs es = true
  | .nil, [], _ => rfl
  | .cons a r, x :: xs, h => by
    simp only [ckEs, Bool.and_eq_true] at h
    simp only [okEs, ckE_top h.1, ckEs_top h.2, Bool.and_self]
  | .nil, _ :: _, h => by simp [ckEs] at h
  | .cons _ _, [], h => by simp [ckEs] at h
theorem meth_ok {o : Expr} {name : Str} {ap pos : Pos} {es : List Expr} {env : PySem.Env} (ho : okTop o = true) (he : okEs es = true) (hl : es.length < 30) (hp : (ap.endLine == pos.line) = true) :
    eval (.Call (.Attribute o name ap) es [] pos) env = (do
      let ov ← eval o env
      standAt ap.atName
      let (f, first) ← holding [ov] (getMethod ov name (do return (← importBound o env).getD true))
      callWith pos f first (backTo pos (starEach es env)) (backToKw pos (keywordEach [] env))) := by
  rw [PySem.arm_eval_Call, base_ok ho]
  have hf : methodCallForm (es.length + ([] : List Keyword).length) (backTo pos (starEach es env)) (backToKw pos (keywordEach [] env)) = true := by
    unfold methodCallForm
    rw [(stars_ok (pos := pos) (env := env) he).2.1]
    show (true && true && decide (es.length + 0 + 0 < 30)) = true
    simp [hl]
  unfold methodCall methodCallPos calleeOf
  rw [hf, hp]
  rfl
end
end MP

set_option maxRecDepth 100000
namespace MP
open PySem L2

/-- where the defs stand -/
structure Fa where
  fA : Nat → Addr
  fd : Nat → FuncData
  ps : Nat → List Str
/-- what is wanted of a call -/
def spD (T : Tb) (L : Ln) (d f : Nat) : Sp := fun vs H Q E => ∃ w args, w.H = H ∧ Sim L T.ro w ∧ VRs L w args vs ∧ Post L T.ro (VR L) (fun cls dd _ H => E cls dd H) w [] Q (callD T d f args w.h)
/-- the table, as it stands behind the top; d: the depth of calls that is settled -/
structure Lk (T : Tb) (C : Cn) (L : Ln) (A : Fa) (P : Program) (wd : World) (mg : Str → Option Value) (base : Heap) (d : Nat) : Prop where
  fNe : L.fN = C.fN
  ok : ∀ f F, T.fn f = some F → FnOk P wd L.K mg base (L2.CX P wd) (2 * d + 1) (A.fA f) (A.fd f) (A.ps f) (spD T L d f)
  bind : ∀ f F, T.fn f = some F → Binds L.K (A.fd f) (A.ps f) []
  keep : ∀ f F, T.fn f = some F → PySem.W.keepIn L.K (.ref (A.fA f)) = true
  name : ∀ f, C.gf f = true → ∃ F, T.fn f = some F ∧ mg (C.fnN f) = some (.ref (A.fA f))
  meth : ∀ c m f, T.me c m = some f → Cls L.K (L.cA c) ∧ Meth L.K (L.cA c) (C.fN m) (A.fA f) ∧ ∃ F, T.fn f = some F
  attr : ∀ c f, T.at_ c f = true → Cls L.K (L.cA c) ∧ NoAttr L.K (L.cA c) (C.fN f)
  mak : ∀ c, C.gc c = true → ∃ f F, T.ini c = some f ∧ T.fn f = some F ∧ Mk L.K (L.cA c) (A.fA f) ∧ mg (C.clN c) = some (.ref (L.cA c))
  glob : ∀ g v, T.glob g = some v → ∃ x u, mg (C.glN g) = some u ∧ RelV x u ∧ ∀ w, VR L w v x
  blt : ∀ x, x ∈ C.bl → mg x = none
  sub : ∀ a b k, T.sub a b = some k → PySem.W.exmOne L.K (.ref (L.cA a)) (.ref (L.cA b)) = some k
  rai : ∀ c, C.ge c = true → mg (C.clN c) = some (.ref (L.cA c)) ∧ (∃ B newId initId bmB, ExcBaseFacts B newId initId bmB ∧ PySem.W.excIn L.K (L.cA c) bmB newId = true) ∧ PySem.W.keepIn L.K (.ref (L.cA c)) = true ∧
    PySem.W.subIn L.K (.ref (L.cA c)) (.type "BaseException") = some true ∧ PySem.W.typeIn L.K (.ref (L.cA c)) = some (.type "type")
/-- a context in which the text's code runs -/
structure XOk (T : Tb) (C : Cn) (L : Ln) (A : Fa) (d : Nat) (X : Cx) (W : WX) (sc : Scope) : Prop where
  lk : Lk T C L A X.prog X.w X.mg X.base d
  hK : X.K = L.K
  nd : X.N.Nodup
  room : Room (2 * d + 2) X.A
  calm : X.calm = true
  tk : Takes X W
  kind : ∀ x k, sc.names.lookup x = some k → X.env.scope.names.lookup x = some k ∨ (k = .free ∧ X.env.scope.names.lookup x = some .cell)
  fnl : ∀ x, sc.names.lookup x = some .local ∨ sc.names.lookup x = some .cell → X.fn x = true ∨ X.env.scope.names.lookup x = some .local
  sk : X.env.scope.kind = .function
section
variable {T : Tb} {C : Cn} {L : Ln} {A : Fa} {d : Nat} {X : Cx} {W : WX} {sc : Scope}
variable {a b c e : Expr} {es : List Expr} {ma mb mc : Env → M Val} {pos : Pos}
/-- the reading of an expression -/
abbrev RE (T : Tb) (L : Ln) (W : WX) (m : Env → M Val) : TE := RG L T.ro (VR L) W m
abbrev RB (T : Tb) (L : Ln) (W : WX) (m : Env → M Bool) : TT := RG L T.ro EqR' W m
abbrev RA (T : Tb) (L : Ln) (W : WX) (m : Env → M (List Val)) : TA := RG L T.ro (VRs L) W m
theorem XOk.vis (x : XOk T C L A d X W sc) {y : Str} (h : visC sc y = true) : Vis X.env.scope y := by
  unfold visC at h
  split at h
  · rename_i q
    rcases x.kind _ _ q with z | ⟨z, _⟩
    · exact .inl z
    · cases z
  · rename_i q
    rcases x.kind _ _ q with z | ⟨z, _⟩
    · exact .inr (.inl z)
    · cases z
  · rename_i q
    rcases x.kind _ _ q with z | ⟨_, z⟩
    · exact .inr (.inr z)
    · exact .inr (.inl z)
  · cases h
theorem XOk.loc (x : XOk T C L A d X W sc) {y : Str} (h : locC sc y = true) : Loc X.env.scope y ∧ (X.fn y = true ∨ X.env.scope.names.lookup y = some .local) := by
  unfold locC at h
  split at h
  · rename_i q
    refine ⟨?_, x.fnl y (.inl q)⟩
    rcases x.kind _ _ q with z | ⟨z, _⟩
    · exact .inl z
    · cases z
  · rename_i q
    refine ⟨?_, x.fnl y (.inr q)⟩
    rcases x.kind _ _ q with z | ⟨z, _⟩
    · exact .inr z
    · cases z
  · cases h
theorem XOk.gl (x : XOk T C L A d X W sc) {y : Str} (h : glC sc y = true) : Gl X y := by
  unfold glC at h
  split at h
  · rename_i q
    rcases x.kind _ _ q with z | ⟨z, _⟩
    · exact z
    · cases z
  · cases h
theorem XOk.units (x : XOk T C L A d X W sc) : X.A.units + 66 < cLine := by
  have := x.room.un
  omega
theorem bnd_ok {α β : Type} {m : M α} {f : α → M β} {h h' : Hs} {a : α} (e : m h = .ok a h') : bnd m f h = f a h' := by
  unfold bnd; rw [e]
theorem bnd_ex {α β : Type} {m : M α} {f : α → M β} {h h' : Hs} {x : Exc} (e : m h = .ex x h') : bnd m f h = .ex x h' := by
  unfold bnd; rw [e]
theorem bnd_no {α β : Type} {m : M α} {f : α → M β} {h : Hs} (e : m h = .no) : bnd m f h = .no := by
  unfold bnd; rw [e]
/-! ### one rule a construct -/
theorem se_const {v : Val} {y : V} (h : PE X e (tC y)) (r : ∀ w, VR L w v y) : PE X e (RE T L W fun _ => ret v) :=
  PE.imp h fun σ H Q ⟨w, ρ, eH, S, E, p⟩ => by
    subst eH
    exact p.now S (r w)
theorem se_var {i : Nat} {y : Str} (x : XOk T C L A d X W sc) (h : ckName X.N sc i y = true) : PE X (.Name y pos) (RE T L W (getv i)) := by
  simp only [ckName, Bool.and_eq_true, decide_eq_true_eq] at h
  obtain ⟨⟨h1, h2⟩, h3⟩ := h
  obtain ⟨n1, n2, _⟩ := nmOk_of h3
  refine PE.imp (pe_var (i := i) h1 (x.vis h2) n1 n2) fun σ H Q ⟨w, ρ, eH, S, E, p⟩ => ?_
  subst eH
  unfold getv at p
  cases q : ρ[i]? with
  | none => rw [q] at p; exact p.elim
  | some o =>
    rw [q] at p
    cases o with
    | none => exact p.elim
    | some v =>
      obtain ⟨y', e1, r⟩ := E.at_ i v q
      exact ⟨y', e1, p.now S r⟩
theorem se_glob {g : Nat} {y : Str} (x : XOk T C L A d X W sc) (h : ckGl sc (C.glN g) y = true) : PE X (.Name y pos) (RE T L W fun _ => match T.glob g with
    | some v => ret v
    | none => no) := by
  simp only [ckGl, Bool.and_eq_true, decide_eq_true_eq] at h
  obtain ⟨⟨h1, h2⟩, h3⟩ := h
  subst h1
  obtain ⟨n1, n2, _⟩ := nmOk_of h3
  refine ⟨fun pins s σ H Q I ⟨w, ρ, eH, S, E, p⟩ => ?_⟩
  subst eH
  dsimp only at p
  cases q : T.glob g with
  | some v =>
    rw [q] at p
    obtain ⟨y', u, e1, r, rv⟩ := x.lk.glob g v q
    exact (pe_glob (x.gl h2) e1 r n1).run pins s σ _ Q I (p.now S (rv w))
  | none => rw [q] at p; exact p.elim
theorem se_nil : PA X [] (RA T L W fun _ => ret []) := PA.imp pa_nil fun σ H Q ⟨w, ρ, eH, S, E, p⟩ => by
  subst eH
  exact p.now S .nil
theorem se_cons {ms : Env → M (List Val)} (h : okTop a = true) (ha : PE X a (RE T L W ma)) (hr : PA X es (RA T L W ms)) : PA X (a :: es) (RA T L W fun ρ => bnd (ma ρ) fun x => bnd (ms ρ) fun xs => ret (x :: xs)) :=
  PA.imp (pa_cons ha hr (star_ok h)) fun σ H Q ⟨w, ρ, eH, S, E, p⟩ => by
    subst eH
    exact stepE S E p fun w1 v y e1 S1 E1 r1 p1 => stepE S1 E1 p1 fun w2 vs ys e2 S2 E2 r2 p2 => p2.now S2 (.cons (r1.ext S1 e2) r2)
theorem se_tup {ms : Env → M (List Val)} {k : Nat} (h : PA X es (RA T L W ms)) : PE X (.Tuple es k pos) (RE T L W fun ρ => bnd (ms ρ) fun vs => if vs.length ≤ sizeLine then ret (.tup vs) else no) :=
  PE.imp (pe_tup h) fun σ H Q ⟨w, ρ, eH, S, E, p⟩ => by
    subst eH
    exact stepE S E p fun w1 v y e1 S1 E1 r1 p1 => by
      split at p1
      · rename_i hz
        exact ⟨by rw [← r1.length]; exact hz, p1.newTup S1 r1⟩
      · exact p1.elim
theorem se_lst {ms : Env → M (List Val)} (h : PA X es (RA T L W ms)) : PE X (.List es pos) (RE T L W fun ρ => bnd (ms ρ) fun vs => if vs.length ≤ sizeLine then newO (.lst vs) else no) :=
  PE.imp (pe_lst h) fun σ H Q ⟨w, ρ, eH, S, E, p⟩ => by
    subst eH
    exact stepE S E p fun w1 v y e1 S1 E1 r1 p1 => by
      split at p1
      · rename_i hz
        exact ⟨by rw [← r1.length]; exact hz, p1.newLst S1 r1⟩
      · exact p1.elim
theorem se_dK0 : PE X (.Dict [] [] pos) (RE T L W fun _ => newO (.dK [])) := PE.imp pe_dnewK fun σ H Q ⟨w, ρ, eH, S, E, p⟩ => by
  subst eH
  exact p.newK S
theorem se_dT0 : PE X (.Dict [] [] pos) (RE T L W fun _ => newO (.dT [])) := PE.imp pe_dnewT fun σ H Q ⟨w, ρ, eH, S, E, p⟩ => by
  subst eH
  exact p.newT S
theorem se_bin {op : BO} (x : XOk T C L A d X W sc) (ha : PE X a (RE T L W ma)) (hb : PE X b (RE T L W mb)) : PE X (.BinOp a (opOf op) b pos) (RE T L W fun ρ => bnd (ma ρ) fun x => bnd (mb ρ) fun y => binV op x y) :=
  PE.imp (pe_op (op_binS (ro := T.ro) x.hK op) ha hb) fun σ H Q ⟨w, ρ, eH, S, E, p⟩ => by
    subst eH
    exact stepE S E p fun w1 v y e1 S1 E1 r1 p1 => stepE S1 E1 p1 fun w2 u z e2 S2 E2 r2 p2 => ⟨w2, v, u, σ, W, rfl, S2, r1.ext S1 e2, r2, p2⟩
theorem se_neg (ha : PE X a (RE T L W ma)) : PE X (.UnaryOp .USub a pos) (RE T L W fun ρ => bnd (ma ρ) fun x => match x with
    | .int i => ret (.int (-i))
    | _ => no) :=
  PE.imp (pe_un un_neg ha) fun σ H Q ⟨w, ρ, eH, S, E, p⟩ => by
    subst eH
    exact stepE S E p fun w1 v y e1 S1 E1 r1 p1 => by
      cases r1 with
      | int i => exact ⟨i, rfl, p1.now S1 (.int _)⟩
      | _ => exact p1.elim
theorem se_cmp {op : CO} (x : XOk T C L A d X W sc) (ha : PE X a (RE T L W ma)) (hb : PE X b (RE T L W mb)) (hm : okTop b = true) : PE X (.Compare a [coOf op] [b] pos) (RE T L W fun ρ => bnd (ma ρ) fun x => bnd (mb ρ) fun y => cmpV T.ro op x y) :=
  PE.imp (pe_cmpR (op_cmpS (ro := T.ro) x.hK x.units op) ha hb (marks_ok hm)) fun σ H Q ⟨w, ρ, eH, S, E, p⟩ => by
    subst eH
    exact stepE S E p fun w1 v y e1 S1 E1 r1 p1 => stepE S1 E1 p1 fun w2 u z e2 S2 E2 r2 p2 => ⟨w2, v, u, σ, W, rfl, S2, r1.ext S1 e2, r2, p2⟩
/-- a bool, from its value -/
theorem VR.isBl {w : Wd} {v : Val} {y : V} {k : Bool} {h : Hs} {h' : Hs} (r : VR L w v y) (e : asB v h = .ok k h') : v = .bl k ∧ y = .bl k ∧ h' = h := by
  cases r with
  | bl b => cases e; exact ⟨rfl, rfl, rfl⟩
  | _ => cases e
theorem asB_kinds {v : Val} (h : Hs) : (∃ k, v = .bl k) ∨ asB v h = .no := by
  cases v with
  | bl b => exact .inl ⟨b, rfl⟩
  | _ => exact .inr rfl
theorem Post.bool {β γ : Type} {ro : Ro} {Rel : Rl β γ} {w : Wd} {σ : St} {Q : γ → Hp → Prop} {v : Val} {y : V} {k : Bool → M β} (r : VR L w v y) (p : Post L ro Rel W w σ Q (bnd (asB v) k w.h)) : ∃ b, v = .bl b ∧ y = .bl b ∧ Post L ro Rel W w σ Q (k b w.h) := by
  cases r with
  | bl b => exact ⟨b, rfl, rfl, p⟩
  | _ => exact p.elim
theorem se_chain {op op' : CO} (x : XOk T C L A d X W sc) (ha : PE X a (RE T L W ma)) (hb : PE X b (RE T L W mb)) (hc : PE X c (RE T L W mc)) (hm : okTop c = true) :
    PE X (.Compare a [coOf op, coOf op'] [b, c] pos) (RE T L W fun ρ => bnd (ma ρ) fun x => bnd (mb ρ) fun y => bnd (cmpV T.ro op x y) fun z => bnd (asB z) fun k => if k = true then bnd (mc ρ) fun w => cmpV T.ro op' y w else ret (.bl false)) :=
  PE.imp (pe_chain (op_cmpS (ro := T.ro) x.hK x.units op) (op_cmpS (ro := T.ro) x.hK x.units op') ha hb hc (marks_ok hm)) fun σ H Q ⟨w, ρ, eH, S, E, p⟩ => by
    subst eH
    refine stepE S E p fun w1 v y e1 S1 E1 r1 p1 => stepE S1 E1 p1 fun w2 u z e2 S2 E2 r2 p2 => ?_
    refine ⟨w2, v, u, σ, W, rfl, S2, r1.ext S1 e2, r2, ?_⟩
    unfold bnd at p2
    cases q : cmpV T.ro op v u w2.h with
    | ok k h' =>
      rw [q] at p2
      intro w3 t e3 x3 S3 r3
      subst e3
      have p3 := p2.step S3 x3
      obtain ⟨bb, rfl, rfl, p4⟩ := Post.bool r3 p3
      refine ⟨bb, rfl, ?_⟩
      cases bb with
      | true => exact stepE S3 ((E2.ext S2 x3)) p4 fun w4 t' y' e4 S4 E4 r4 p5 => ⟨w4, u, t', σ, W, rfl, S4, (r2.ext S2 x3).ext S3 e4, r4, p5⟩
      | false => exact p4.now S3 (.bl _)
    | ex z h' => rw [q] at p2; exact p2
    | no => rw [q] at p2; exact p2.elim
theorem se_ix (x : XOk T C L A d X W sc) (ha : PE X a (RE T L W ma)) (hb : PE X b (RE T L W mb)) (hm : okTop b = true) : PE X (.Subscript a b pos) (RE T L W fun ρ => bnd (ma ρ) fun x => bnd (mb ρ) fun y => ixV T.ro x y) :=
  PE.imp (pe_ix (ix_S (ro := T.ro) x.hK (by have := x.units; omega)) ha hb (plainIx_ok hm)) fun σ H Q ⟨w, ρ, eH, S, E, p⟩ => by
    subst eH
    exact stepE S E p fun w1 v y e1 S1 E1 r1 p1 => stepE S1 E1 p1 fun w2 u z e2 S2 E2 r2 p2 => ⟨w2, v, u, σ, W, rfl, S2, r1.ext S1 e2, r2, p2⟩
abbrev RO (T : Tb) (L : Ln) (W : WX) (m : Env → M (Option Int)) : TO := RG L T.ro EqR' W m
theorem se_onone : PO X none (RO T L W fun _ => ret none) := ⟨fun pins s σ H Q I ⟨w, ρ, eH, S, E, p⟩ => po_none.run pins s σ H Q I (by subst eH; exact p.now S rfl)⟩
theorem se_osome (ha : PE X a (RE T L W ma)) : PO X (some a) (RO T L W fun ρ => bnd (ma ρ) fun x => match x with
    | .int i => ret (some i)
    | _ => no) := ⟨fun pins s σ H Q I ⟨w, ρ, eH, S, E, p⟩ => (po_some ha).run pins s σ H Q I (by
  subst eH
  exact stepE S E p fun w1 v y e1 S1 E1 r1 p1 => by
    cases r1 with
    | int i => exact ⟨i, rfl, p1.now S1 rfl⟩
    | _ => exact p1.elim)⟩
theorem se_sl {lo hi : Option Expr} {ml mh : Env → M (Option Int)} {p2 : Pos} (x : XOk T C L A d X W sc) (ha : PE X a (RE T L W ma)) (hl : PO X lo (RO T L W ml)) (hh : PO X hi (RO T L W mh)) :
    PE X (.Subscript a (.Slice lo hi none p2) pos) (RE T L W fun ρ => bnd (ma ρ) fun x => bnd (ml ρ) fun l => bnd (mh ρ) fun u => slV T.ro x l u) :=
  PE.imp (pe_slice (sl_S (ro := T.ro) x.hK) ha hl hh) fun σ H Q ⟨w, ρ, eH, S, E, p⟩ => by
    subst eH
    exact stepE S E p fun w1 v y e1 S1 E1 r1 p1 => stepE S1 E1 p1 fun w2 l l' e2 S2 E2 r2 p2 => stepE S2 E2 p2 fun w3 u u' e3 S3 E3 r3 p3 => by
      cases r2; cases r3
      exact ⟨w3, v, σ, W, rfl, S3, (r1.ext S1 e2).ext S2 e3, p3⟩
theorem se_rev {k : Nat} {p1 p2 p3 : Pos} (x : XOk T C L A d X W sc) (ha : PE X a (RE T L W ma)) : PE X (.Subscript a (.Slice none none (some (.UnaryOp .USub (.Constant (.int 1) k p1) p2)) p3) pos) (RE T L W fun ρ => bnd (ma ρ) fun x => revV T.ro x) :=
  PE.imp (pe_revL ha) fun σ H Q ⟨w, ρ, eH, S, E, p⟩ => by
    subst eH
    exact stepE S E p fun w1 v y e1 S1 E1 r1 p1 => by
      simp only [revV] at p1
      split at p1
      · rename_i xs q
        obtain ⟨l, vs, rfl, rs, h⟩ := sq_of S1 r1 q
        exact ⟨l, vs, rfl, by rw [x.hK]; exact h, p1.newLst S1 rs.reverse⟩
      · exact p1.elim
theorem se_att {f : Nat} (x : XOk T C L A d X W sc) (ha : PE X a (RE T L W ma)) (hm : okTop a = true) : PE X (.Attribute a (C.fN f) pos) (RE T L W fun ρ => bnd (ma ρ) fun x => getF T.at_ x f) :=
  PE.imp (pe_fld ha (base_ok hm)) fun σ H Q ⟨w, ρ, eH, S, E, p⟩ => by
    subst eH
    exact stepE S E p fun w1 v y e1 S1 E1 r1 p1 => by
      rcases getF_kinds (at_ := T.at_) (v := v) (f := f) w1.h with ⟨u, q⟩ | q
      · rw [q] at p1
        obtain ⟨_, l, cc, dx, gs, y', rfl, h, h2, r2, ha2⟩ := getF_of S1 r1 q
        obtain ⟨c1, c2⟩ := x.lk.attr _ _ ha2
        exact ⟨l, _, dx, gs, y', rfl, h, by rw [x.hK]; exact c1, by rw [x.hK]; exact c2, by rw [← x.lk.fNe]; exact h2, p1.now S1 r2⟩
      · rw [q] at p1; exact p1.elim
/-! ### tests -/
theorem ste_of (x : XOk T C L A d X W sc) (ha : PE X a (RE T L W ma)) (he : ∀ whole, isTrue a X.env whole = (do let v ← whole; standAt a.pos; holding [v] (truthy v))) : PT X a (RB T L W fun ρ => bnd (ma ρ) (truV T.ro)) :=
  PT.imp (pt_truth ha he) fun σ H Q ⟨w, ρ, eH, S, E, p⟩ => by
    subst eH
    exact stepE S E p fun w1 v y e1 S1 E1 r1 p1 => by
      rcases truV_kinds (ro := T.ro) (v := v) w1.h with ⟨k, q⟩ | q
      · rw [q] at p1
        exact ⟨k, (tru_of x.hK S1 r1 q).2, p1.now S1 rfl⟩
      · rw [q] at p1; exact p1.elim
theorem bnd_assoc {α β γ : Type} (m : M α) (f : α → M β) (g : β → M γ) : bnd (bnd m f) g = bnd m fun a => bnd (f a) g := by
  funext h
  simp only [bnd]
  cases m h <;> rfl
/-- the value is a bool -/
def IsBl (r : R Val) : Prop := ∀ v h', r = .ok v h' → ∃ b, v = .bl b
theorem IsBl.no : IsBl .no := fun _ _ e => by cases e
theorem IsBl.ex {x : Exc} {h : Hs} : IsBl (.ex x h) := fun _ _ e => by cases e
theorem IsBl.ok {b : Bool} {h : Hs} : IsBl (.ok (.bl b) h) := fun _ _ e => by cases e; exact ⟨b, rfl⟩
theorem isBl_ret {m : M Bool} {h : Hs} {g : Bool → Bool} : IsBl (bnd m (fun b => ret (.bl (g b))) h) := by
  unfold bnd
  cases m h with
  | ok a h' => exact .ok
  | ex x h' => exact .ex
  | no => exact .no
theorem isV_bl {x y : Val} {h : Hs} : IsBl (isV x y h) := by
  unfold isV
  split
  · exact .ok
  · split
    · exact .ok
    · exact .no
  · exact .no
theorem ordV_bl {p : Int → Int → Bool} {x y : Val} {h : Hs} : IsBl (ordV p x y h) := by
  unfold ordV
  split
  · exact .ok
  · exact .no
theorem cmpV_bl (ro : Ro) (op : CO) (x y : Val) (h : Hs) : IsBl (cmpV ro op x y h) := by
  cases op with
  | eq => exact isBl_ret (g := fun b => b)
  | ne => exact isBl_ret (g := fun b => !b)
  | isin => exact isBl_ret (g := fun b => b)
  | notin => exact isBl_ret (g := fun b => !b)
  | is => exact isV_bl
  | isnot =>
    show IsBl (bnd (isV x y) (fun v => bnd (asB v) fun b => ret (.bl (!b))) h)
    unfold bnd
    cases q : isV x y h with
    | ok a h' =>
      obtain ⟨b, rfl⟩ := isV_bl _ _ q
      exact .ok
    | ex z h' => exact .ex
    | no => exact .no
  | le => exact ordV_bl
  | gt => exact ordV_bl
  | ge => exact ordV_bl
  | lt =>
    show IsBl (ltV x y h)
    unfold ltV
    split
    · exact .ok
    · exact .ok
    · rename_i xs ys
      cases intsV xs with
      | none => exact .no
      | some ns =>
        cases intsV ys with
        | none => exact .no
        | some ms => exact .ok
    · exact .no
/-- a run whose value is a bool, as a test -/
theorem Post.blTest {w : Wd} {σ : St} {Q : Bool → Hp → Prop} {ro ro' : Ro} {r : M Val} (hb : IsBl (r w.h)) (p : Post L ro EqR' W w σ Q (bnd r (truV ro') w.h)) : Post L ro (VR L) W w σ (fun y H' => ∃ k, y = .bl k ∧ Q k H') (r w.h) := by
  unfold bnd at p
  cases q : r w.h with
  | ok v h' =>
    rw [q] at p
    obtain ⟨b, rfl⟩ := hb _ _ q
    intro w' y e x' S' ry
    cases ry
    exact ⟨b, rfl, p w' b e x' S' rfl⟩
  | ex z h' => rw [q] at p; exact p
  | no => rw [q] at p; exact p
theorem ste_cmp {op : CO} (x : XOk T C L A d X W sc) (ha : PE X a (RE T L W ma)) (hb : PE X b (RE T L W mb)) (hm : okTop b = true) : PT X (.Compare a [coOf op] [b] pos) (RB T L W fun ρ => bnd (bnd (ma ρ) fun x => bnd (mb ρ) fun y => cmpV T.ro op x y) (truV T.ro)) :=
  PT.imp (pt_cmpR (op_cmpS (ro := T.ro) x.hK x.units op) ha hb (marks_ok hm)) fun σ H Q ⟨w, ρ, eH, S, E, p⟩ => by
    subst eH
    simp only [bnd_assoc] at p
    refine stepE (Rel' := EqR') S E p fun w1 v y e1 S1 E1 r1 p1 => stepE (Rel' := EqR') S1 E1 p1 fun w2 u z e2 S2 E2 r2 p2 => ?_
    exact ⟨w2, v, u, σ, W, rfl, S2, r1.ext S1 e2, r2, p2.blTest (cmpV_bl _ _ _ _ _)⟩
theorem ste_chain {op op' : CO} (x : XOk T C L A d X W sc) (ha : PE X a (RE T L W ma)) (hb : PE X b (RE T L W mb)) (hc : PE X c (RE T L W mc)) (hm : okTop c = true) :
    PT X (.Compare a [coOf op, coOf op'] [b, c] pos) (RB T L W fun ρ => bnd (bnd (ma ρ) fun x => bnd (mb ρ) fun y => bnd (cmpV T.ro op x y) fun z => bnd (asB z) fun k => if k = true then bnd (mc ρ) fun w => cmpV T.ro op' y w else ret (.bl false)) (truV T.ro)) :=
  PT.imp (pt_chain (op_cmpS (ro := T.ro) x.hK x.units op) (op_cmpS (ro := T.ro) x.hK x.units op') ha hb hc (marks_ok hm)) fun σ H Q ⟨w, ρ, eH, S, E, p⟩ => by
    subst eH
    simp only [bnd_assoc] at p
    refine stepE (Rel' := EqR') S E p fun w1 v y e1 S1 E1 r1 p1 => stepE (Rel' := EqR') S1 E1 p1 fun w2 u z e2 S2 E2 r2 p2 => ?_
    refine ⟨w2, v, u, σ, W, rfl, S2, r1.ext S1 e2, r2, ?_⟩
    cases q : cmpV T.ro op v u w2.h with
    | ok k h' =>
      rw [bnd_ok q] at p2
      intro w3 t e3 x3 S3 r3
      subst e3
      have p3 := p2.step S3 x3
      obtain ⟨bb, rfl, rfl, p4⟩ := Post.bool r3 p3
      refine ⟨bb, rfl, ?_⟩
      cases bb with
      | true =>
        rw [if_pos rfl]
        simp only [if_true, bnd_assoc] at p4
        exact stepE (Rel' := EqR') S3 (E2.ext S2 x3) p4 fun w4 t' y' e4 S4 E4 r4 p5 => ⟨w4, u, t', σ, W, rfl, S4, (r2.ext S2 x3).ext S3 e4, r4, p5.blTest (cmpV_bl _ _ _ _ _)⟩
      | false => exact ⟨false, rfl, p4 w3 false rfl (Ext.refl _) S3 rfl⟩
    | ex z h' => rw [bnd_ex q] at p2; exact p2
    | no => rw [bnd_no q] at p2; exact p2.elim
/-! ### and, or, not, if -/
theorem se_not (ha : PE X a (RE T L W ma)) : PE X (.UnaryOp .Not a pos) (RE T L W fun ρ => bnd (ma ρ) fun x => bnd (asB x) fun b => ret (.bl (!b))) :=
  PE.imp (pe_not ha) fun σ H Q ⟨w, ρ, eH, S, E, p⟩ => by
    subst eH
    exact stepE S E p fun w1 v y e1 S1 E1 r1 p1 => by
      obtain ⟨b, rfl, rfl, p2⟩ := Post.bool r1 p1
      exact ⟨b, rfl, p2.now S1 (.bl _)⟩
/-- a bool's run as a test run -/
theorem test_of_bool {w : Wd} {σ : St} {ρ : Env} {Q Q' : Bool → Hp → Prop} {k : Bool → M Bool} {m : Env → M Val} (S : Sim L T.ro w) (E : EnvR L w ρ σ) (p : Post L T.ro EqR' W w σ Q (bnd (bnd (m ρ) fun x => asB x) k w.h))
    (hk : ∀ w1 b, Ext w w1 → Sim L T.ro w1 → EnvR L w1 ρ σ → Post L T.ro EqR' W w1 σ Q (k b w1.h) → Q' b w1.H) : RB T L W (fun ρ => bnd (m ρ) (truV T.ro)) σ w.H Q' := by
  refine ⟨w, ρ, rfl, S, E, ?_⟩
  rw [bnd_assoc] at p
  show Post L T.ro EqR' W w σ Q' (bnd (m ρ) (truV T.ro) w.h)
  cases q : m ρ w.h with
  | ok v h' =>
    rw [bnd_ok q] at p ⊢
    cases v with
    | bl b =>
      intro w1 b' e1 x1 S1 hb
      cases hb
      subst e1
      exact hk w1 b x1 S1 (E.ext S x1) (p.step S1 x1)
    | _ => exact p.elim
  | ex z h' => rw [bnd_ex q] at p ⊢; exact p
  | no => rw [bnd_no q] at p; exact p.elim
theorem ste_not (ha : PT X a (RB T L W fun ρ => bnd (ma ρ) (truV T.ro))) : PT X (.UnaryOp .Not a pos) (RB T L W fun ρ => bnd (bnd (ma ρ) fun x => bnd (asB x) fun b => ret (.bl (!b))) (truV T.ro)) :=
  PT.imp (pt_not ha) fun σ H Q ⟨w, ρ, eH, S, E, p⟩ => by
    subst eH
    refine test_of_bool (k := fun b => ret (!b)) S E ?_ fun w1 b e1 S1 E1 p1 => p1 w1 (!b) rfl (Ext.refl _) S1 rfl
    simp only [bnd_assoc] at p ⊢
    exact p
theorem se_if (hc : PT X c (RB T L W fun ρ => bnd (mc ρ) (truV T.ro))) (ha : PE X a (RE T L W ma)) (hb : PE X b (RE T L W mb)) : PE X (.IfExp c a b pos) (RE T L W fun ρ => bnd (mc ρ) fun x => bnd (truV T.ro x) fun k => if k = true then ma ρ else mb ρ) :=
  PE.imp (pe_ifExp hc ha hb) fun σ H Q ⟨w, ρ, eH, S, E, p⟩ => by
    subst eH
    dsimp only at p
    rw [← bnd_assoc] at p
    refine stepE (m := fun ρ => bnd (mc ρ) (truV T.ro)) (Rel := EqR') S E p fun w1 k k' e1 S1 E1 r1 p1 => ?_
    cases r1
    cases k with
    | true => exact ⟨w1, ρ, rfl, S1, E1, p1⟩
    | false => exact ⟨w1, ρ, rfl, S1, E1, p1⟩
/-- the test of a conditional expression goes into its branches -/
theorem isTrue_if {M : Model} {A : Around} {E : Value → Shared → Prop} {env : PySem.Env} {t x y : Expr} {pos : Pos} {whole : Sem Value} {s : Shared} {Q : Bool → Shared → Prop}
    (h : wpAny M A (isTrue t env (eval t env)) (fun k s' => wpAny M A (if k = true then isTrue x env (eval x env) else isTrue y env (eval y env)) Q E s') E s) : wpAny M A (isTrue (.IfExp t x y pos) env whole) Q E s := by
  show wpAny M A (do if ← isTrue t env (eval t env) then isTrue x env (eval x env) else isTrue y env (eval y env)) Q E s
  exact wpAny_bind (wpAny_mono h (fun k s' hk => by cases k <;> exact hk) fun _ _ z => z)
theorem ste_if (hc : PT X c (RB T L W fun ρ => bnd (mc ρ) (truV T.ro))) (ha : PT X a (RB T L W fun ρ => bnd (ma ρ) (truV T.ro))) (hb : PT X b (RB T L W fun ρ => bnd (mb ρ) (truV T.ro))) :
    PT X (.IfExp c a b pos) (RB T L W fun ρ => bnd (bnd (mc ρ) fun x => bnd (truV T.ro x) fun k => if k = true then ma ρ else mb ρ) (truV T.ro)) := by
  refine ⟨fun pins s σ H Q I ⟨w, ρ, eH, S, E, p⟩ => ?_⟩
  subst eH
  simp only [bnd_assoc] at p
  rw [← bnd_assoc] at p
  have q : RB T L W (fun ρ => bnd (mc ρ) (truV T.ro)) σ w.H (fun k H1 => if k = true then RB T L W (fun ρ => bnd (ma ρ) (truV T.ro)) σ H1 Q else RB T L W (fun ρ => bnd (mb ρ) (truV T.ro)) σ H1 Q) := by
    refine stepE (m := fun ρ => bnd (mc ρ) (truV T.ro)) (Rel := EqR') (Rel' := EqR') S E p fun w1 k k' e1 S1 E1 r1 p1 => ?_
    cases r1
    cases k with
    | true => exact ⟨w1, ρ, rfl, S1, E1, p1⟩
    | false => exact ⟨w1, ρ, rfl, S1, E1, p1⟩
  refine isTrue_if (thn (hc.run pins s σ w.H _ I q) fun k s1 ⟨H1, I1, q1⟩ => ?_)
  cases k with
  | true => exact ha.run pins s1 σ H1 Q I1 q1
  | false => exact hb.run pins s1 σ H1 Q I1 q1
end
end MP

set_option maxRecDepth 100000
namespace MP
open PySem L2
section
variable {T : Tb} {C : Cn} {L : Ln} {A : Fa} {d : Nat} {X : Cx} {W : WX} {sc : Scope}
variable {a b c e : Expr} {es : List Expr} {ma mb mc : Env → M Val} {ms : Env → M (List Val)} {pos : Pos}
theorem Post.call {ro : Ro} {α β : Type} {Rel : Rl α β} {w : Wd} {σ : St} {Q : β → Hp → Prop} {r : R α} (p : Post L ro Rel W w σ Q r) : Post L ro Rel (fun c dd _ H => WE W σ c dd H) w [] Q r := by
  cases r <;> exact p
theorem RG.mono {α β : Type} {ro : Ro} {Rel : Rl α β} {m : Env → M α} {σ : St} {H : Hp} {Q Q' : β → Hp → Prop} (h : RG L ro Rel W m σ H Q) (f : ∀ y H, Q y H → Q' y H) : RG L ro Rel W m σ H Q' := by
  obtain ⟨w, ρ, e, S, E, p⟩ := h
  exact ⟨w, ρ, e, S, E, p.imp fun w' a y _ _ _ q => f y w'.H q⟩
/-! ### calls of defs -/
theorem se_call1 {f : Nat} {y : Str} {p : Pos} (x : XOk T C L A d X W sc) (h : ckGl sc (C.fnN f) y = true) (hf : C.gf f = true) (he : okEs (e :: es) = true) (ha : PA X (e :: es) (RA T L W ms)) :
    PE X (.Call (.Name y p) (e :: es) [] pos) (RE T L W fun ρ => bnd (ms ρ) fun vs => callD T d f vs) := by
  simp only [ckGl, Bool.and_eq_true, decide_eq_true_eq] at h
  obtain ⟨⟨h1, h2⟩, h3⟩ := h
  subst h1
  obtain ⟨n1, n2, _⟩ := nmOk_of h3
  obtain ⟨F, e1, e2⟩ := x.lk.name f hf
  have ok := x.lk.ok f F e1
  have bd := x.lk.bind f F e1
  have kp := x.lk.keep f F e1
  rw [← x.hK] at ok bd kp
  have hr : Room (2 * d + 1) X.A := x.room.mono (by omega)
  simp only [okEs, Bool.and_eq_true] at he
  refine PE.imp (pe_callS ok hr (x.gl h2) e2 kp bd (passAt x.tk) ha n1 (star_ok he.1) (stars_ok he.2).1) fun σ H Q ⟨w, ρ, eH, S, E, q⟩ => ?_
  subst eH
  exact stepE S E q fun w1 vs vs' e1 S1 E1 r1 p1 => ⟨w1, vs, rfl, S1, r1, p1.call⟩
theorem se_call0 {f : Nat} {y : Str} {p : Pos} (x : XOk T C L A d X W sc) (h : ckGl sc (C.fnN f) y = true) (hf : C.gf f = true) :
    PE X (.Call (.Name y p) [] [] pos) (RE T L W fun _ => bnd (ret []) fun vs => callD T d f vs) := by
  simp only [ckGl, Bool.and_eq_true, decide_eq_true_eq] at h
  obtain ⟨⟨h1, h2⟩, h3⟩ := h
  subst h1
  obtain ⟨n1, n2, _⟩ := nmOk_of h3
  obtain ⟨F, e1, e2⟩ := x.lk.name f hf
  have ok := x.lk.ok f F e1
  have bd := x.lk.bind f F e1
  have kp := x.lk.keep f F e1
  rw [← x.hK] at ok bd kp
  have hr : Room (2 * d + 1) X.A := x.room.mono (by omega)
  refine ⟨fun pins s σ H Q I ⟨w, ρ, eH, S, E, q⟩ => ?_⟩
  subst eH
  refine PySem.wpAny_Call_Name_kw (ld_glob I (x.gl h2) e2 ?_ n1)
  refine PySem.W.callWith_K0 I.kIn kp ?_
  exact run_fnS ok hr bd (passAt x.tk σ) I .nil ⟨w, [], rfl, S, .nil, Post.call q⟩
/-- the receiver, its class and its method -/
theorem meth_at {m n cc f : Nat} {fs : List (Nat × Val)} {w : Wd} (x : XOk T C L A d X W sc) (S : Sim L T.ro w) (hn : n < w.h.sz) (e : w.h.ob n = .ins cc fs) (em : T.me cc m = some f) (el : fs.lookup m = none) :
    ∃ dx gs F, w.H (w.ι n) = some (.ins (L.cA cc) dx gs) ∧ Cls X.K (L.cA cc) ∧ Meth X.K (L.cA cc) (C.fN m) (A.fA f) ∧ gs.lookup (C.fN m) = none ∧ T.fn f = some F := by
  obtain ⟨dx, gs, rf, h, _⟩ := ins_of S hn e
  obtain ⟨c1, c2, F, c3⟩ := x.lk.meth _ _ _ em
  have := (FR.look m rf).2 el
  rw [x.lk.fNe] at this
  exact ⟨dx, gs, F, h, by rw [x.hK]; exact c1, by rw [x.hK]; exact c2, this, c3⟩
/-- what a method call asks -/
def methM (T : Tb) (d m : Nat) (ma : Env → M Val) (ms : Env → M (List Val)) : Env → M Val := fun ρ => bnd (ma ρ) fun x => fun h => match x with
    | .ref n => match h.ob n with
      | .ins c fs => match T.me c m, fs.lookup m with
        | some f, none => bnd (ms ρ) (fun vs => callD T d f (x :: vs)) h
        | _, _ => .no
      | _ => .no
    | _ => .no
theorem methM_step {m : Nat} {w : Wd} {σ : St} {ρ : Env} {Q : VK} (x : XOk T C L A d X W sc) (S : Sim L T.ro w) (E : EnvR L w ρ σ) (p : Post L T.ro (VR L) W w σ Q (methM T d m ma ms ρ w.h)) :
    RE T L W ma σ w.H (fun y H1 => ∃ w1 n cc f dx gs F, w1.H = H1 ∧ Sim L T.ro w1 ∧ EnvR L w1 ρ σ ∧ y = .ref (w1.ι n) ∧ n < w1.h.sz ∧ H1 (w1.ι n) = some (.ins (L.cA cc) dx gs) ∧ Cls X.K (L.cA cc) ∧ Meth X.K (L.cA cc) (C.fN m) (A.fA f) ∧ gs.lookup (C.fN m) = none ∧ T.fn f = some F ∧
      Post L T.ro (VR L) W w1 σ Q (bnd (ms ρ) (fun vs => callD T d f (.ref n :: vs)) w1.h)) := by
  refine stepE S E p fun w1 v y e1 S1 E1 r1 p1 => ?_
  cases r1 with
  | ref hn =>
    rename_i n
    dsimp only at p1
    split at p1
    · rename_i cc fs q
      split at p1
      · rename_i f em el
        obtain ⟨dx, gs, F, h1, h2, h3, h4, h5⟩ := meth_at x S1 hn q em el
        exact ⟨w1, n, cc, f, dx, gs, F, rfl, S1, E1, rfl, hn, h1, h2, h3, h4, h5, p1⟩
      · exact p1.elim
    · exact p1.elim
  | _ => exact p1.elim
theorem se_meth1 {m : Nat} {ap : Pos} (x : XOk T C L A d X W sc) (ho : okTop a = true) (he : okEs (e :: es) = true) (hl : (e :: es).length < 30) (hp : (ap.endLine == pos.line) = true) (ha : PE X a (RE T L W ma)) (hs : PA X (e :: es) (RA T L W ms)) :
    PE X (.Call (.Attribute a (C.fN m) ap) (e :: es) [] pos) (RE T L W (methM T d m ma ms)) := by
  have hr : Room (2 * d + 1) X.A := x.room.mono (by omega)
  refine ⟨fun pins s σ H Q I ⟨w, ρ, eH, S, E, q⟩ => ?_⟩
  subst eH
  refine PySem.W.methodCall_KW (thn (ha.run pins s σ w.H _ I (methM_step x S E q)) fun u s1 ⟨y, H1, I1, rx, w1, n, cc, f, dx, gs, F, eH, S1, E1, ey, hn, h1, h2, h3, h4, h5, p1⟩ => ?_) (meth_ok ho he hl hp)
  subst eH; subst ey
  obtain rfl : u = Value.ref (w1.ι n) := rx
  have ok := x.lk.ok f F h5
  have bd := x.lk.bind f F h5
  rw [← x.hK] at ok bd
  refine getmeth_ok I1 h1 h2 h3 h4 ?_
  simp only [okEs, Bool.and_eq_true] at he
  have rd : RA T L W ms σ w1.H (fun vs H1 => spD T L d f (.ref (w1.ι n) :: vs) H1 Q (WE W σ)) := stepE S1 E1 p1 fun w2 vs vs' e2 S2 E2 r2 p2 => by
    refine ⟨w2, .ref n :: vs, rfl, S2, .cons ?_ r2, p2.call⟩
    rw [← e2.io n hn]
    exact .ref (Nat.lt_of_lt_of_le hn e2.sz)
  refine PySem.W.callWith_K (first := [.ref (w1.ι n)]) (h₀ := X.base) I.ok.mod.kin h3.kp (thn (hs.run pos pins s1 σ w1.H _ I1 rd) fun us s2 ⟨vs, H2, I2, r, q2⟩ => ⟨I2.kIn, ?_⟩) (star_ok he.1) (stars_ok he.2).1
  exact run_fnS (us := .ref (w1.ι n) :: us) (vs := .ref (w1.ι n) :: vs) ok hr bd (passAt x.tk σ) I2 (.cons rfl r) q2
theorem se_meth0 {m : Nat} {ap : Pos} (x : XOk T C L A d X W sc) (ho : okTop a = true) (hp : (ap.endLine == pos.line) = true) (ha : PE X a (RE T L W ma)) :
    PE X (.Call (.Attribute a (C.fN m) ap) [] [] pos) (RE T L W (methM T d m ma fun _ => ret [])) := by
  have hr : Room (2 * d + 1) X.A := x.room.mono (by omega)
  refine ⟨fun pins s σ H Q I ⟨w, ρ, eH, S, E, q⟩ => ?_⟩
  subst eH
  refine PySem.W.methodCall_KW (thn (ha.run pins s σ w.H _ I (methM_step x S E q)) fun u s1 ⟨y, H1, I1, rx, w1, n, cc, f, dx, gs, F, eH, S1, E1, ey, hn, h1, h2, h3, h4, h5, p1⟩ => ?_) (meth_ok (es := []) ho rfl (by decide) hp)
  subst eH; subst ey
  obtain rfl : u = Value.ref (w1.ι n) := rx
  have ok := x.lk.ok f F h5
  have bd := x.lk.bind f F h5
  rw [← x.hK] at ok bd
  refine getmeth_ok I1 h1 h2 h3 h4 ?_
  exact PySem.W.callWith_K0 (first := [.ref (w1.ι n)]) I1.kIn h3.kp (run_fnS (us := [.ref (w1.ι n)]) (vs := [.ref (w1.ι n)]) ok hr bd (passAt x.tk σ) I1 (.cons rfl .nil) ⟨w1, [.ref n], rfl, S1, .cons (.ref hn) .nil, Post.call p1⟩)
/-! ### new instances -/
theorem run_makeS {CX : CXT} {k : Nat} {f D : Addr} {fd : FuncData} {ps : List Str} {sp : Sp} {E : St → XK} {pins : List (Addr × Obj)} {σ : St} {H : Hp} {s : Shared} {Q : VK} {us : List Value} {vs : List V} (M : Mk X.K D f) (F : FnOk X.prog X.w X.K X.mg X.base CX k f fd ps sp) (hr : Room (k + 1) X.A)
    (hb : Binds X.K fd ps []) (hx : PassesAt CX X σ (E σ)) (I : Inv X pins σ H s) (r : Vals vs us)
    (h : ∀ x dx, H x = none → H dx = none → dx ≠ x → sp (.ref x :: vs) (upd (upd H dx (.own x)) x (.ins D dx [])) (fun v H2 => v = .non ∧ Q (.ref x) H2) (E σ)) :
    wpAny (model X.prog X.w) X.A (call (.ref D) us) (EP X pins σ Q) X.xe s := by
  have hq := h (s.heap.objs.size + 1) s.heap.objs.size (I.hok.fresh (Nat.le_succ _)) (I.hok.fresh (Nat.le_refl _)) (Nat.ne_of_lt (Nat.lt_succ_self _))
  have I2 := Inv.made (C := D) I
  have r2 : Vals (V.ref (s.heap.objs.size + 1) :: vs) (Value.ref (s.heap.objs.size + 1) :: us) := .cons rfl r
  have hl : (Value.ref (s.heap.objs.size + 1) :: us ++ []).length = ps.length := by
    have e := r2.length
    rw [F.len _ _ _ _ hq] at e
    rw [List.append_nil]
    exact e.symm
  have bb := hb _ (Value.ref (s.heap.objs.size + 1) :: us) I2.kIn hl
  rw [List.append_nil] at bb
  refine wpAny_call (make_map (f := f) I.kIn M.makes M.init (beq_iff_eq.mp M.fn) (codeAny_mono (F.run _ X.stack _ _ ⟨Value.ref (s.heap.objs.size + 1) :: us, []⟩ (Value.ref (s.heap.objs.size + 1) :: us) _ _ (E σ) (hr.make D us [])
    (I2.env0.make D us []) bb r2 hq) fun r s' hq' => ?_))
  cases r with
  | error e => exact hx pins _ _ e s' I2 hq'
  | ok fl =>
    cases fl with
    | ret u =>
      obtain ⟨v, H', I3, rv, ev, q3⟩ := I2.after hq'
      subst ev
      exact ⟨rv, ⟨V.ref (s.heap.objs.size + 1), H', I3, rfl, q3⟩⟩
    | next => exact False.elim hq'
    | brk => exact False.elim hq'
    | cont => exact False.elim hq'
/-- a new instance in the world -/
theorem make_world {w : Wd} {σ : St} {Q : VK} {f cc : Nat} {vs : List Val} {vs' : List V} (S : Sim L T.ro w) (r : VRs L w vs vs')
    (p : Post L T.ro (VR L) W w σ Q (bnd (callD T d f (.ref w.h.sz :: vs)) (endM w.h.sz) (w.h.new (.ins cc [])))) (x dx : Addr) (hx : w.H x = none) (hd : w.H dx = none) (hne : dx ≠ x) :
    spD T L d f (.ref x :: vs') (upd (upd w.H dx (.own x)) x (.ins (L.cA cc) dx [])) (fun v H2 => v = .non ∧ Q (.ref x) H2) (WE W σ) := by
  have hk : ∀ b u, w.H b = some u → upd (upd w.H dx (.own x)) x (.ins (L.cA cc) dx []) b = some u := fun b u e => by
    rw [upd_ne (ne_of_none e hx), upd_ne (ne_of_none e hd)]; exact e
  have ex : Ext w (w.neu x (.ins cc []) (upd (upd w.H dx (.own x)) x (.ins (L.cA cc) dx []))) := Ext.neu hx hk
  have S' : Sim L T.ro (w.neu x (.ins cc []) (upd (upd w.H dx (.own x)) x (.ins (L.cA cc) dx []))) := S.neu hx hk ⟨dx, [], .nil, upd_same, by show upd _ x _ dx = _; rw [upd_ne hne, upd_same]⟩
  refine ⟨_, .ref w.h.sz :: vs, rfl, S', .cons ?_ (r.ext S ex), ?_⟩
  · have z : VR L (w.neu x (.ins cc []) (upd (upd w.H dx (.own x)) x (.ins (L.cA cc) dx []))) (.ref w.h.sz) (.ref ((w.neu x (.ins cc []) (upd (upd w.H dx (.own x)) x (.ins (L.cA cc) dx []))).ι w.h.sz)) := .ref Wd.neu_lt
    rw [Wd.neu_at] at z
    exact z
  · show Post L T.ro (VR L) _ _ [] _ (callD T d f (.ref w.h.sz :: vs) (w.h.new (.ins cc [])))
    cases q : callD T d f (.ref w.h.sz :: vs) (w.h.new (.ins cc [])) with
    | ok v h' =>
      rw [bnd_ok q] at p
      intro w2 y e2 x2 S2 r2
      have xx : Ext w w2 := ex.trans S' x2
      cases r2 with
      | non =>
        refine ⟨rfl, ?_⟩
        have lt : w.h.sz < w2.h.sz := Nat.lt_of_lt_of_le Wd.neu_lt x2.sz
        have p' : Post L T.ro (VR L) W w σ Q (.ok (.ref w.h.sz) h') := p
        have z := p' w2 (V.ref (w2.ι w.h.sz)) e2 xx S2 (.ref lt)
        rw [x2.io _ Wd.neu_lt, Wd.neu_at] at z
        exact z
      | _ => exact p.elim
    | ex z h' =>
      rw [bnd_ex q] at p
      intro w2 dd e2 x2 S2
      exact p w2 dd e2 (ex.trans S' x2) S2
    | no => rw [bnd_no q] at p; exact p.elim
def makeM (T : Tb) (d cc : Nat) (ms : Env → M (List Val)) : Env → M Val := fun ρ => bnd (ms ρ) fun vs => fun h => match T.ini cc with
    | some f => bnd (callD T d f (.ref h.sz :: vs)) (endM h.sz) (h.new (.ins cc []))
    | none => .no
theorem se_make1 {cc : Nat} {y : Str} {p : Pos} (x : XOk T C L A d X W sc) (h : ckGl sc (C.clN cc) y = true) (hf : C.gc cc = true) (he : okEs (e :: es) = true) (ha : PA X (e :: es) (RA T L W ms)) :
    PE X (.Call (.Name y p) (e :: es) [] pos) (RE T L W (makeM T d cc ms)) := by
  simp only [ckGl, Bool.and_eq_true, decide_eq_true_eq] at h
  obtain ⟨⟨h1, h2⟩, h3⟩ := h
  subst h1
  obtain ⟨n1, n2, _⟩ := nmOk_of h3
  obtain ⟨f, F, e1, e2, M, e3⟩ := x.lk.mak cc hf
  have ok := x.lk.ok f F e2
  have bd := x.lk.bind f F e2
  rw [← x.hK] at ok bd M
  simp only [okEs, Bool.and_eq_true] at he
  refine ⟨fun pins s σ H Q I ⟨w, ρ, eH, S, E, q⟩ => ?_⟩
  subst eH
  refine PySem.wpAny_Call_Name_kw (ld_glob I (x.gl h2) e3 ?_ n1)
  have rd : RA T L W ms σ w.H (fun vs H1 => ∀ xx dx, H1 xx = none → H1 dx = none → dx ≠ xx → spD T L d f (.ref xx :: vs) (upd (upd H1 dx (.own xx)) xx (.ins (L.cA cc) dx [])) (fun v H2 => v = .non ∧ Q (.ref xx) H2) (WE W σ)) := by
    refine stepE S E q fun w1 vs vs' x1 S1 E1 r1 p1 => ?_
    rw [e1] at p1
    exact make_world S1 r1 p1
  refine PySem.W.callWith_K (h₀ := X.base) I.ok.mod.kin M.kp (thn (ha.run pos pins s σ w.H _ I rd) fun us s1 ⟨vs, H1, I1, r, q⟩ => ⟨I1.kIn, ?_⟩) (star_ok he.1) (stars_ok he.2).1
  exact run_makeS M ok x.room bd (passAt x.tk σ) I1 r q
theorem se_make0 {cc : Nat} {y : Str} {p : Pos} (x : XOk T C L A d X W sc) (h : ckGl sc (C.clN cc) y = true) (hf : C.gc cc = true) :
    PE X (.Call (.Name y p) [] [] pos) (RE T L W (makeM T d cc fun _ => ret [])) := by
  simp only [ckGl, Bool.and_eq_true, decide_eq_true_eq] at h
  obtain ⟨⟨h1, h2⟩, h3⟩ := h
  subst h1
  obtain ⟨n1, n2, _⟩ := nmOk_of h3
  obtain ⟨f, F, e1, e2, M, e3⟩ := x.lk.mak cc hf
  have ok := x.lk.ok f F e2
  have bd := x.lk.bind f F e2
  rw [← x.hK] at ok bd M
  refine ⟨fun pins s σ H Q I ⟨w, ρ, eH, S, E, q⟩ => ?_⟩
  subst eH
  refine PySem.wpAny_Call_Name_kw (ld_glob I (x.gl h2) e3 ?_ n1)
  have q' : Post L T.ro (VR L) W w σ Q (bnd (callD T d f [.ref w.h.sz]) (endM w.h.sz) (w.h.new (.ins cc []))) := by
    have z : makeM T d cc (fun _ => ret []) ρ w.h = bnd (callD T d f [.ref w.h.sz]) (endM w.h.sz) (w.h.new (.ins cc [])) := by
      show (match T.ini cc with
        | some f => bnd (callD T d f (.ref w.h.sz :: [])) (endM w.h.sz) (w.h.new (.ins cc []))
        | none => .no) = _
      rw [e1]
    rw [z] at q; exact q
  exact PySem.W.callWith_K0 I.kIn M.kp (run_makeS (us := []) M ok x.room bd (passAt x.tk σ) I .nil (make_world S .nil q'))
/-! ### built-ins -/
theorem se_biF {bi : BI} {id : String} {y : Str} {p : Pos} (x : XOk T C L A d X W sc) (hc : CallR X (.builtin id) (rC L T.ro (biV T.ro bi))) (hv : bootBuiltins (biN bi) = some (.builtin id)) (h : ckBi C sc y (biN bi) = true) (he : okEs (e :: es) = true) (ha : PA X (e :: es) (RA T L W ms)) :
    PE X (.Call (.Name y p) (e :: es) [] pos) (RE T L W fun ρ => bnd (ms ρ) fun vs => biV T.ro bi vs) := by
  simp only [ckBi, Bool.and_eq_true, decide_eq_true_eq] at h
  obtain ⟨⟨⟨h1, h2⟩, h3⟩, h4⟩ := h
  subst h1
  obtain ⟨n1, n2, n3⟩ := nmOk_of h3
  simp only [okEs, Bool.and_eq_true] at he
  refine PE.imp (pe_callB hc (x.gl h2) (x.lk.blt _ h4) hv ha n3 n1 (star_ok he.1) (stars_ok he.2).1) fun σ H Q ⟨w, ρ, eH, S, E, q⟩ => ?_
  subst eH
  exact stepE S E q fun w1 vs vs' e1 S1 E1 r1 p1 => ⟨w1, vs, σ, W, rfl, S1, r1, p1⟩
theorem se_biT {bi : BI} {id : String} {y : Str} {p : Pos} (x : XOk T C L A d X W sc) (hc : CallR X (.type id) (rC L T.ro (biV T.ro bi))) (hv : bootBuiltins (biN bi) = some (.type id)) (h : ckBi C sc y (biN bi) = true) (he : okEs (e :: es) = true) (ha : PA X (e :: es) (RA T L W ms)) :
    PE X (.Call (.Name y p) (e :: es) [] pos) (RE T L W fun ρ => bnd (ms ρ) fun vs => biV T.ro bi vs) := by
  simp only [ckBi, Bool.and_eq_true, decide_eq_true_eq] at h
  obtain ⟨⟨⟨h1, h2⟩, h3⟩, h4⟩ := h
  subst h1
  obtain ⟨n1, n2, n3⟩ := nmOk_of h3
  simp only [okEs, Bool.and_eq_true] at he
  refine PE.imp (pe_callTy hc (x.gl h2) (x.lk.blt _ h4) hv ha n3 n1 (star_ok he.1) (stars_ok he.2).1) fun σ H Q ⟨w, ρ, eH, S, E, q⟩ => ?_
  subst eH
  exact stepE S E q fun w1 vs vs' e1 S1 E1 r1 p1 => ⟨w1, vs, σ, W, rfl, S1, r1, p1⟩
theorem se_bi {bi : BI} {y : Str} {p : Pos} (x : XOk T C L A d X W sc) (h : ckBi C sc y (biN bi) = true) (he : okEs (e :: es) = true) (ha : PA X (e :: es) (RA T L W ms)) :
    PE X (.Call (.Name y p) (e :: es) [] pos) (RE T L W fun ρ => bnd (ms ρ) fun vs => biV T.ro bi vs) := by
  cases bi with
  | len => exact se_biF x (call_lenS x.hK) (by decide +kernel) h he ha
  | int => exact se_biT x call_intS (by decide +kernel) h he ha
  | list => exact se_biT x (call_listS x.hK) (by decide +kernel) h he ha
  | tuple => exact se_biT x (call_tupleS x.hK) (by decide +kernel) h he ha
  | sum => exact se_biF x (call_sumS x.hK x.calm) (by decide +kernel) h he ha
  | all => exact se_biF x (call_allS x.hK x.calm) (by decide +kernel) h he ha
  | any => exact se_biF x (call_anyS x.hK x.calm) (by decide +kernel) h he ha
  | max => exact se_biF x (call_maxS x.calm) (by decide +kernel) h he ha
  | min => exact se_biF x (call_minS x.calm) (by decide +kernel) h he ha
  | sorted => exact se_biF x (call_sortedS x.hK) (by decide +kernel) h he ha
/-! ### methods of lists -/
def bmM (T : Tb) (m : BM) (ma : Env → M Val) (ms : Env → M (List Val)) : Env → M Val := fun ρ => bnd (ma ρ) fun x => fun h => if bmTy m x h = true then bnd (ms ρ) (fun vs => bmV m x vs) h else .no
theorem bmM_step {m : BM} {w : Wd} {σ : St} {ρ : Env} {Q : VK} (x : XOk T C L A d X W sc) (S : Sim L T.ro w) (E : EnvR L w ρ σ) (p : Post L T.ro (VR L) W w σ Q (bmM T m ma ms ρ w.h)) :
    RE T L W ma σ w.H (fun y H1 => tyV X.K "list" y H1 ∧ RA T L W ms σ H1 fun xs H2 => rM L T.ro (bmV m) y xs H2 Q) := by
  refine stepE S E p fun w1 v y e1 S1 E1 r1 p1 => ?_
  split at p1
  · rename_i ty
    exact ⟨bmTy_of x.hK S1 r1 ty, stepE S1 E1 p1 fun w2 vs vs' e2 S2 E2 r2 p2 => ⟨w2, v, vs, σ, W, rfl, S2, r1.ext S1 e2, r2, p2⟩⟩
  · exact p1.elim
theorem se_bm1 {m : BM} {id : String} {ap : Pos} (x : XOk T C L A d X W sc) (pa : PySem.PlainAttrs "list") (slot : Slot "list" (bmN m) id) (hty : typeOf (.builtin id) = pure (.type "method_descriptor")) (hm : MtR X id (rM L T.ro (bmV m)))
    (ho : okTop a = true) (he : okEs (e :: es) = true) (hl : (e :: es).length < 30) (hp : (ap.endLine == pos.line) = true) (ha : PE X a (RE T L W ma)) (hs : PA X (e :: es) (RA T L W ms)) :
    PE X (.Call (.Attribute a (bmN m) ap) (e :: es) [] pos) (RE T L W (bmM T m ma ms)) := by
  have st := stars_ok (pos := pos) (env := X.env) he
  have he' := he
  simp only [okEs, Bool.and_eq_true] at he'
  refine PE.imp (pe_bm pa slot hty hm ha hs (base_ok ho) (by rw [st.2.1]; show (true && true && decide ((e :: es).length + 0 + 0 < 30)) = true; simpa using hl) hp (star_ok he'.1) (stars_ok he'.2).1) fun σ H Q ⟨w, ρ, eH, S, E, q⟩ => ?_
  subst eH
  exact bmM_step x S E q
theorem se_bm0 {m : BM} {id : String} {ap : Pos} (x : XOk T C L A d X W sc) (pa : PySem.PlainAttrs "list") (slot : Slot "list" (bmN m) id) (hty : typeOf (.builtin id) = pure (.type "method_descriptor")) (hm : MtR X id (rM L T.ro (bmV m)))
    (ho : okTop a = true) (hp : (ap.endLine == pos.line) = true) (ha : PE X a (RE T L W ma)) :
    PE X (.Call (.Attribute a (bmN m) ap) [] [] pos) (RE T L W (bmM T m ma fun _ => ret [])) := by
  refine PE.imp (pe_bm0 pa slot hty hm ha (base_ok ho) hp) fun σ H Q ⟨w, ρ, eH, S, E, q⟩ => ?_
  subst eH
  exact RG.mono (bmM_step x S E q) fun y H1 ⟨t, w1, ρ1, e1, S1, E1, p1⟩ => ⟨t, by subst e1; exact p1.now S1 .nil⟩
end
end MP

set_option maxRecDepth 100000
namespace MP
open PySem L2
section
variable {T : Tb} {C : Cn} {L : Ln} {A : Fa} {d : Nat} {X : Cx} {W : WX} {sc : Scope} {ro : Ro} {w w' : Wd}
variable {a b c e : Expr} {es : List Expr} {ma mb mc : Env → M Val} {ms : Env → M (List Val)} {pos : Pos}
/-! ### sources -/
inductive ItOk (L : Ln) (ro : Ro) (w : Wd) : Src → It → Prop where
  | ref {n : Nat} {xs : List Val} : n < w.h.sz → ItOk L ro w ⟨some n, xs⟩ (Itl L.K (w.ι n))
  | tup {p : Addr} {xs : List Val} {vs : List V} : w.H p = some (.tup vs) → VRs L w xs vs → ItOk L ro w ⟨none, xs⟩ (Itt L.K p)
  | cstL {c : Nat} {xs : List Val} : ro c = some (false, xs) → ItOk L ro w ⟨none, xs⟩ (Itl L.K (L.kA c))
  | cstT {c : Nat} {xs : List Val} : ro c = some (true, xs) → ItOk L ro w ⟨none, xs⟩ (Itt L.K (L.kA c))
  | rng (lo : Int) (n : Nat) : ItOk L ro w ⟨none, rng lo n⟩ (Itr lo n)
  | rngC (lo c : Int) (n : Nat) : ItOk L ro w ⟨none, rngC lo c n⟩ (Itc lo c n)
  | str (y : Str) : ItOk L ro w ⟨none, y.cps.toList.map fun c => Val.str ⟨#[c]⟩⟩ (Its y)
theorem ItOk.ext {s : Src} {J : It} (S : Sim L ro w) (x : Ext w w') (h : ItOk L ro w s J) : ItOk L ro w' s J := by
  cases h with
  | ref h => rw [← x.io _ h]; exact .ref (Nat.lt_of_lt_of_le h x.sz)
  | tup h r => exact .tup (x.tup S h) (r.ext S x)
  | cstL h => exact .cstL h
  | cstT h => exact .cstT h
  | rng lo n => exact .rng lo n
  | rngC lo c n => exact .rngC lo c n
  | str y => exact .str y
/-- one list at an address alone -/
theorem sql_lst {K : PySem.W.Frag} {H : Hp} {a : Addr} {xs ys : List V} {u : HO} (h : SqL K H a xs) (e : H a = some u) (hk : ∀ o, K.lookup a = some o → False) (hu : u = .lst ys) : xs = ys := by
  rcases h with (h | ⟨o, h⟩) | ⟨o, its, n, h, _⟩
  · rw [e, hu] at h; cases h; rfl
  · rw [e, hu] at h; cases h
  · exact (hk o h).elim
/-- a turn that has an item -/
theorem ItOk.turn {s : Src} {J : It} {i : Nat} {v : Val} (S : Sim L ro w) (h : ItOk L ro w s J) (hc : s.chk w.h = true) (hi : s.items[i]? = some v) :
    J.go i w.H ∧ ∃ Y : V → Prop, (∀ x H', J.yld i w.H x H' → H' = w.H ∧ Y x) ∧ ∃ x, VR L w v x ∧ Y x ∧ ∀ z, Y z → z = x := by
  cases h with
  | ref hn =>
    rename_i n xs
    have e : w.h.ob n = .lst xs := by simpa [Src.chk] using hc
    obtain ⟨vs, r, hH⟩ := lst_of S hn e
    obtain ⟨x, hx, rx⟩ := r.get hi
    refine ⟨⟨vs, x, SqL.of hH, hx⟩, fun z => vs[i]? = some z, fun z H' hy => ⟨hy.1, hy.2 vs (SqL.of hH)⟩, x, rx, hx, fun z hz => ?_⟩
    rw [hx] at hz; cases hz; rfl
  | tup hp r =>
    obtain ⟨x, hx, rx⟩ := r.get hi
    refine ⟨⟨_, x, SqT.of hp, hx⟩, fun z => _, fun z H' hy => ⟨hy.1, hy.2 _ (SqT.of hp)⟩, x, rx, hx, fun z hz => ?_⟩
    rw [hx] at hz; cases hz; rfl
  | cstL h =>
    rename_i c xs
    obtain ⟨vs, r, hH⟩ := S.cst _ _ h
    obtain ⟨x, hx, rx⟩ := r.get hi
    have sq : SqL L.K w.H (L.kA c) vs := by
      rcases hH with ⟨o, hH⟩ | hH
      · exact .inl (.inr ⟨o, hH⟩)
      · exact .inr hH
    refine ⟨⟨vs, x, sq, hx⟩, fun z => _, fun z H' hy => ⟨hy.1, hy.2 _ sq⟩, x, rx, hx, fun z hz => ?_⟩
    rw [hx] at hz; cases hz; rfl
  | cstT h =>
    obtain ⟨vs, r, hH⟩ := S.cstT _ _ h
    obtain ⟨x, hx, rx⟩ := r.get hi
    rename_i c xs
    have sq : SqT L.K w.H (L.kA c) vs := .inr hH
    refine ⟨⟨vs, x, sq, hx⟩, fun z => _, fun z H' hy => ⟨hy.1, hy.2 _ sq⟩, x, rx, hx, fun z hz => ?_⟩
    rw [hx] at hz; cases hz; rfl
  | rng lo n =>
    have hl : i < n := by
      have := (List.getElem?_eq_some_iff.mp hi).1
      simpa [MP.rng] using this
    have hv : v = .int (lo + (i : Nat)) := by
      have z : (MP.rng lo n)[i]? = some (.int (lo + (i : Nat))) := by simp [MP.rng, hl]
      rw [z] at hi; cases hi; rfl
    subst hv
    exact ⟨hl, fun z => z = .int (lo + (i : Nat)), fun z H' hy => hy, _, .int _, rfl, fun z hz => hz⟩
  | rngC lo c n =>
    have hl : i < n := by
      have := (List.getElem?_eq_some_iff.mp hi).1
      simpa [MP.rngC] using this
    have hv : v = .int (lo + (i : Nat) * c) := by
      have z : (MP.rngC lo c n)[i]? = some (.int (lo + (i : Nat) * c)) := by simp [MP.rngC, hl]
      rw [z] at hi; cases hi; rfl
    subst hv
    exact ⟨hl, fun z => z = .int (lo + (i : Nat) * c), fun z H' hy => hy, _, .int _, rfl, fun z hz => hz⟩
  | str y =>
    have hl : i < y.cps.size := by
      have := (List.getElem?_eq_some_iff.mp hi).1
      simpa using this
    have hv : v = .str ⟨#[y.cps[i]]⟩ := by
      have z : (y.cps.toList.map fun c => Val.str ⟨#[c]⟩)[i]? = some (.str ⟨#[y.cps[i]]⟩) := by simp [hl]
      rw [z] at hi; cases hi; rfl
    subst hv
    refine ⟨hl, fun z => z = .str ⟨#[y.cps[i]]⟩, fun z H' hy => ⟨hy.1, ?_⟩, _, .str _, rfl, fun z hz => hz⟩
    obtain ⟨c, hc, e⟩ := hy.2
    have : y.cps[i]? = some y.cps[i] := by simp [hl]
    rw [this] at hc; cases hc; exact e
/-- the end -/
theorem ItOk.stop {s : Src} {J : It} (S : Sim L ro w) (h : ItOk L ro w s J) (hc : s.chk w.h = true) : J.stop s.items.length w.H := by
  cases h with
  | ref hn =>
    rename_i n xs
    have e : w.h.ob n = .lst xs := by simpa [Src.chk] using hc
    obtain ⟨vs, r, hH⟩ := lst_of S hn e
    exact ⟨vs, SqL.of hH, by rw [← r.length]; exact Nat.le_refl _⟩
  | tup hp r => exact ⟨_, SqT.of hp, by rw [← r.length]; exact Nat.le_refl _⟩
  | cstL h =>
    rename_i c xs
    obtain ⟨vs, r, hH⟩ := S.cst _ _ h
    have sq : SqL L.K w.H (L.kA c) vs := by
      rcases hH with ⟨o, hH⟩ | hH
      · exact .inl (.inr ⟨o, hH⟩)
      · exact .inr hH
    exact ⟨vs, sq, by rw [← r.length]; exact Nat.le_refl _⟩
  | cstT h =>
    obtain ⟨vs, r, hH⟩ := S.cstT _ _ h
    exact ⟨vs, .inr hH, by rw [← r.length]; exact Nat.le_refl _⟩
  | rng lo n =>
    show n ≤ (MP.rng lo n).length
    simp [MP.rng]
  | rngC lo c n =>
    show n ≤ (MP.rngC lo c n).length
    simp [MP.rngC]
  | str y =>
    show y.cps.size ≤ _
    simp
abbrev RI (T : Tb) (L : Ln) (W : WX) (m : Env → M Src) : TI := RG L T.ro (fun w s J => ItOk L T.ro w s J) W m
/-- a value that is walked -/
theorem si_val {tg : Expr} (x : XOk T C L A d X W sc) (ha : PE X a (RE T L W ma)) : PI X tg a (RI T L W fun ρ => bnd (ma ρ) (valSrc T.ro)) := by
  refine ⟨fun pins s σ H R I ⟨w, ρ, eH, S, E, p⟩ => ?_⟩
  subst eH
  have rd : RE T L W ma σ w.H (fun y H1 => ∃ w1 v, w1.H = H1 ∧ Sim L T.ro w1 ∧ VR L w1 v y ∧ Post L T.ro (fun w s J => ItOk L T.ro w s J) W w1 σ R (valSrc T.ro v w1.h)) :=
    stepE S E p fun w1 v y e1 S1 E1 r1 p1 => ⟨w1, v, rfl, S1, r1, p1⟩
  refine thn (ha.run pins s σ w.H _ I rd) fun u s1 ⟨y, H1, I1, ry, w1, v, e1, S1, r1, p1⟩ => ?_
  subst e1
  cases r1 with
  | tup hp r =>
    cases ry
    obtain ⟨its, rv, p, hz⟩ := I1.tuple (SqT.of hp)
    refine wpAny_pyIter_tuple (show s1.heap.IsTuple _ its.toArray from p) ?_
    refine ⟨s1.heap.objs.size, [s1.heap.objs.size], _, _, w1.H, rfl, I1.kept (t' := s1.toks) fun b o e => Heap.get?_push_of_some _ e, turn_tuple _ _, ⟨_, Heap.get?_push_size _ rfl, rfl, rfl⟩, fun b hb => ?_, ?_⟩
    · have e : b = s1.heap.objs.size := by simpa using hb
      subst e
      exact I1.fpOk (Nat.le_refl _) (I1.hok.fresh (Nat.le_refl _))
    · rw [x.hK]; exact p1.now S1 (.tup hp r)
  | str z =>
    obtain ⟨t, rfl⟩ := ry
    have q : R (Its z) w1.H := p1.now S1 (.str z)
    cases ha : z.cps.all (· < 128)
    · exact wpAny_pyIter_wide ha (pi_one (tk := s1.toks) I1 _ (turn_str _ z t "str_iterator" (.inr rfl)) ⟨_, Heap.get?_push_size _ rfl, rfl, rfl⟩ q)
    · exact wpAny_pyIter_ascii ha (pi_one (tk := s1.toks) I1 _ (turn_str _ z t "str_ascii_iterator" (.inl rfl)) ⟨_, Heap.get?_push_size _ rfl, rfl, rfl⟩ q)
  | ref hn =>
    cases ry
    simp only [valSrc] at p1
    split at p1
    · rename_i xs q
      obtain ⟨vs, r, hH⟩ := lst_of S1 hn q
      obtain ⟨its, rv, p, hz⟩ := I1.list (SqL.of hH)
      refine wpAny_pyIter_list p.isList ?_
      refine ⟨s1.heap.objs.size, [s1.heap.objs.size], _, _, w1.H, rfl, I1.kept (t' := s1.toks) fun b o e => Heap.get?_push_of_some _ e, turn_list _ _, ⟨_, Heap.get?_push_size _ rfl, rfl, rfl⟩, fun b hb => ?_, ?_⟩
      · have e : b = s1.heap.objs.size := by simpa using hb
        subst e
        exact I1.fpOk (Nat.le_refl _) (I1.hok.fresh (Nat.le_refl _))
      · rw [x.hK]; exact p1.now S1 (.ref hn)
    · exact p1.elim
  | cst c =>
    cases ry
    simp only [valSrc] at p1
    split at p1
    · rename_i k xs q
      cases k with
      | false =>
        obtain ⟨aa, vs, hx, r, h⟩ := sq_of S1 (VR.cst (L := L) (w := w1) c) (show sqV T.ro w1.h (.cst c) = some xs from roL_eq q)
        cases hx
        obtain ⟨its, rv, p, hz⟩ := I1.list (by rw [x.hK]; exact h)
        refine wpAny_pyIter_list p.isList ?_
        refine ⟨s1.heap.objs.size, [s1.heap.objs.size], _, _, w1.H, rfl, I1.kept (t' := s1.toks) fun b o e => Heap.get?_push_of_some _ e, turn_list _ _, ⟨_, Heap.get?_push_size _ rfl, rfl, rfl⟩, fun b hb => ?_, ?_⟩
        · have e : b = s1.heap.objs.size := by simpa using hb
          subst e
          exact I1.fpOk (Nat.le_refl _) (I1.hok.fresh (Nat.le_refl _))
        · rw [x.hK]; exact p1.now S1 (.cstL q)
      | true =>
        obtain ⟨aa, vs, hx, r, h⟩ := tu_of S1 (VR.cst (L := L) (w := w1) c) (show tuV T.ro (.cst c) = some xs from roL_eq q)
        cases hx
        obtain ⟨its, rv, p, hz⟩ := I1.tuple (by rw [x.hK]; exact h)
        refine wpAny_pyIter_tuple (show s1.heap.IsTuple _ its.toArray from p) ?_
        refine ⟨s1.heap.objs.size, [s1.heap.objs.size], _, _, w1.H, rfl, I1.kept (t' := s1.toks) fun b o e => Heap.get?_push_of_some _ e, turn_tuple _ _, ⟨_, Heap.get?_push_size _ rfl, rfl, rfl⟩, fun b hb => ?_, ?_⟩
        · have e : b = s1.heap.objs.size := by simpa using hb
          subst e
          exact I1.fpOk (Nat.le_refl _) (I1.hok.fresh (Nat.le_refl _))
        · rw [x.hK]; exact p1.now S1 (.cstT q)
    · exact p1.elim
  | _ => exact p1.elim
theorem inR_of {i : Int} (h : inR i = true) : -(2 ^ 62) ≤ i ∧ i < 2 ^ 62 := by
  simp only [inR, Bool.and_eq_true, decide_eq_true_eq] at h
  exact h
theorem PI.imp {tg : Expr} {t t' : TI} (h : PI X tg e t) (f : ∀ σ H R, t' σ H R → t σ H R) : PI X tg e t' := ⟨fun pins s σ H R I q => h.run pins s σ H R I (f σ H R q)⟩
def iRngV (t : TA) : TI := fun σ H R => t σ H fun vs H1 => ∃ J, R J H1 ∧ ((∃ j : Int, vs = [.int j] ∧ -(2 ^ 62) ≤ j ∧ j < 2 ^ 62 ∧ J = Itr 0 j.toNat) ∨
  (∃ i j : Int, vs = [.int i, .int j] ∧ (-(2 ^ 62) ≤ i ∧ i < 2 ^ 62 ∧ -(2 ^ 62) ≤ j ∧ j < 2 ^ 62) ∧ J = Itr i (j - i).toNat) ∨ ∃ (i j c : Int) (n : Nat), vs = [.int i, .int j, .int c] ∧ RgC i j c n ∧ J = Itc i c n)
theorem pi_rangeV {tg : Expr} {t : TA} {p : Pos} (hg : Gl X "range") (hm : X.mg "range" = none) (he : okEs (e :: es) = true) (ha : PA X (e :: es) t) : PI X tg (.Call (.Name "range" p) (e :: es) [] pos) (iRngV t) := by
  refine ⟨fun pins s σ H R I h => ?_⟩
  simp only [okEs, Bool.and_eq_true] at he
  refine PyProof.Rows.Call_ (ld_blt I hg hm PyProof.Rows.boot_range (PyProof.Rows.callWith_type1 (thn (ha.run pos pins s σ H _ I h) fun us s1 ⟨vs, H1, I1, r1, q1⟩ => ?_) (star_ok he.1) (stars_ok he.2).1))
  obtain ⟨J, q, ⟨j, e, q1, q2, eJ⟩ | ⟨i, j, e, ⟨q1, q2, q3, q4⟩, eJ⟩ | ⟨i, j, k, n, e, ⟨c0, c1, c2, c3⟩, eJ⟩⟩ := q1
  · subst e; subst eJ
    cases r1 with
    | cons r rr =>
      cases rr
      obtain ⟨t, rfl⟩ := r
      exact call_range_1 (range_it I1 (by omega) (by omega) q1 q2 (by simpa using q))
  · subst e; subst eJ
    cases r1 with
    | cons r rr =>
      cases rr with
      | cons r' rr =>
        cases rr
        obtain ⟨t, rfl⟩ := r
        obtain ⟨t', rfl⟩ := r'
        exact call_range_2 (range_it I1 q1 q2 q3 q4 q)
  · subst e; subst eJ
    cases r1 with
    | cons r rr =>
      cases rr with
      | cons r' rr =>
        cases rr with
        | cons r'' rr =>
          cases rr
          obtain ⟨t, rfl⟩ := r
          obtain ⟨t', rfl⟩ := r'
          obtain ⟨t'', rfl⟩ := r''
          refine call_range_3 c0 ?_ (.inl (PyProof.noPylong_small c1))
          refine wpAny_pyIter_range (IsRange.new ..) c2 ?_
          have I2 : Inv X pins σ H1 { s1 with heap := s1.heap.push { cls := .type "range", data := .fields #[.int i t, .int j t', .int k t''] } } := I1.kept (t' := s1.toks) fun b o e => Heap.get?_push_of_some _ e
          refine pi_one (tk := s1.toks) I2 _ (turn_rangeC _ i k n) ?_ q
          have e1 : i + ((0 : Nat) : Int) * k = i := by simp
          have e2 : (n : Int) - ((0 : Nat) : Int) = Builtin.Range.rangeSize i j k := by rw [c3]; simp
          show IsRangeIter _ _ (i + ((0 : Nat) : Int) * k) ((n : Int) - ((0 : Nat) : Int)) k
          rw [e1, e2]
          exact Heap.get?_push_size _ rfl
/-- a range -/
theorem si_range {tg : Expr} {y : Str} {p : Pos} (x : XOk T C L A d X W sc) (h : ckBi C sc y "range" = true) (he : okEs (e :: es) = true) (ha : PA X (e :: es) (RA T L W ms)) :
    PI X tg (.Call (.Name y p) (e :: es) [] pos) (RI T L W fun ρ => bnd (ms ρ) rangeV) := by
  simp only [ckBi, Bool.and_eq_true, decide_eq_true_eq] at h
  obtain ⟨⟨⟨h1, h2⟩, h3⟩, h4⟩ := h
  subst h1
  have hg := x.gl h2
  have hm := x.lk.blt _ h4
  refine PI.imp (pi_rangeV hg hm he ha) fun σ H R ⟨w, ρ, eH, S, E, q⟩ => ?_
  subst eH
  refine stepE S E q fun w1 vs vs' e1 S1 E1 r1 p1 => ?_
  cases r1 with
  | nil => exact p1.elim
  | cons r t =>
    cases t with
    | nil =>
      cases r with
      | int n =>
        simp only [rangeV] at p1
        split at p1
        · rename_i hz
          exact ⟨_, p1.now S1 (.rng 0 n.toNat), .inl ⟨n, rfl, (inR_of hz).1, (inR_of hz).2, rfl⟩⟩
        · exact p1.elim
      | _ => exact p1.elim
    | cons r2 t =>
      cases t with
      | nil =>
        cases r with
        | int n =>
          cases r2 with
          | int m =>
            simp only [rangeV] at p1
            split at p1
            · rename_i hz
              simp only [Bool.and_eq_true] at hz
              exact ⟨_, p1.now S1 (.rng n (m - n).toNat), .inr (.inl ⟨n, m, rfl, ⟨(inR_of hz.1).1, (inR_of hz.1).2, (inR_of hz.2).1, (inR_of hz.2).2⟩, rfl⟩)⟩
            · exact p1.elim
          | _ => exact p1.elim
        | _ => cases r2 <;> exact p1.elim
      | cons r3 t =>
        cases t with
        | nil =>
          cases r with
          | int n =>
            cases r2 with
            | int m =>
              cases r3 with
              | int k =>
                simp only [rangeV] at p1
                split at p1
                · rename_i hz
                  exact ⟨_, p1.now S1 (.rngC n k _), .inr (.inr ⟨n, m, k, _, rfl, ⟨hz.1, hz.2.1, hz.2.2.1, by have := hz.2.2.2; omega⟩, rfl⟩)⟩
                · exact p1.elim
              | _ => exact p1.elim
            | _ => cases r3 <;> exact p1.elim
          | _ => cases r2 <;> cases r3 <;> exact p1.elim
        | cons r4 t => cases r <;> cases r2 <;> cases r3 <;> exact p1.elim
end
end MP

set_option maxRecDepth 100000
namespace MP
open PySem L2
mutual
def mtS : MT → List Nat
  | .v i => [i]
  | .tup ts => mtsS ts
  | .ix _ _ => []
  | .att _ _ => []
def mtsS : MTs → List Nat
  | .nil => []
  | .cons t r => mtS t ++ mtsS r
end
/-- alike but at the slots js -/
structure Agree (js : List Nat) (σ σ' : St) : Prop where
  len : σ'.length = σ.length
  at_ : ∀ j, j ∉ js → σ'[j]? = σ[j]?
theorem Agree.refl {js : List Nat} {σ : St} : Agree js σ σ := ⟨rfl, fun _ _ => rfl⟩
theorem Agree.trans {js ks : List Nat} {σ1 σ2 σ3 : St} (a : Agree js σ1 σ2) (b : Agree ks σ2 σ3) : Agree (js ++ ks) σ1 σ3 :=
  ⟨b.len.trans a.len, fun j h => (b.at_ j fun z => h (List.mem_append_right _ z)).trans (a.at_ j fun z => h (List.mem_append_left _ z))⟩
theorem wipe_at : ∀ {vs : List Nat} {σ : St} {i : Nat}, (L2.wipe σ vs)[i]? = if i ∈ vs then (if i < σ.length then some none else none) else σ[i]?
  | [], σ, i => by simp [L2.wipe]
  | v :: vs, σ, i => by
    have ih := @wipe_at vs σ i
    show ((L2.wipe σ vs).set v none)[i]? = _
    by_cases h : v = i
    · subst h
      rw [List.getElem?_set_self', ih]
      by_cases hl : v < σ.length
      · by_cases hm : v ∈ vs
        · simp [hm, hl]
        · simp [hm, hl]
      · by_cases hm : v ∈ vs
        · simp [hm, hl]
        · simp [hm, hl]
    · rw [List.getElem?_set_ne h, ih]
      have : (i ∈ v :: vs) ↔ i ∈ vs := by simp [Ne.symm h]
      simp only [this]
theorem wipe_agree {vs js : List Nat} {σ σ' : St} (h : Agree js σ σ') (hs : ∀ j ∈ js, j ∈ vs) : L2.wipe σ' vs = L2.wipe σ vs := by
  apply List.ext_getElem?
  intro i
  rw [wipe_at, wipe_at, h.len]
  by_cases hi : i ∈ vs
  · simp [hi]
  · rw [if_neg hi, if_neg hi, h.at_ i fun z => hi (hs i z)]
theorem wipe_atM : ∀ {vs : List Nat} {ρ : Env} {i : Nat}, (MP.wipe ρ vs)[i]? = if i ∈ vs then (if i < ρ.length then some none else none) else ρ[i]?
  | [], ρ, i => by simp [MP.wipe]
  | v :: vs, ρ, i => by
    have ih := @wipe_atM vs ρ i
    show ((MP.wipe ρ vs).set v none)[i]? = _
    by_cases h : v = i
    · subst h
      rw [List.getElem?_set_self', ih]
      by_cases hl : v < ρ.length
      · by_cases hm : v ∈ vs
        · simp [hm, hl]
        · simp [hm, hl]
      · by_cases hm : v ∈ vs
        · simp [hm, hl]
        · simp [hm, hl]
    · rw [List.getElem?_set_ne h, ih]
      have : (i ∈ v :: vs) ↔ i ∈ vs := by simp [Ne.symm h]
      simp only [this]
theorem wipe_lenM : ∀ {vs : List Nat} {ρ : Env}, (MP.wipe ρ vs).length = ρ.length
  | [], _ => rfl
  | v :: vs, ρ => by
    show ((MP.wipe ρ vs).set v none).length = _
    rw [List.length_set, @wipe_lenM vs ρ]
section
variable {T : Tb} {C : Cn} {L : Ln} {A : Fa} {d : Nat} {X : Cx} {W : WX} {sc : Scope} {ro : Ro} {w w' : Wd} {σ : St} {ρ : Env}
variable {a b c e : Expr} {es : List Expr} {ma mb mc : Env → M Val} {ms : Env → M (List Val)} {pos : Pos}
theorem EnvR.wipe (E : EnvR L w ρ σ) (vs : List Nat) : EnvR L w (MP.wipe ρ vs) (L2.wipe σ vs) := by
  refine ⟨by rw [wipe_lenM, wipe_length, E.len], fun i v h => ?_⟩
  rw [wipe_atM] at h
  rw [wipe_at]
  by_cases hi : i ∈ vs
  · rw [if_pos hi] at h
    split at h <;> cases h
  · rw [if_neg hi] at h ⊢
    exact E.at_ i v h
theorem EnvR.set (E : EnvR L w ρ σ) {i : Nat} {v : Val} {y : V} (hi : i < ρ.length) (r : VR L w v y) : EnvR L w (ρ.set i (some v)) (σ.set i (some y)) := by
  refine ⟨by rw [List.length_set, List.length_set, E.len], fun j u h => ?_⟩
  by_cases hj : i = j
  · subst hj
    rw [List.getElem?_set_self hi] at h
    cases h
    exact ⟨y, List.getElem?_set_self (by rw [← E.len]; exact hi), r⟩
  · rw [List.getElem?_set_ne hj] at h ⊢
    exact E.at_ j u h
/-! ### targets -/
def PostT (L : Ln) (ro : Ro) (w : Wd) (σ : St) (js : List Nat) (Q : St → Hp → Prop) : R Env → Prop
  | .ok ρ' h' => ∀ (w' : Wd) (σ' : St), w'.h = h' → Ext w w' → Sim L ro w' → EnvR L w' ρ' σ' → Agree js σ σ' → Q σ' w'.H
  | .ex _ _ => False
  | .no => False
def GE (T : Tb) (L : Ln) (js : List Nat) (m : Val → Env → M Env) : TG := fun v σ H Q => ∃ w ρ u, w.H = H ∧ Sim L T.ro w ∧ EnvR L w ρ σ ∧ VR L w u v ∧ PostT L T.ro w σ js Q (m u ρ w.h)
def GEs (T : Tb) (L : Ln) (js : List Nat) (m : List Val → Env → M Env) : TGs := fun vs σ H Q => ∃ w ρ us, w.H = H ∧ Sim L T.ro w ∧ EnvR L w ρ σ ∧ VRs L w us vs ∧ PostT L T.ro w σ js Q (m us ρ w.h)
theorem PG.imp {t t' : TG} (h : PG X e t) (f : ∀ v σ H Q, t' v σ H Q → t v σ H Q) : PG X e t' := ⟨fun pins s σ H v u Q I r q => h.run pins s σ H v u Q I r (f v σ H Q q)⟩
theorem PGs.imp {t t' : TGs} (h : PGs X es t) (f : ∀ v σ H Q, t' v σ H Q → t v σ H Q) : PGs X es t' := ⟨fun pins s σ H v u Q I r q => h.run pins s σ H v u Q I r (f v σ H Q q)⟩
theorem setv_ok {i : Nat} {v : Val} {h : Hs} : (setv i v ρ h = .ok (ρ.set i (some v)) h ∧ i < ρ.length) ∨ setv i v ρ h = .no := by
  unfold setv
  split
  · rename_i hi; exact .inl ⟨rfl, hi⟩
  · exact .inr rfl
theorem sg_name {i : Nat} {y : Str} (x : XOk T C L A d X W sc) (h : ckStore X.N sc i y = true) : PG X (.Name y pos) (GE T L [i] fun v ρ => setv i v ρ) := by
  simp only [ckStore, Bool.and_eq_true, decide_eq_true_eq] at h
  obtain ⟨⟨h1, h2⟩, h3⟩ := h
  obtain ⟨l1, l2⟩ := x.loc h2
  refine PG.imp (pg_name x.nd h1 l1 l2) fun v σ H Q ⟨w, ρ, u, eH, S, E, r, p⟩ => ?_
  subst eH
  dsimp only at p
  rcases setv_ok (ρ := ρ) (i := i) (v := u) (h := w.h) with ⟨q, hi⟩ | q
  · rw [q] at p
    refine p w (σ.set i (some v)) rfl (Ext.refl w) S (E.set hi r) ⟨by rw [List.length_set], fun j hj => ?_⟩
    rw [List.getElem?_set_ne fun z => hj (by simp [z])]
  · rw [q] at p; exact p.elim
/-- the run behind a store that leaves the slots -/
theorem PostT.run {js : List Nat} {Q : St → Hp → Prop} {r : M Env} (E : EnvR L w ρ σ) (S : Sim L ro w) (hr : ∀ h ρ' h', r h = .ok ρ' h' → ρ' = ρ) (p : PostT L ro w σ js Q (nx r w.h)) : Post L ro (fun _ (ρ' : Env) (_ : Unit) => ρ' = ρ) W w σ (fun _ H => Q σ H) (r w.h) := by
  unfold nx at p
  cases q : r w.h with
  | ok ρ' h' =>
    rw [q] at p
    have eρ := hr _ _ _ q
    subst eρ
    exact fun w' u e x S' _ => p w' σ e x S' (E.ext S x) Agree.refl
  | ex z h' => rw [q] at p; exact p.elim
  | no => rw [q] at p; exact p.elim
theorem bnd_last {α : Type} {m : M α} {k : α → M Env} (hk : ∀ a h ρ' h', k a h = .ok ρ' h' → ρ' = ρ) : ∀ h ρ' h', bnd m k h = .ok ρ' h' → ρ' = ρ := fun h ρ' h' e => by
  cases q : m h with
  | ok a h2 => rw [bnd_ok q] at e; exact hk _ _ _ _ e
  | ex z h2 => rw [bnd_ex q] at e; cases e
  | no => rw [bnd_no q] at e; cases e
theorem ix_assign {env : PySem.Env} (hb : okTop b = true) : ∀ v, assign (.Subscript a b pos) env v = (do
      let ov ← holding [v] (eval a env)
      let iv ← holding [v, ov] (eval b env)
      standAt pos
      holding [v, ov, iv] (setItem ov iv v)
      release [v, ov, iv] []) := fun v => by
  cases b <;> first | rfl | (simp [okTop] at hb)
theorem sg_ix (x : XOk T C L A d X W sc) (hbt : okTop b = true) (ha : PE X a (RE T L W ma)) (hb : PE X b (RE T L W mb)) : PG X (.Subscript a b pos) (GE T L [] fun v ρ => nx (bnd (ma ρ) fun o => bnd (mb ρ) fun k => bnd (setIx o k v) fun _ => ret ρ)) := by
  refine PG.imp (pg_sub ha hb (set_S (L := L) (ro := T.ro) (by have := x.units; omega)) (ix_assign hbt)) fun v σ H Q ⟨w, ρ, u, eH, S, E, r, p⟩ => ?_
  subst eH
  have pp := PostT.run (W := W) E S (bnd_last fun _ => bnd_last fun _ => bnd_last fun _ _ _ _ e => by cases e; rfl) p
  refine stepE S E pp fun w1 o o' e1 S1 E1 r1 p1 => stepE S1 E1 p1 fun w2 k k' e2 S2 E2 r2 p2 => ?_
  unfold setIx at p2
  cases q : dput w2.h o k u with
  | none =>
    rw [bnd_no (by rw [q])] at p2; exact p2.elim
  | some h' =>
    rw [bnd_ok (a := ()) (h' := h') (by rw [q])] at p2
    exact ⟨w2, o, k, u, h', rfl, S2, r1.ext S1 e2, r2, (r.ext S e1).ext S1 e2, q, fun w' e' x' S' => p2 w' () e' x' S' rfl⟩
theorem attr_store {f : Nat} {v : V} {u : Val} {o : Val} {o' : V} {Q : Hp → Prop} (x : XOk T C L A d X W sc) (S : Sim L T.ro w) (ro' : VR L w o o') (ru : VR L w u v) {Q' : Unit → Hp → Prop} (p : Post L T.ro (fun _ (ρ' : Env) (_ : Unit) => ρ' = ρ) W w σ Q' (bnd (setF T.at_ o f u) (fun _ => ret ρ) w.h)) :
    ∃ l D dx gs, o' = .ref l ∧ w.H l = some (.ins D dx gs) ∧ Cls X.K D ∧ NoAttr X.K D (C.fN f) ∧ gs.length < 1000 ∧ Q' () (upd w.H l (.ins D dx (putF (C.fN f) v gs))) := by
  rcases setF_kinds (at_ := T.at_) (v := o) (u := u) (f := f) w.h with ⟨h', q⟩ | q
  · rw [bnd_ok q] at p
    obtain ⟨l, c, dx, gs, w', rfl, h1, h2, h3, e, x', S', eH⟩ := setF_of S ro' ru q
    obtain ⟨c1, c2⟩ := x.lk.attr _ _ h3
    have z := p w' () e x' S' rfl
    rw [eH, x.lk.fNe] at z
    exact ⟨l, _, dx, gs, rfl, h1, by rw [x.hK]; exact c1, by rw [x.hK]; exact c2, h2, z⟩
  · rw [bnd_no q] at p; exact p.elim
/-- o.f as a target -/
theorem pg_att {f : Str} {ta : TE} (ha : PE X a ta) : PG X (.Attribute a f pos) (fun v σ H Q => ta σ H fun o H1 => ∃ l D dx gs, o = .ref l ∧ H1 l = some (.ins D dx gs) ∧ Cls X.K D ∧ NoAttr X.K D f ∧ gs.length < 1000 ∧ Q σ (upd H1 l (.ins D dx (putF f v gs)))) := by
  refine ⟨fun pins s σ H v u Q I r q => ?_⟩
  have e : assign (.Attribute a f pos) X.env u = (do
    let ov ← holding [u] (eval a X.env)
    standAt pos.atName
    holding [u, ov] (setAttr ov f u)
    release [u, ov] []) := rfl
  rw [e]
  refine wpAny_bind (wpAny_holding (thn (ha.run pins s σ H _ I q) fun ov s1 ⟨o, H1, I1, r1, l, D, dx, gs, eo, h1, h2, h3, h4, q1⟩ => ?_))
  subst eo
  obtain rfl : ov = Value.ref l := r1
  refine wpAny_bind (wpAny_standAt (wpAny_bind (wpAny_holding (setattr_ok I1 h1 h2 h3 h4 r fun s' I' => ?_))))
  exact wpAny_release ⟨σ, _, I', q1⟩
theorem sg_att {f : Nat} (x : XOk T C L A d X W sc) (ha : PE X a (RE T L W ma)) : PG X (.Attribute a (C.fN f) pos) (GE T L [] fun v ρ => nx (bnd (ma ρ) fun o => bnd (setF T.at_ o f v) fun _ => ret ρ)) := by
  refine PG.imp (pg_att ha) fun v σ H Q ⟨w, ρ, u, eH, S, E, r, p⟩ => ?_
  subst eH
  have pp := PostT.run (W := W) E S (bnd_last fun _ => bnd_last fun _ _ _ _ e => by cases e; rfl) p
  exact stepE S E pp fun w1 o o' e1 S1 E1 r1 p1 => attr_store (Q := Q σ) x S1 r1 (r.ext S e1) p1
/-! ### several targets -/
theorem sg_nil : PGs X [] (GEs T L [] fun vs ρ => match vs with
    | [] => ret ρ
    | _ :: _ => no) := by
  refine PGs.imp pgs_nil fun vs σ H Q ⟨w, ρ, us, eH, S, E, r, p⟩ => ?_
  subst eH
  cases r with
  | nil => exact ⟨rfl, p w σ rfl (Ext.refl w) S E Agree.refl⟩
  | cons _ _ => exact p.elim
theorem sg_cons {js ks : List Nat} {m1 : Val → Env → M Env} {m2 : List Val → Env → M Env} (h : okTop a = true) (ha : PG X a (GE T L js m1)) (hr : PGs X es (GEs T L ks m2)) : PGs X (a :: es) (GEs T L (js ++ ks) fun vs ρ => match vs with
    | [] => no
    | v :: r => bnd (m1 v ρ) fun ρ' => m2 r ρ') := by
  refine PGs.imp (pgs_cons ha hr (by rw [tgt_ok h]; rfl)) fun vs σ H Q ⟨w, ρ, us, eH, S, E, r, p⟩ => ?_
  subst eH
  cases r with
  | nil => exact p.elim
  | @cons u y us' ys r rs =>
    refine ⟨y, ys, rfl, w, ρ, u, rfl, S, E, r, ?_⟩
    dsimp only at p
    cases q : m1 u ρ w.h with
    | ok ρ' h' =>
      rw [bnd_ok q] at p
      intro w1 σ1 e1 x1 S1 E1 a1
      subst e1
      refine ⟨w1, ρ', us', rfl, S1, E1, rs.ext S x1, ?_⟩
      cases q2 : m2 us' ρ' w1.h with
      | ok ρ2 h2 =>
        rw [q2] at p
        exact fun w2 σ2 e2 x2 S2 E2 a2 => p w2 σ2 e2 (x1.trans S1 x2) S2 E2 (a1.trans a2)
      | ex z h2 => rw [q2] at p; exact p
      | no => rw [q2] at p; exact p
    | ex z h' => rw [bnd_ex q] at p; exact p
    | no => rw [bnd_no q] at p; exact p
theorem sg_tup {js : List Nat} {k : Nat} {m2 : List Val → Env → M Env} (x : XOk T C L A d X W sc) (he : okEs es = true) (hl : ∀ vs ρ h ρ' h', m2 vs ρ h = .ok ρ' h' → vs.length = es.length) (hr : PGs X es (GEs T L js m2)) :
    PG X (.Tuple es k pos) (GE T L js fun v ρ => fun h => match itemsV T.ro h v with
      | some xs => m2 xs ρ h
      | none => .no) := by
  refine ⟨fun pins s σ H v u Q I r ⟨w, ρ, b, eH, S, E, rb, p⟩ => ?_⟩
  subst eH
  dsimp only at p
  split at p
  · rename_i xs q
    have hlen : xs.length = es.length := by
      cases q2 : m2 xs ρ w.h with
      | ok ρ' h' => exact hl _ _ _ _ _ q2
      | ex z h' => rw [q2] at p; exact p.elim
      | no => rw [q2] at p; exact p.elim
    obtain ⟨l, vs, rfl, rs, hq⟩ := items_of x.hK S rb q
    have t := tgts_ok (env := X.env) he
    have rd : GEs T L js m2 vs σ w.H Q := ⟨w, ρ, xs, rfl, S, E, rs, p⟩
    rcases hq with hq | hq
    · exact (pg_lst (k := k) (pos := pos) x.calm hr rfl t.2).run pins s σ w.H _ u Q I r ⟨l, vs, rfl, hq, by rw [t.1, ← hlen, rs.length], rd⟩
    · exact (pg_tup (k := k) (pos := pos) x.calm hr rfl t.2).run pins s σ w.H _ u Q I r ⟨l, vs, rfl, hq, by rw [t.1, ← hlen, rs.length], rd⟩
  · exact p.elim
end
end MP

set_option maxRecDepth 100000
namespace MP
open PySem L2
section
variable {T : Tb} {C : Cn} {L : Ln} {A : Fa} {d : Nat} {X : Cx} {W : WX} {sc : Scope} {ro : Ro} {w w' : Wd} {σ : St} {ρ : Env}
variable {a b c e : Expr} {es : List Expr} {ma mb mc : Env → M Val} {ms : Env → M (List Val)} {pos : Pos}
/-! ### a list that is being made -/
theorem ne_lst {D : Addr} {acc : List V} {p : Addr} {u : HO} (hD : w.H D = some (.lst acc)) (e : w.H p = some u) (hu : ∀ ys, u ≠ .lst ys) : p ≠ D := fun z => by
  subst z
  rw [hD] at e; cases e
  exact hu acc rfl
mutual
theorem VR.over {D : Addr} {acc : List V} {o : HO} (hD : w.H D = some (.lst acc)) : ∀ {v : Val} {x : V}, VR L w v x → VR L (w.lay D o) v x
  | _, _, .non => .non
  | _, _, .bl b => .bl b
  | _, _, .int i => .int i
  | _, _, .str x => .str x
  | _, _, .tup h r => .tup (by show upd w.H D o _ = _; rw [upd_ne (ne_lst hD h fun _ z => by cases z)]; exact h) (VRs.over hD r)
  | _, _, .ref h => .ref h
  | _, _, .cst c => .cst c
theorem VRs.over {D : Addr} {acc : List V} {o : HO} (hD : w.H D = some (.lst acc)) : ∀ {v : List Val} {x : List V}, VRs L w v x → VRs L (w.lay D o) v x
  | _, _, .nil => .nil
  | _, _, .cons a r => .cons (VR.over hD a) (VRs.over hD r)
end
theorem Sim.over {D : Addr} {acc : List V} {o : HO} (S : Sim L ro w) (hm : ¬ Mine w D) (hD : w.H D = some (.lst acc)) : Sim L ro (w.lay D o) := by
  refine ⟨fun n hn => ?_, S.inj, fun c xs q => ?_, fun c xs q => ?_⟩
  · have ne : w.ι n ≠ D := fun z => hm ⟨n, hn, z⟩
    have z := S.obj n hn
    show ObR L (w.lay D o) (w.h.ob n) (w.ι n)
    have k : (w.lay D o).H (w.ι n) = w.H (w.ι n) := upd_ne ne
    cases q : w.h.ob n with
    | nil => rw [q] at z; exact z
    | lst xs => rw [q] at z; obtain ⟨vs, r, h⟩ := z; exact ⟨vs, r.over hD, by rw [k]; exact h⟩
    | dK kvs => rw [q] at z; obtain ⟨vs, r, h⟩ := z; exact ⟨vs, Paired.imp' r fun _ _ y => ⟨y.1, y.2.over hD⟩, by rw [k]; exact h⟩
    | dT kvs => rw [q] at z; obtain ⟨vs, r, h⟩ := z; exact ⟨vs, Paired.imp' r fun _ _ y => ⟨y.1, y.2.over hD⟩, by rw [k]; exact h⟩
    | ins c fs =>
      rw [q] at z
      obtain ⟨dx, gs, r, h, ho⟩ := z
      exact ⟨dx, gs, Paired.imp' r fun _ _ y => ⟨y.1, y.2.over hD⟩, by rw [k]; exact h, by show upd w.H D o dx = _; rw [upd_ne (ne_lst hD ho fun _ z => by cases z)]; exact ho⟩
  · obtain ⟨vs, r, h⟩ := S.cst c xs q
    refine ⟨vs, r.over hD, ?_⟩
    rcases h with ⟨u, h⟩ | h
    · exact .inl ⟨u, by show upd w.H D o _ = _; rw [upd_ne (ne_lst hD h fun _ z => by cases z)]; exact h⟩
    · exact .inr h
  · obtain ⟨vs, r, h⟩ := S.cstT c xs q
    exact ⟨vs, r.over hD, h⟩
theorem Ext.notMine {D : Addr} {u : HO} (x : Ext w w') (e : w.H D = some u) (m : ¬ Mine w D) : ¬ Mine w' D := fun ⟨n, hn, q⟩ => by
  by_cases hl : n < w.h.sz
  · exact m ⟨n, hl, by rw [← x.io n hl]; exact q⟩
  · have := x.fresh n (Nat.le_of_not_lt hl) hn
    rw [q, e] at this; cases this
theorem Ext.over {w1 : Wd} {D : Addr} {o : HO} (x : Ext w1 w) (h1 : w1.H D = none) : Ext w1 (w.lay D o) := by
  refine ⟨x.sz, x.io, fun b u e m => ?_, x.fresh⟩
  show upd w.H D o b = some u
  rw [upd_ne (ne_of_none e h1)]
  exact x.keep b u e m
/-- it becomes ours -/
def Wd.adopt (w : Wd) (D : Addr) (o : Ob) : Wd := ⟨fun i => if i = w.h.sz then D else w.ι i, w.h.new o, w.H⟩
theorem adopt_at {D : Addr} {o : Ob} : (w.adopt D o).ι w.h.sz = D := by
  show (if w.h.sz = w.h.sz then D else w.ι w.h.sz) = D
  rw [if_pos rfl]
theorem Ext.adopt {D : Addr} {o : Ob} : (∀ n, n < w.h.sz → (w.adopt D o).ι n = w.ι n) := fun n hn => by
  show (if n = w.h.sz then D else w.ι n) = w.ι n
  rw [if_neg (Nat.ne_of_lt hn)]
mutual
theorem VR.adopt {D : Addr} {o : Ob} : ∀ {v : Val} {x : V}, VR L w v x → VR L (w.adopt D o) v x
  | _, _, .non => .non
  | _, _, .bl b => .bl b
  | _, _, .int i => .int i
  | _, _, .str x => .str x
  | _, _, .tup h r => .tup h (VRs.adopt r)
  | _, _, .ref (i := i) h => by
    rw [← Ext.adopt (w := w) (D := D) (o := o) i h]
    exact .ref (Nat.lt_succ_of_lt h)
  | _, _, .cst c => .cst c
theorem VRs.adopt {D : Addr} {o : Ob} : ∀ {v : List Val} {x : List V}, VRs L w v x → VRs L (w.adopt D o) v x
  | _, _, .nil => .nil
  | _, _, .cons a r => .cons (VR.adopt a) (VRs.adopt r)
end
theorem Sim.adopt {D : Addr} {acc : List V} {xs : List Val} (S : Sim L ro w) (hm : ¬ Mine w D) (hD : w.H D = some (.lst acc)) (r : VRs L w xs acc) : Sim L ro (w.adopt D (.lst xs)) := by
  have low := Ext.adopt (w := w) (D := D) (o := .lst xs)
  refine ⟨fun n hn => ?_, fun m n hm' hn q => ?_, fun c ys q => ?_, fun c ys q => ?_⟩
  · by_cases h : n = w.h.sz
    · subst h
      rw [adopt_at]
      show ObR L (w.adopt D (.lst xs)) (if w.h.sz = w.h.sz then .lst xs else w.h.ob w.h.sz) D
      rw [if_pos rfl]
      exact ⟨acc, r.adopt, hD⟩
    · have hl : n < w.h.sz := Nat.lt_of_le_of_ne (Nat.le_of_lt_succ hn) h
      rw [low n hl]
      show ObR L (w.adopt D (.lst xs)) (if n = w.h.sz then .lst xs else w.h.ob n) (w.ι n)
      rw [if_neg h]
      have z := S.obj n hl
      cases q : w.h.ob n with
      | nil => rw [q] at z; exact z
      | lst xs => rw [q] at z; obtain ⟨vs, r, h⟩ := z; exact ⟨vs, r.adopt, h⟩
      | dK kvs => rw [q] at z; obtain ⟨vs, r, h⟩ := z; exact ⟨vs, Paired.imp' r fun _ _ y => ⟨y.1, y.2.adopt⟩, h⟩
      | dT kvs => rw [q] at z; obtain ⟨vs, r, h⟩ := z; exact ⟨vs, Paired.imp' r fun _ _ y => ⟨y.1, y.2.adopt⟩, h⟩
      | ins c fs =>
        rw [q] at z
        obtain ⟨dx, gs, r, h, ho⟩ := z
        exact ⟨dx, gs, Paired.imp' r fun _ _ y => ⟨y.1, y.2.adopt⟩, h, ho⟩
  · by_cases h1 : m = w.h.sz
    · by_cases h2 : n = w.h.sz
      · rw [h1, h2]
      · have hl : n < w.h.sz := Nat.lt_of_le_of_ne (Nat.le_of_lt_succ hn) h2
        rw [h1, adopt_at, low n hl] at q
        exact absurd ⟨n, hl, q.symm⟩ hm
    · have hl' : m < w.h.sz := Nat.lt_of_le_of_ne (Nat.le_of_lt_succ hm') h1
      by_cases h2 : n = w.h.sz
      · rw [h2, adopt_at, low m hl'] at q
        exact absurd ⟨m, hl', q⟩ hm
      · have hl : n < w.h.sz := Nat.lt_of_le_of_ne (Nat.le_of_lt_succ hn) h2
        rw [low m hl', low n hl] at q
        exact S.inj m n hl' hl q
  · obtain ⟨vs, r, h⟩ := S.cst c ys q
    exact ⟨vs, r.adopt, h⟩
  · obtain ⟨vs, r, h⟩ := S.cstT c ys q
    exact ⟨vs, r.adopt, h⟩
theorem Ext.adopted {w1 : Wd} {D : Addr} {o : Ob} (x : Ext w1 w) (h1 : w1.H D = none) : Ext w1 (w.adopt D o) := by
  refine ⟨Nat.le_succ_of_le x.sz, fun n hn => ?_, x.keep, fun n h2 h3 => ?_⟩
  · rw [Ext.adopt n (Nat.lt_of_lt_of_le hn x.sz)]; exact x.io n hn
  · by_cases h : n = w.h.sz
    · subst h; rw [adopt_at]; exact h1
    · have hl : n < w.h.sz := Nat.lt_of_le_of_ne (Nat.le_of_lt_succ h3) h
      rw [Ext.adopt n hl]; exact x.fresh n h2 hl
/-! ### the block of a comprehension -/
theorem lookup_relabel {env : PySem.Env} : ∀ {names : List (Str × NameKind)} {x : Str} {k : NameKind}, names.lookup x = some k →
    (names.map fun (n, k) => if (k == NameKind.free && env.scope.kind == .function && env.kindOf n == some .cell) then (n, NameKind.cell) else (n, k)).lookup x = some k ∨
      (k = .free ∧ (names.map fun (n, k) => if (k == NameKind.free && env.scope.kind == .function && env.kindOf n == some .cell) then (n, NameKind.cell) else (n, k)).lookup x = some .cell)
  | [], _, _, h => by simp at h
  | (n, k₀) :: r, x, k, h => by
    have ih := @lookup_relabel env r x k
    show List.lookup x ((if (k₀ == NameKind.free && env.scope.kind == .function && env.kindOf n == some .cell) = true then (n, NameKind.cell) else (n, k₀)) :: (r.map _)) = some k ∨ (k = .free ∧ List.lookup x ((if (k₀ == NameKind.free && env.scope.kind == .function && env.kindOf n == some .cell) = true then (n, NameKind.cell) else (n, k₀)) :: (r.map _)) = some .cell)
    cases hx : x == n with
    | true =>
      simp only [List.lookup_cons, hx] at h
      cases h
      by_cases hc : (k₀ == NameKind.free && env.scope.kind == .function && env.kindOf n == some .cell) = true
      · right
        have hf : k₀ = .free := by
          simp only [Bool.and_eq_true, beq_iff_eq] at hc
          exact hc.1.1
        rw [if_pos hc]
        exact ⟨hf, by simp only [List.lookup_cons, hx]⟩
      · left
        rw [if_neg hc]
        simp only [List.lookup_cons, hx]
    | false =>
      simp only [List.lookup_cons, hx] at h
      by_cases hc : (k₀ == NameKind.free && env.scope.kind == .function && env.kindOf n == some .cell) = true
      · rw [if_pos hc]; simp only [List.lookup_cons, hx]; exact ih h
      · rw [if_neg hc]; simp only [List.lookup_cons, hx]; exact ih h
theorem XOk.blk (x : XOk T C L A d X W sc) {scope : Scope} (hs : scope.kind = .function) (s : Shared) (H : Hp) (B : Addr) (cl : List (Str × Addr)) (fp : List Addr) :
    XOk T C L A d (X.blk s H scope (PySem.compEnvC scope cl B X.env) fp) (fun _ _ _ _ => False) scope := by
  refine ⟨x.lk, x.hK, x.nd, x.room, x.calm, takes0, fun y k h => lookup_relabel h, fun y h => ?_, hs⟩
  rcases h with h | h
  · rcases lookup_relabel (env := X.env) h with z | ⟨z, _⟩
    · exact .inr z
    · cases z
  · left
    show (scope.names.lookup y == some .cell) = true
    rw [h]; rfl
theorem blk_ok (x : XOk T C L A d X W sc) {scope : Scope} {own : List (Str × Nat)} (h : blkC X.N sc scope own = true) : BlkOk X.N X.env.scope scope own := by
  have z := blkOk_by h
  refine ⟨z.kind, z.uniq, z.ix, fun y hy e => ?_, z.own⟩
  rcases z.free y hy e with q | q
  · rcases x.kind _ _ q with k | ⟨k, _⟩
    · exact .inl k
    · cases k
  · rcases x.kind _ _ q with k | ⟨_, k⟩
    · exact .inr k
    · exact .inl k
theorem PTs.imp {X : Cx} {es : List Expr} {t t' : TT} (h : PTs X es t) (f : ∀ σ H Q, t' σ H Q → t σ H Q) : PTs X es t' := ⟨fun pins s σ H Q I q => h.run pins s σ H Q I (f σ H Q q)⟩
theorem sf_nil : PTs X [] (RB T L W fun _ => ret true) := PTs.imp pts_nil fun σ H Q ⟨w, ρ, eH, S, E, p⟩ => by
  subst eH
  exact p w true rfl (Ext.refl w) S rfl
/-! ### comprehensions -/
theorem compL_noex (s : Src) (turn : Val → M (Option Val)) : ∀ (xs : List Val) (h : Hs) (z : Exc) (h' : Hs), compL s turn xs h = .ex z h' → False
  | [], h, z, h', e => by
    simp only [compL] at e
    split at e <;> cases e
  | x :: xs, h, z, h', e => by
    simp only [compL] at e
    split at e
    · cases q : nx (turn x) h with
      | ok o h2 =>
        rw [bnd_ok q] at e
        cases q2 : compL s turn xs h2 with
        | ok r h3 => rw [bnd_ok q2] at e; cases e
        | ex y h3 => exact compL_noex s turn xs h2 y h3 q2
        | no => rw [bnd_no q2] at e; cases e
      | ex y h2 =>
        unfold nx at q
        split at q <;> cases q
      | no => rw [bnd_no q] at e; cases e
    · cases e
theorem compL_cons {s : Src} {turn : Val → M (Option Val)} {x : Val} {xs : List Val} {h hf : Hs} {r : List Val} (e : compL s turn (x :: xs) h = .ok r hf) :
    s.chk h = true ∧ ∃ o h2 r', turn x h = .ok o h2 ∧ compL s turn xs h2 = .ok r' hf ∧ r = o.toList ++ r' := by
  simp only [compL] at e
  split at e
  · rename_i hc
    refine ⟨hc, ?_⟩
    cases q : turn x h with
    | ok o h2 =>
      have q' : nx (turn x) h = .ok o h2 := by unfold nx; rw [q]
      rw [bnd_ok q'] at e
      cases q2 : compL s turn xs h2 with
      | ok r' h3 =>
        rw [bnd_ok q2] at e
        cases e
        exact ⟨o, h2, r', rfl, q2, rfl⟩
      | ex y h3 => exact (compL_noex s turn xs h2 y h3 q2).elim
      | no => rw [bnd_no q2] at e; cases e
    | ex y h2 =>
      have q' : nx (turn x) h = .no := by unfold nx; rw [q]
      rw [bnd_no q'] at e; cases e
    | no =>
      have q' : nx (turn x) h = .no := by unfold nx; rw [q]
      rw [bnd_no q'] at e; cases e
  · cases e
theorem bnd_ok_inv {α β : Type} {m : M α} {f : α → M β} {h h' : Hs} {b : β} (e : bnd m f h = .ok b h') : ∃ a h2, m h = .ok a h2 ∧ f a h2 = .ok b h' := by
  cases q : m h with
  | ok a h2 => rw [bnd_ok q] at e; exact ⟨a, h2, rfl, e⟩
  | ex z h2 => rw [bnd_ex q] at e; cases e
  | no => rw [bnd_no q] at e; cases e
theorem wipe_wipe {vs : List Nat} {σ : St} : L2.wipe (L2.wipe σ vs) vs = L2.wipe σ vs := by
  apply List.ext_getElem?
  intro i
  rw [wipe_at, wipe_length]
  by_cases hi : i ∈ vs
  · rw [if_pos hi, wipe_at, if_pos hi]
  · rw [if_neg hi]
def turnM (mg : Val → Env → M Env) (mf : Env → M Bool) (me : Env → M Val) (own : List Nat) (ρ : Env) (x : Val) : M (Option Val) := bnd (mg x (MP.wipe ρ own)) fun ρ' => bnd (mf ρ') fun b =>
      if b = true then bnd (me ρ') fun y => ret (some y) else ret none
def compM (mi : Env → M Src) (mg : Val → Env → M Env) (mf : Env → M Bool) (me : Env → M Val) (own : List Nat) : Env → M Val := fun ρ => bnd (mi ρ) fun s => if s.items.length ≤ sizeLine then bnd (compL s (turnM mg mf me own ρ) s.items) fun vs => newO (.lst vs) else no
abbrev WF : WX := fun _ _ _ _ => False
theorem comp_read {mi : Env → M Src} {mg : Val → Env → M Env} {mf : Env → M Bool} {me : Env → M Val} {own js : List Nat} {H : Hp} {Q : VK} (hjs : ∀ j ∈ js, j ∈ own) (h : RE T L W (compM mi mg mf me own) σ H Q) :
    tLc (RI T L W mi) (GE T L js mg) (RB T L WF mf) (RE T L WF me) own σ H Q := by
  obtain ⟨w, ρ, eH, S, E, p⟩ := h
  subst eH
  refine stepE S E p fun w1 s J e1 S1 E1 hJ p1 => ?_
  intro D hD
  split at p1
  · rename_i hz
    cases q : compL s (turnM mg mf me own ρ) s.items w1.h with
    | ex z h' => exact (compL_noex _ _ _ _ _ _ q).elim
    | no => rw [bnd_no q] at p1; exact p1.elim
    | ok vs hf =>
      rw [bnd_ok q] at p1
      refine ⟨fun i m H' => ∃ w' acc accV rest, w'.H = H' ∧ Ext w1 w' ∧ Sim L T.ro w' ∧ H' D = some (.lst acc) ∧ ¬ Mine w' D ∧ VRs L w' accV acc ∧ i ≤ s.items.length ∧ m = s.items.length - i ∧ accV.length ≤ i ∧ compL s (turnM mg mf me own ρ) (s.items.drop i) w'.h = .ok rest hf ∧ accV ++ rest = vs,
        ⟨s.items.length, w1.lay D (.lst []), [], [], vs, rfl, Ext.lay hD, S1.lay hD, upd_same, ?_, .nil, Nat.zero_le _, rfl, Nat.le_refl _, q, rfl⟩, ?_⟩
      · exact S1.noneMine hD
      · rintro i m H' ⟨w', acc, accV, rest, rfl, x', S', hacc, nm, racc, hi, rfl, hai, hrun, hvs⟩
        have hJ' : ItOk L T.ro w' s J := hJ.ext S1 x'
        have E' : EnvR L w' ρ σ := E1.ext S1 x'
        by_cases hlt : i < s.items.length
        · right
          obtain ⟨v, hv⟩ : ∃ v, s.items[i]? = some v := ⟨s.items[i], List.getElem?_eq_getElem hlt⟩
          have hd : s.items.drop i = v :: s.items.drop (i + 1) := by
            rw [List.drop_eq_getElem_cons hlt]
            have : s.items[i] = v := by
              rw [List.getElem?_eq_getElem hlt] at hv; exact Option.some.inj hv
            rw [this]
          rw [hd] at hrun
          obtain ⟨hc, o, h2, r', ht, hrest, er⟩ := compL_cons hrun
          obtain ⟨hgo, Y, hy, xv, rx, hYx, huniq⟩ := hJ'.turn S' hc hv
          refine ⟨hgo, fun H2 => ∃ w' acc accV rest, w'.H = H2 ∧ Ext w1 w' ∧ Sim L T.ro w' ∧ H2 D = some (.lst acc) ∧ ¬ Mine w' D ∧ VRs L w' accV acc ∧ i + 1 ≤ s.items.length ∧ accV.length ≤ i + 1 ∧ compL s (turnM mg mf me own ρ) (s.items.drop (i + 1)) w'.h = .ok rest hf ∧ accV ++ rest = vs,
            fun H2 ⟨w2, a2, a3, r2, z1, z2, z3, z4, z5, z6, z7, z8, z9, z10⟩ => ⟨s.items.length - (i + 1), by omega, w2, a2, a3, r2, z1, z2, z3, z4, z5, z6, z7, rfl, z8, z9, z10⟩, fun y H2 hyld => ?_⟩
          obtain ⟨eH2, hYy⟩ := hy y H2 hyld
          subst eH2
          have ey := huniq y hYy
          subst ey
          obtain ⟨ρ', h3, g1, g2⟩ := bnd_ok_inv (show bnd (mg v (MP.wipe ρ own)) _ w'.h = _ from ht)
          refine ⟨w', MP.wipe ρ own, v, rfl, S', E'.wipe own, rx, ?_⟩
          rw [g1]
          intro w2 σ2 e2 x2 S2 E2 a2
          subst e2
          refine ⟨by rw [wipe_agree a2 hjs, wipe_wipe], w2, ρ', rfl, S2, E2, ?_⟩
          obtain ⟨bb, h4, f1, f2⟩ := bnd_ok_inv g2
          rw [f1]
          intro w3 b3 e3 x3 S3 hb
          cases hb
          subst e3
          have x13 : Ext w' w3 := x2.trans S2 x3
          cases bb with
          | true =>
            rw [if_pos rfl]
            refine ⟨w3, ρ', rfl, S3, E2.ext S2 x3, ?_⟩
            rw [if_pos rfl] at f2
            obtain ⟨y, h5, k1, k2⟩ := bnd_ok_inv f2
            rw [k1]
            intro w4 yv e4 x4 S4 r4
            subst e4
            have x14 : Ext w' w4 := x13.trans S3 x4
            have k4 := x14.keep D _ hacc nm
            have n4 := x14.notMine hacc nm
            cases k2
            refine ⟨acc, k4, by rw [← racc.length]; omega, w4.lay D (.lst (acc ++ [yv])), acc ++ [yv], accV ++ [y], r', rfl, (x'.trans S' x14).over hD, S4.over n4 k4, upd_same, n4, ?_, hlt, ?_, hrest, ?_⟩
            · exact VRs.append ((racc.ext S' x14).over k4) (.cons (r4.over k4) .nil)
            · rw [List.length_append]; simp; exact hai
            · rw [List.append_assoc, ← hvs, er]; rfl
          | false =>
            rw [if_neg Bool.false_ne_true] at f2 ⊢
            cases f2
            exact ⟨w3, acc, accV, r', rfl, x'.trans S' x13, S3, x13.keep D _ hacc nm, x13.notMine hacc nm, racc.ext S' x13, hlt, Nat.le_succ_of_le hai, hrest, by rw [← hvs, er]; rfl⟩
        · left
          have hie : i = s.items.length := Nat.le_antisymm hi (Nat.le_of_not_lt hlt)
          subst hie
          rw [List.drop_length] at hrun
          simp only [compL] at hrun
          split at hrun
          · rename_i hc
            cases hrun
            refine ⟨hJ'.stop S' hc, ?_⟩
            rw [List.append_nil] at hvs
            subst hvs
            have z := p1 (w'.adopt D (.lst accV)) (.ref ((w'.adopt D (.lst accV)).ι w'.h.sz)) rfl (x'.adopted hD) (S'.adopt nm hacc racc) (.ref (Nat.lt_succ_self _))
            rw [adopt_at] at z
            exact z
          · cases hrun
  · exact p1.elim
end
end MP

set_option maxRecDepth 100000
set_option maxHeartbeats 4000000
namespace MP
open PySem L2
section
variable {T : Tb} {C : Cn} {L : Ln} {A : Fa} {d : Nat} {X : Cx} {W : WX} {sc : Scope} {ro : Ro} {w w' : Wd} {σ : St} {ρ : Env}
variable {a b c e : Expr} {es : List Expr} {ma mb mc : Env → M Val} {ms : Env → M (List Val)} {pos : Pos}
/-! ### and, or -/
theorem se_and1 (ha : PE X a (RE T L W ma)) (hat : PT X a (RB T L W fun ρ => bnd (ma ρ) (truV T.ro))) :
    PE X (.BoolOp .And [a] pos) (RE T L W fun ρ => bnd (ma ρ) fun x => bnd (asB x) fun b => ret (.bl b)) ∧ PW X (.BoolOp .And [a] pos) (RB T L W fun ρ => bnd (bnd (ma ρ) fun x => bnd (asB x) fun b => ret (.bl b)) (truV T.ro)) := by
  refine ⟨PE.imp (pe_one ha) fun σ H Q ⟨w, ρ, eH, S, E, p⟩ => ?_, ⟨fun wh pins s σ H Q I ⟨w, ρ, eH, S, E, p⟩ => (pw_and1 hat).run wh pins s σ H Q I ?_⟩⟩
  · subst eH
    exact stepE S E p fun w1 v y e1 S1 E1 r1 p1 => by
      obtain ⟨b, rfl, rfl, p2⟩ := Post.bool r1 p1
      exact p2.now S1 (.bl _)
  · subst eH
    refine test_of_bool (k := fun b => ret b) S E ?_ fun w1 b e1 S1 E1 p1 => p1 w1 b rfl (Ext.refl _) S1 rfl
    simp only [bnd_assoc] at p ⊢
    exact p
theorem se_or1 (ha : PE X a (RE T L W ma)) (hat : PT X a (RB T L W fun ρ => bnd (ma ρ) (truV T.ro))) :
    PE X (.BoolOp .Or [a] pos) (RE T L W fun ρ => bnd (ma ρ) fun x => bnd (asB x) fun b => ret (.bl b)) ∧ PW X (.BoolOp .Or [a] pos) (RB T L W fun ρ => bnd (bnd (ma ρ) fun x => bnd (asB x) fun b => ret (.bl b)) (truV T.ro)) := by
  refine ⟨PE.imp (pe_one ha) fun σ H Q ⟨w, ρ, eH, S, E, p⟩ => ?_, ⟨fun wh pins s σ H Q I ⟨w, ρ, eH, S, E, p⟩ => (pw_or1 hat).run wh pins s σ H Q I ?_⟩⟩
  · subst eH
    exact stepE S E p fun w1 v y e1 S1 E1 r1 p1 => by
      obtain ⟨b, rfl, rfl, p2⟩ := Post.bool r1 p1
      exact p2.now S1 (.bl _)
  · subst eH
    refine test_of_bool (k := fun b => ret b) S E ?_ fun w1 b e1 S1 E1 p1 => p1 w1 b rfl (Ext.refl _) S1 rfl
    simp only [bnd_assoc] at p ⊢
    exact p
theorem se_and2 {mr : Env → M Val} (ha : PE X a (RE T L W ma)) (hat : PT X a (RB T L W fun ρ => bnd (ma ρ) (truV T.ro)))
    (hr : PE X (.BoolOp .And (b :: es) pos) (RE T L W mr) ∧ PW X (.BoolOp .And (b :: es) pos) (RB T L W fun ρ => bnd (mr ρ) (truV T.ro))) :
    PE X (.BoolOp .And (a :: b :: es) pos) (RE T L W fun ρ => bnd (ma ρ) fun x => bnd (asB x) fun b => if b = true then mr ρ else ret (.bl false)) ∧
      PW X (.BoolOp .And (a :: b :: es) pos) (RB T L W fun ρ => bnd (bnd (ma ρ) fun x => bnd (asB x) fun b => if b = true then mr ρ else ret (.bl false)) (truV T.ro)) := by
  refine ⟨PE.imp (pe_and ha hr.1) fun σ H Q ⟨w, ρ, eH, S, E, p⟩ => ?_, ⟨fun wh pins s σ H Q I ⟨w, ρ, eH, S, E, p⟩ => (pw_and hat hr.2).run wh pins s σ H Q I ?_⟩⟩
  · subst eH
    exact stepE S E p fun w1 v y e1 S1 E1 r1 p1 => by
      obtain ⟨b, rfl, rfl, p2⟩ := Post.bool r1 p1
      refine ⟨b, rfl, ?_⟩
      cases b with
      | true => exact ⟨w1, ρ, rfl, S1, E1, p2⟩
      | false => exact p2.now S1 (.bl _)
  · subst eH
    refine test_of_bool (Q := Q) (k := fun b => bnd (if b = true then mr ρ else ret (.bl false)) (truV T.ro)) S E ?_ fun w1 b e1 S1 E1 p1 => ?_
    · simp only [bnd_assoc] at p ⊢
      exact p
    · cases b with
      | true => exact ⟨w1, ρ, rfl, S1, E1, p1⟩
      | false => exact p1 w1 false rfl (Ext.refl _) S1 rfl
theorem se_or2 {mr : Env → M Val} (ha : PE X a (RE T L W ma)) (hat : PT X a (RB T L W fun ρ => bnd (ma ρ) (truV T.ro)))
    (hr : PE X (.BoolOp .Or (b :: es) pos) (RE T L W mr) ∧ PW X (.BoolOp .Or (b :: es) pos) (RB T L W fun ρ => bnd (mr ρ) (truV T.ro))) :
    PE X (.BoolOp .Or (a :: b :: es) pos) (RE T L W fun ρ => bnd (ma ρ) fun x => bnd (asB x) fun b => if b = true then ret (.bl true) else mr ρ) ∧
      PW X (.BoolOp .Or (a :: b :: es) pos) (RB T L W fun ρ => bnd (bnd (ma ρ) fun x => bnd (asB x) fun b => if b = true then ret (.bl true) else mr ρ) (truV T.ro)) := by
  refine ⟨PE.imp (pe_or ha hr.1) fun σ H Q ⟨w, ρ, eH, S, E, p⟩ => ?_, ⟨fun wh pins s σ H Q I ⟨w, ρ, eH, S, E, p⟩ => (pw_or hat hr.2).run wh pins s σ H Q I ?_⟩⟩
  · subst eH
    exact stepE S E p fun w1 v y e1 S1 E1 r1 p1 => by
      obtain ⟨b, rfl, rfl, p2⟩ := Post.bool r1 p1
      refine ⟨b, rfl, ?_⟩
      cases b with
      | true => exact p2.now S1 (.bl _)
      | false => exact ⟨w1, ρ, rfl, S1, E1, p2⟩
  · subst eH
    refine test_of_bool (Q := Q) (k := fun b => bnd (if b = true then ret (.bl true) else mr ρ) (truV T.ro)) S E ?_ fun w1 b e1 S1 E1 p1 => ?_
    · simp only [bnd_assoc] at p ⊢
      exact p
    · cases b with
      | true => exact p1 w1 true rfl (Ext.refl _) S1 rfl
      | false => exact ⟨w1, ρ, rfl, S1, E1, p1⟩
/-! ### texts -/
theorem se_fmt (ha : PE X a (RE T L W ma)) : PE X (.FormattedValue a (-1) none pos) (RE T L W fun ρ => bnd (ma ρ) fmtV) :=
  PE.imp (pe_fmt ha) fun σ H Q ⟨w, ρ, eH, S, E, p⟩ => by
    subst eH
    exact stepE S E p fun w1 v y e1 S1 E1 r1 p1 => by
      cases r1 with
      | str z =>
        simp only [fmtV] at p1
        split at p1
        · rename_i hz
          exact .inl ⟨z, rfl, hz, p1.now S1 (.str _)⟩
        · exact p1.elim
      | int i =>
        simp only [fmtV] at p1
        split at p1
        · rename_i hz
          exact .inr ⟨i, rfl, hz, p1.now S1 (.str _)⟩
        · exact p1.elim
      | _ => exact p1.elim
/-- the parts of a joined text -/
def FsOk (T : Tb) (L : Ln) (X : Cx) (W : WX) (xs : List Expr) (m : Str → Env → M Val) : Prop := ∃ ts, PJ X xs ts ∧ ∀ (acc : Str) (w : Wd) (σ : St) (ρ : Env) (Q : VK), Sim L T.ro w → EnvR L w ρ σ → Post L T.ro (VR L) W w σ Q (m acc ρ w.h) → tJs ts acc σ w.H fun out H1 => Q (.str out) H1
theorem sj_nil : FsOk T L X W [] fun acc _ => ret (.str acc) := ⟨[], .nil, fun acc w σ ρ Q S E p => p.now S (.str acc)⟩
theorem sj_cons {m : Str → Env → M Val} (ha : PE X a (RE T L W ma)) (hr : FsOk T L X W es m) : FsOk T L X W (a :: es) fun acc ρ => bnd (ma ρ) fun x => match x with
    | .str y => if (acc ++ y).length ≤ sizeLine then m (acc ++ y) ρ else no
    | _ => no := by
  obtain ⟨ts, h1, h2⟩ := hr
  refine ⟨RE T L W ma :: ts, .cons ha h1, fun acc w σ ρ Q S E p => ?_⟩
  exact stepE S E p fun w1 v y e1 S1 E1 r1 p1 => by
    cases r1 with
    | str z =>
      dsimp only at p1
      split at p1
      · rename_i hz
        exact ⟨z, rfl, hz, h2 _ _ _ _ _ S1 E1 p1⟩
      · exact p1.elim
    | _ => exact p1.elim
theorem se_fs {m : Str → Env → M Val} (h : FsOk T L X W (a :: b :: es) m) : PE X (.JoinedStr (a :: b :: es) pos) (RE T L W fun ρ => m Str.empty ρ) := by
  obtain ⟨ts, h1, h2⟩ := h
  refine PE.imp (pe_joined h1) fun σ H Q ⟨w, ρ, eH, S, E, p⟩ => ?_
  subst eH
  exact h2 Str.empty w σ ρ Q S E p
/-! ### comprehensions -/
theorem se_comp {tg it el : Expr} {fs : List Expr} {scope : Scope} {own js : List Nat} {mi : Env → M Src} {mg : Val → Env → M Env} {mf : Env → M Bool} {me : Env → M Val} (x : XOk T C L A d X W sc)
    (ht : okTop it = true) (hb : blkC X.N sc scope (own.filterMap fun j => (X.N[j]?).map fun x => (x, j)) = true) (ho : (own.filterMap fun j => (X.N[j]?).map fun x => (x, j)).map (·.2) = own) (hjs : ∀ j ∈ js, j ∈ own)
    (hi : PI X tg it (RI T L W mi)) (hg : ∀ X' W', XOk T C L A d X' W' scope → X'.N = X.N → PG X' tg (GE T L js mg)) (hf : ∀ X' , XOk T C L A d X' WF scope → X'.N = X.N → PTs X' fs (RB T L WF mf)) (he : ∀ X', XOk T C L A d X' WF scope → X'.N = X.N → PE X' el (RE T L WF me)) :
    PE X (.ListComp el [⟨tg, it, fs, 0⟩] scope pos) (RE T L W (compM mi mg mf me own)) := by
  have bo := blk_ok x hb
  refine PE.imp (pe_lc (own := own.filterMap fun j => (X.N[j]?).map fun x => (x, j)) (g := GE T L js mg) (tt := RB T L WF mf) (te := RE T L WF me) x.calm x.nd hi bo
    (fun s H B cl fp => hg _ _ (x.blk bo.kind s H B cl fp) rfl) (fun s H B cl fp => hf _ (x.blk bo.kind s H B cl fp) rfl) (fun s H B cl fp => he _ (x.blk bo.kind s H B cl fp) rfl) (folded_ok ht)) fun σ H Q h => ?_
  rw [ho]
  exact comp_read hjs h
mutual
theorem tgIn_js {own : List Nat} : ∀ {t : MT}, tgIn own t = true → ∀ j ∈ mtS t, j ∈ own
  | .v i, h, j, hj => by
    simp only [tgIn, decide_eq_true_eq] at h
    simp only [mtS, List.mem_singleton] at hj
    subst hj; exact h
  | .tup ts, h, j, hj => by
    simp only [tgIn] at h
    exact tgsIn_js h j hj
  | .ix _ _, h, _, _ => by simp [tgIn] at h
  | .att _ _, h, _, _ => by simp [tgIn] at h
theorem tgsIn_js {own : List Nat} : ∀ {t : MTs}, tgsIn own t = true → ∀ j ∈ mtsS t, j ∈ own
  | .nil, _, j, hj => by simp [mtsS] at hj
  | .cons t r, h, j, hj => by
    simp only [tgsIn, Bool.and_eq_true] at h
    simp only [mtsS, List.mem_append] at hj
    rcases hj with hj | hj
    · exact tgIn_js h.1 j hj
    · exact tgsIn_js h.2 j hj
end
theorem asgTs_len : ∀ {ts : MTs} {cl : CallF} {es : List Expr} {N : List Str} {vs : List Val} {ρ : Env} {h : Hs} {ρ' : Env} {h' : Hs}, ckTs C N sc ts es = true → asgTs T cl ts vs ρ h = .ok ρ' h' → vs.length = es.length
  | .nil, _, [], _, [], _, _, _, _, _, _ => rfl
  | .nil, _, [], _, _ :: _, _, _, _, _, _, e => by simp [asgTs, no] at e
  | .nil, _, _ :: _, _, _, _, _, _, _, h, _ => by simp [ckTs] at h
  | .cons _ _, _, [], _, _, _, _, _, _, h, _ => by simp [ckTs] at h
  | .cons _ _, _, _ :: _, _, [], _, _, _, _, _, e => by simp [asgTs, no] at e
  | .cons t r, cl, x :: xs, N, v :: vs, ρ, h, ρ', h', hc, e => by
    simp only [ckTs, Bool.and_eq_true] at hc
    simp only [asgTs] at e
    obtain ⟨ρ2, h2, _, e2⟩ := bnd_ok_inv e
    rw [List.length_cons, List.length_cons, asgTs_len hc.2 e2]
end
/-- an expression's readings -/
structure SE (T : Tb) (L : Ln) (X : Cx) (W : WX) (e : Expr) (m : Env → M Val) : Prop where
  pe : PE X e (RE T L W m)
  pt : PT X e (RB T L W fun ρ => bnd (m ρ) (truV T.ro))
section
variable {T : Tb} {C : Cn} {L : Ln} {A : Fa} {d : Nat} {X : Cx} {W : WX} {sc : Scope} {e : Expr} {m : Env → M Val}
/-- not a form that tests in its own way -/
theorem SE.of (x : XOk T C L A d X W sc) (h : PE X e (RE T L W m)) (he : ∀ whole, isTrue e X.env whole = (do let v ← whole; standAt e.pos; holding [v] (truthy v)) := by intro _; rfl) : SE T L X W e m := ⟨h, ste_of x h he⟩
end
end MP

set_option maxRecDepth 100000
set_option maxHeartbeats 4000000
namespace MP
open PySem L2
section
variable {T : Tb} {C : Cn} {L : Ln} {A : Fa} {d : Nat}
mutual
theorem sndE : ∀ (m : ME) (X : Cx) (W : WX) (sc : Scope) (e : Expr), XOk T C L A d X W sc → ckE C X.N sc m e = true → SE T L X W e (evE T (callD T d) m)
  | .non, X, W, sc, e, x, h => by
    cases e with
    | Constant v k p =>
      cases v with
      | none => exact SE.of x (se_const pe_non fun _ => .non)
      | _ => exact absurd h Bool.false_ne_true
    | _ => exact absurd h Bool.false_ne_true
  | .bl b, X, W, sc, e, x, h => by
    cases e with
    | Constant v k p =>
      cases v with
      | bool c =>
        simp only [ckE, beq_iff_eq] at h
        subst h
        exact SE.of x (se_const pe_bl fun _ => .bl _)
      | _ => exact absurd h Bool.false_ne_true
    | _ => exact absurd h Bool.false_ne_true
  | .int i, X, W, sc, e, x, h => by
    cases e with
    | Constant v k p =>
      cases v with
      | int c =>
        simp only [ckE, decide_eq_true_eq] at h
        subst h
        exact SE.of x (se_const pe_int fun _ => .int _)
      | _ => exact absurd h Bool.false_ne_true
    | _ => exact absurd h Bool.false_ne_true
  | .str i, X, W, sc, e, x, h => by
    cases e with
    | Constant v k p =>
      cases v with
      | str c =>
        simp only [ckE, decide_eq_true_eq] at h
        subst h
        exact SE.of x (se_const pe_str fun _ => .str _)
      | _ => exact absurd h Bool.false_ne_true
    | _ => exact absurd h Bool.false_ne_true
  | .v i, X, W, sc, e, x, h => by
    cases e with
    | Name y p => exact SE.of x (se_var x h)
    | _ => exact absurd h Bool.false_ne_true
  | .g i, X, W, sc, e, x, h => by
    cases e with
    | Name y p => exact SE.of x (se_glob x h)
    | _ => exact absurd h Bool.false_ne_true
  | .tup es, X, W, sc, e, x, h => by
    cases e with
    | Tuple xs k p => exact SE.of x (se_tup (sndEs es X W sc xs x h))
    | _ => exact absurd h Bool.false_ne_true
  | .lst es, X, W, sc, e, x, h => by
    cases e with
    | List xs p => exact SE.of x (se_lst (sndEs es X W sc xs x h))
    | _ => exact absurd h Bool.false_ne_true
  | .dK0, X, W, sc, e, x, h => by
    cases e with
    | Dict ks vs p =>
      cases ks with
      | nil =>
        cases vs with
        | nil => exact SE.of x se_dK0
        | cons _ _ => exact absurd h Bool.false_ne_true
      | cons _ _ => exact absurd h Bool.false_ne_true
    | _ => exact absurd h Bool.false_ne_true
  | .dT0, X, W, sc, e, x, h => by
    cases e with
    | Dict ks vs p =>
      cases ks with
      | nil =>
        cases vs with
        | nil => exact SE.of x se_dT0
        | cons _ _ => exact absurd h Bool.false_ne_true
      | cons _ _ => exact absurd h Bool.false_ne_true
    | _ => exact absurd h Bool.false_ne_true
  | .bin op a b, X, W, sc, e, x, h => by
    cases e with
    | BinOp u o v p =>
      simp only [ckE, Bool.and_eq_true, decide_eq_true_eq] at h
      obtain ⟨⟨rfl, h1⟩, h2⟩ := h
      exact SE.of x (se_bin x (sndE a X W sc u x h1).pe (sndE b X W sc v x h2).pe)
    | _ => exact absurd h Bool.false_ne_true
  | .neg a, X, W, sc, e, x, h => by
    cases e with
    | UnaryOp o u p =>
      cases o with
      | USub => exact SE.of x (se_neg (sndE a X W sc u x h).pe)
      | _ => exact absurd h Bool.false_ne_true
    | _ => exact absurd h Bool.false_ne_true
  | .cmp op a b, X, W, sc, e, x, h => by
    cases e with
    | Compare u os vs p =>
      match os, vs, h with
      | [o], [v], h =>
        simp only [ckE, Bool.and_eq_true, decide_eq_true_eq] at h
        obtain ⟨⟨rfl, h1⟩, h2⟩ := h
        have ha := (sndE a X W sc u x h1).pe
        have hb := (sndE b X W sc v x h2).pe
        exact ⟨se_cmp x ha hb (ckE_top h2), ste_cmp x ha hb (ckE_top h2)⟩
      | [], _, h => exact absurd h Bool.false_ne_true
      | [_], [], h => exact absurd h Bool.false_ne_true
      | [_], _ :: _ :: _, h => exact absurd h Bool.false_ne_true
      | _ :: _ :: _, _, h => exact absurd h Bool.false_ne_true
    | _ => exact absurd h Bool.false_ne_true
  | .chain op op' a b c, X, W, sc, e, x, h => by
    cases e with
    | Compare u os vs p =>
      match os, vs, h with
      | [o, o'], [v, z], h =>
        simp only [ckE, Bool.and_eq_true, decide_eq_true_eq] at h
        obtain ⟨⟨⟨⟨rfl, rfl⟩, h1⟩, h2⟩, h3⟩ := h
        have ha := (sndE a X W sc u x h1).pe
        have hb := (sndE b X W sc v x h2).pe
        have hc := (sndE c X W sc z x h3).pe
        exact ⟨se_chain x ha hb hc (ckE_top h3), ste_chain x ha hb hc (ckE_top h3)⟩
      | [], _, h => exact absurd h Bool.false_ne_true
      | [_], _, h => exact absurd h Bool.false_ne_true
      | [_, _], [], h => exact absurd h Bool.false_ne_true
      | [_, _], [_], h => exact absurd h Bool.false_ne_true
      | [_, _], _ :: _ :: _ :: _, h => exact absurd h Bool.false_ne_true
      | _ :: _ :: _ :: _, _, h => exact absurd h Bool.false_ne_true
    | _ => exact absurd h Bool.false_ne_true
  | .and es, X, W, sc, e, x, h => by
    cases e with
    | BoolOp o xs p =>
      cases o with
      | And =>
        cases xs with
        | nil => simp [ckE] at h
        | cons y ys =>
          simp only [ckE, Bool.and_eq_true] at h
          obtain ⟨h1, h2⟩ := sndAnd es X W sc y ys p x h.1
          exact ⟨h1, h2.pt⟩
      | Or => exact absurd h Bool.false_ne_true
    | _ => exact absurd h Bool.false_ne_true
  | .or es, X, W, sc, e, x, h => by
    cases e with
    | BoolOp o xs p =>
      cases o with
      | Or =>
        cases xs with
        | nil => simp [ckE] at h
        | cons y ys =>
          simp only [ckE, Bool.and_eq_true] at h
          obtain ⟨h1, h2⟩ := sndOr es X W sc y ys p x h.1
          exact ⟨h1, h2.pt⟩
      | And => exact absurd h Bool.false_ne_true
    | _ => exact absurd h Bool.false_ne_true
  | .not a, X, W, sc, e, x, h => by
    cases e with
    | UnaryOp o u p =>
      cases o with
      | Not =>
        have z := sndE a X W sc u x h
        exact ⟨se_not z.pe, ste_not z.pt⟩
      | _ => exact absurd h Bool.false_ne_true
    | _ => exact absurd h Bool.false_ne_true
  | .ife c a b, X, W, sc, e, x, h => by
    cases e with
    | IfExp t u v p =>
      simp only [ckE, Bool.and_eq_true] at h
      have hc := sndE c X W sc t x h.1.1
      have ha := sndE a X W sc u x h.1.2
      have hb := sndE b X W sc v x h.2
      exact ⟨se_if hc.pt ha.pe hb.pe, ste_if hc.pt ha.pt hb.pt⟩
    | _ => exact absurd h Bool.false_ne_true
  | .ix a b, X, W, sc, e, x, h => by
    cases e with
    | Subscript u v p =>
      simp only [ckE, Bool.and_eq_true] at h
      exact SE.of x (se_ix x (sndE a X W sc u x h.1.1).pe (sndE b X W sc v x h.1.2).pe h.2)
    | _ => exact absurd h Bool.false_ne_true
  | .sl a lo hi, X, W, sc, e, x, h => by
    cases e with
    | Subscript u v p =>
      cases v with
      | Slice l r st q =>
        cases st with
        | none =>
          simp only [ckE, Bool.and_eq_true] at h
          exact SE.of x (se_sl x (sndE a X W sc u x h.1.1).pe (sndO lo X W sc l x h.1.2) (sndO hi X W sc r x h.2))
        | some _ => exact absurd h Bool.false_ne_true
      | _ => exact absurd h Bool.false_ne_true
    | _ => exact absurd h Bool.false_ne_true
  | .rev a, X, W, sc, e, x, h => by
    match e, h with
    | .Subscript u (.Slice none none (some (.UnaryOp .USub (.Constant (.int i) k p1) p2)) p3) p, h =>
      simp only [ckE, Bool.and_eq_true, decide_eq_true_eq] at h
      obtain ⟨h1, rfl⟩ := h
      exact SE.of x (se_rev x (sndE a X W sc u x h1).pe)
  | .att a f, X, W, sc, e, x, h => by
    cases e with
    | Attribute u nm p =>
      simp only [ckE, Bool.and_eq_true, decide_eq_true_eq] at h
      obtain ⟨⟨h1, h2⟩, rfl⟩ := h
      exact SE.of x (se_att x (sndE a X W sc u x h1).pe h2)
    | _ => exact absurd h Bool.false_ne_true
  | .call f es, X, W, sc, e, x, h => by
    cases e with
    | Call fn xs ks p =>
      cases fn with
      | Name y q =>
        cases ks with
        | nil =>
          simp only [ckE, Bool.and_eq_true] at h
          obtain ⟨⟨⟨h1, h2⟩, h3⟩, h4⟩ := h
          cases xs with
          | nil =>
            cases es with
            | nil => exact SE.of x (se_call0 x h1 h4)
            | cons _ _ => simp [ckEs] at h2
          | cons z zs => exact SE.of x (se_call1 x h1 h4 h3 (sndEs es X W sc (z :: zs) x h2))
        | cons _ _ => exact absurd h Bool.false_ne_true
      | _ => exact absurd h Bool.false_ne_true
    | _ => exact absurd h Bool.false_ne_true
  | .meth m a es, X, W, sc, e, x, h => by
    cases e with
    | Call fn xs ks p =>
      cases fn with
      | Attribute u nm ap =>
        cases ks with
        | nil =>
          simp only [ckE, Bool.and_eq_true, decide_eq_true_eq] at h
          obtain ⟨⟨⟨⟨⟨⟨h1, h2⟩, rfl⟩, h3⟩, h4⟩, h5⟩, h6⟩ := h
          have ha := (sndE a X W sc u x h1).pe
          cases xs with
          | nil =>
            cases es with
            | nil => exact SE.of x (se_meth0 x h2 h6 ha)
            | cons _ _ => simp [ckEs] at h3
          | cons z zs => exact SE.of x (se_meth1 x h2 h4 h5 h6 ha (sndEs es X W sc (z :: zs) x h3))
        | cons _ _ => exact absurd h Bool.false_ne_true
      | _ => exact absurd h Bool.false_ne_true
    | _ => exact absurd h Bool.false_ne_true
  | .make c es, X, W, sc, e, x, h => by
    cases e with
    | Call fn xs ks p =>
      cases fn with
      | Name y q =>
        cases ks with
        | nil =>
          simp only [ckE, Bool.and_eq_true] at h
          obtain ⟨⟨⟨h1, h2⟩, h3⟩, h4⟩ := h
          cases xs with
          | nil =>
            cases es with
            | nil => exact SE.of x (se_make0 x h1 h4)
            | cons _ _ => simp [ckEs] at h2
          | cons z zs => exact SE.of x (se_make1 x h1 h4 h3 (sndEs es X W sc (z :: zs) x h2))
        | cons _ _ => exact absurd h Bool.false_ne_true
      | _ => exact absurd h Bool.false_ne_true
    | _ => exact absurd h Bool.false_ne_true
  | .bi b es, X, W, sc, e, x, h => by
    cases e with
    | Call fn xs ks p =>
      cases fn with
      | Name y q =>
        cases ks with
        | nil =>
          simp only [ckE, Bool.and_eq_true] at h
          obtain ⟨⟨⟨h1, h2⟩, h3⟩, h4⟩ := h
          cases xs with
          | nil => simp at h4
          | cons z zs => exact SE.of x (se_bi x h1 h3 (sndEs es X W sc (z :: zs) x h2))
        | cons _ _ => exact absurd h Bool.false_ne_true
      | _ => exact absurd h Bool.false_ne_true
    | _ => exact absurd h Bool.false_ne_true
  | .bm m a es, X, W, sc, e, x, h => by
    cases e with
    | Call fn xs ks p =>
      cases fn with
      | Attribute u nm ap =>
        cases ks with
        | nil =>
          simp only [ckE, Bool.and_eq_true, decide_eq_true_eq] at h
          obtain ⟨⟨⟨⟨⟨⟨h1, h2⟩, rfl⟩, h3⟩, h4⟩, h5⟩, h6⟩ := h
          have ha := (sndE a X W sc u x h1).pe
          cases xs with
          | nil =>
            cases es with
            | nil =>
              cases m with
              | append => exact SE.of x (se_bm0 x PySem.F.plainAttrs_list PySem.F.slot_list_append PySem.F.type_list_append mt_appendS h2 h6 ha)
              | extend => exact SE.of x (se_bm0 x PySem.F.plainAttrs_list PySem.F.slot_list_extend PySem.F.type_list_extend mt_extendS h2 h6 ha)
              | pop => exact SE.of x (se_bm0 x PySem.F.plainAttrs_list PySem.F.slot_list_pop PySem.F.type_list_pop mt_popS h2 h6 ha)
              | clear => exact SE.of x (se_bm0 x PySem.F.plainAttrs_list PySem.F.slot_list_clear PySem.F.type_list_clear mt_clearS h2 h6 ha)
            | cons _ _ => simp [ckEs] at h3
          | cons z zs =>
            have hs := sndEs es X W sc (z :: zs) x h3
            cases m with
            | append => exact SE.of x (se_bm1 x PySem.F.plainAttrs_list PySem.F.slot_list_append PySem.F.type_list_append mt_appendS h2 h4 h5 h6 ha hs)
            | extend => exact SE.of x (se_bm1 x PySem.F.plainAttrs_list PySem.F.slot_list_extend PySem.F.type_list_extend mt_extendS h2 h4 h5 h6 ha hs)
            | pop => exact SE.of x (se_bm1 x PySem.F.plainAttrs_list PySem.F.slot_list_pop PySem.F.type_list_pop mt_popS h2 h4 h5 h6 ha hs)
            | clear => exact SE.of x (se_bm1 x PySem.F.plainAttrs_list PySem.F.slot_list_clear PySem.F.type_list_clear mt_clearS h2 h4 h5 h6 ha hs)
        | cons _ _ => exact absurd h Bool.false_ne_true
      | _ => exact absurd h Bool.false_ne_true
    | _ => exact absurd h Bool.false_ne_true
  | .comp own elt tg it ifs, X, W, sc, e, x, h => by
    cases e with
    | ListComp el gs scope p =>
      match gs, h with
      | [⟨t, i, fs, k⟩], h =>
        simp only [ckE, Bool.and_eq_true, decide_eq_true_eq] at h
        obtain ⟨⟨⟨⟨⟨⟨⟨⟨rfl, h1⟩, h2⟩, h3⟩, h4⟩, h5⟩, h6⟩, h7⟩, h8⟩ := h
        refine SE.of x ?_
        exact se_comp (own := own) (js := mtS tg) x h2 h3 h4 (tgIn_js h6) (sndI it X W sc i t x h1)
          (fun X' W' x' hN => sndT tg X' W' scope t x' (by rw [hN]; exact h5)) (fun X' x' hN => sndF ifs X' WF scope fs x' (by rw [hN]; exact h8)) (fun X' x' hN => (sndE elt X' WF scope el x' (by rw [hN]; exact h7)).pe)
      | [], h => exact absurd h Bool.false_ne_true
      | ⟨_, _, _, _⟩ :: _ :: _, h => exact absurd h Bool.false_ne_true
    | _ => exact absurd h Bool.false_ne_true
  | .fmt a, X, W, sc, e, x, h => by
    cases e with
    | FormattedValue u k sp p =>
      cases sp with
      | none =>
        simp only [ckE, Bool.and_eq_true, decide_eq_true_eq] at h
        obtain ⟨h1, rfl⟩ := h
        exact SE.of x (se_fmt (sndE a X W sc u x h1).pe)
      | some _ => exact absurd h Bool.false_ne_true
    | _ => exact absurd h Bool.false_ne_true
  | .fs es, X, W, sc, e, x, h => by
    cases e with
    | JoinedStr xs p =>
      match xs, h with
      | y :: z :: xs, h => exact SE.of x (se_fs (sndFs es X W sc (y :: z :: xs) x h))
      | [], h => exact absurd h Bool.false_ne_true
      | [_], h => exact absurd h Bool.false_ne_true
    | _ => exact absurd h Bool.false_ne_true
theorem sndEs : ∀ (m : MEs) (X : Cx) (W : WX) (sc : Scope) (es : List Expr), XOk T C L A d X W sc → ckEs C X.N sc m es = true → PA X es (RA T L W (evEs T (callD T d) m))
  | .nil, X, W, sc, es, x, h => by
    cases es with
    | nil => exact se_nil
    | cons _ _ => exact absurd h Bool.false_ne_true
  | .cons a r, X, W, sc, es, x, h => by
    cases es with
    | nil => exact absurd h Bool.false_ne_true
    | cons y ys =>
      simp only [ckEs, Bool.and_eq_true] at h
      exact se_cons (ckE_top h.1) (sndE a X W sc y x h.1).pe (sndEs r X W sc ys x h.2)
theorem sndFs : ∀ (m : MEs) (X : Cx) (W : WX) (sc : Scope) (es : List Expr), XOk T C L A d X W sc → ckEs C X.N sc m es = true → FsOk T L X W es (evFs T (callD T d) m)
  | .nil, X, W, sc, es, x, h => by
    cases es with
    | nil => exact sj_nil
    | cons _ _ => exact absurd h Bool.false_ne_true
  | .cons a r, X, W, sc, es, x, h => by
    cases es with
    | nil => exact absurd h Bool.false_ne_true
    | cons y ys =>
      simp only [ckEs, Bool.and_eq_true] at h
      exact sj_cons (sndE a X W sc y x h.1).pe (sndFs r X W sc ys x h.2)
theorem sndAnd : ∀ (m : MEs) (X : Cx) (W : WX) (sc : Scope) (y : Expr) (ys : List Expr) (p : Pos), XOk T C L A d X W sc → ckEs C X.N sc m (y :: ys) = true →
    PE X (.BoolOp .And (y :: ys) p) (RE T L W (evAnd T (callD T d) m)) ∧ PW X (.BoolOp .And (y :: ys) p) (RB T L W fun ρ => bnd (evAnd T (callD T d) m ρ) (truV T.ro))
  | .nil, X, W, sc, y, ys, p, x, h => absurd h Bool.false_ne_true
  | .cons a .nil, X, W, sc, y, ys, p, x, h => by
    simp only [ckEs, Bool.and_eq_true] at h
    have z := sndE a X W sc y x h.1
    cases ys with
    | nil => exact se_and1 z.pe z.pt
    | cons _ _ => simp [ckEs] at h
  | .cons a (.cons b r), X, W, sc, y, ys, p, x, h => by
    simp only [ckEs, Bool.and_eq_true] at h
    have z := sndE a X W sc y x h.1
    cases ys with
    | nil => simp [ckEs] at h
    | cons y' ys' => exact se_and2 z.pe z.pt (sndAnd (.cons b r) X W sc y' ys' p x h.2)
theorem sndOr : ∀ (m : MEs) (X : Cx) (W : WX) (sc : Scope) (y : Expr) (ys : List Expr) (p : Pos), XOk T C L A d X W sc → ckEs C X.N sc m (y :: ys) = true →
    PE X (.BoolOp .Or (y :: ys) p) (RE T L W (evOr T (callD T d) m)) ∧ PW X (.BoolOp .Or (y :: ys) p) (RB T L W fun ρ => bnd (evOr T (callD T d) m ρ) (truV T.ro))
  | .nil, X, W, sc, y, ys, p, x, h => absurd h Bool.false_ne_true
  | .cons a .nil, X, W, sc, y, ys, p, x, h => by
    simp only [ckEs, Bool.and_eq_true] at h
    have z := sndE a X W sc y x h.1
    cases ys with
    | nil => exact se_or1 z.pe z.pt
    | cons _ _ => simp [ckEs] at h
  | .cons a (.cons b r), X, W, sc, y, ys, p, x, h => by
    simp only [ckEs, Bool.and_eq_true] at h
    have z := sndE a X W sc y x h.1
    cases ys with
    | nil => simp [ckEs] at h
    | cons y' ys' => exact se_or2 z.pe z.pt (sndOr (.cons b r) X W sc y' ys' p x h.2)
theorem sndO : ∀ (m : MO) (X : Cx) (W : WX) (sc : Scope) (o : Option Expr), XOk T C L A d X W sc → ckO C X.N sc m o = true → PO X o (RO T L W (evO T (callD T d) m))
  | .none, X, W, sc, o, x, h => by
    cases o with
    | none => exact se_onone
    | some _ => exact absurd h Bool.false_ne_true
  | .some a, X, W, sc, o, x, h => by
    cases o with
    | none => exact absurd h Bool.false_ne_true
    | some y => exact se_osome (sndE a X W sc y x h).pe
theorem sndF : ∀ (m : MO) (X : Cx) (W : WX) (sc : Scope) (fs : List Expr), XOk T C L A d X W sc → ckFs C X.N sc m fs = true → PTs X fs (RB T L W (evIf T (callD T d) m))
  | .none, X, W, sc, fs, x, h => by
    cases fs with
    | nil => exact sf_nil
    | cons _ _ => exact absurd h Bool.false_ne_true
  | .some a, X, W, sc, fs, x, h => by
    match fs, h with
    | [y], h => exact pts_one (sndE a X W sc y x h).pt
    | [], h => exact absurd h Bool.false_ne_true
    | _ :: _ :: _, h => exact absurd h Bool.false_ne_true
theorem sndI : ∀ (m : MI) (X : Cx) (W : WX) (sc : Scope) (e tg : Expr), XOk T C L A d X W sc → ckI C X.N sc m e = true → PI X tg e (RI T L W (evI T (callD T d) m))
  | .val a, X, W, sc, e, tg, x, h => si_val x (sndE a X W sc e x h).pe
  | .range es, X, W, sc, e, tg, x, h => by
    cases e with
    | Call fn xs ks p =>
      cases fn with
      | Name y q =>
        cases ks with
        | nil =>
          simp only [ckI, Bool.and_eq_true] at h
          obtain ⟨⟨⟨⟨h1, h2⟩, h3⟩, h4⟩, h5⟩ := h
          cases xs with
          | nil => simp at h4
          | cons z zs => exact si_range x h1 h3 (sndEs es X W sc (z :: zs) x h2)
        | cons _ _ => exact absurd h Bool.false_ne_true
      | _ => exact absurd h Bool.false_ne_true
    | _ => exact absurd h Bool.false_ne_true
  | .enum a, X, W, sc, e, tg, x, h => absurd h Bool.false_ne_true
theorem sndT : ∀ (m : MT) (X : Cx) (W : WX) (sc : Scope) (e : Expr), XOk T C L A d X W sc → ckT C X.N sc m e = true → PG X e (GE T L (mtS m) (asgT T (callD T d) m))
  | .v i, X, W, sc, e, x, h => by
    cases e with
    | Name y p => exact sg_name x h
    | _ => exact absurd h Bool.false_ne_true
  | .tup ts, X, W, sc, e, x, h => by
    cases e with
    | Tuple xs k p =>
      simp only [ckT, Bool.and_eq_true] at h
      exact sg_tup x h.2 (fun vs ρ hh ρ' h' q => asgTs_len h.1 q) (sndTs ts X W sc xs x h.1 h.2)
    | _ => exact absurd h Bool.false_ne_true
  | .ix o i, X, W, sc, e, x, h => by
    cases e with
    | Subscript u v p =>
      simp only [ckT, Bool.and_eq_true] at h
      exact sg_ix x h.2 (sndE o X W sc u x h.1.1.1).pe (sndE i X W sc v x h.1.1.2).pe
    | _ => exact absurd h Bool.false_ne_true
  | .att a f, X, W, sc, e, x, h => by
    cases e with
    | Attribute u nm p =>
      simp only [ckT, Bool.and_eq_true, decide_eq_true_eq] at h
      obtain ⟨⟨h1, h2⟩, rfl⟩ := h
      exact sg_att x (sndE a X W sc u x h1).pe
    | _ => exact absurd h Bool.false_ne_true
theorem sndTs : ∀ (m : MTs) (X : Cx) (W : WX) (sc : Scope) (es : List Expr), XOk T C L A d X W sc → ckTs C X.N sc m es = true → okEs es = true → PGs X es (GEs T L (mtsS m) (asgTs T (callD T d) m))
  | .nil, X, W, sc, es, x, h, ho => by
    cases es with
    | nil =>
      refine PGs.imp (sg_nil (T := T) (L := L)) fun vs σ H Q ⟨w, ρ, us, z⟩ => ⟨w, ρ, us, z.1, z.2.1, z.2.2.1, z.2.2.2.1, ?_⟩
      have q := z.2.2.2.2
      cases us <;> exact q
    | cons _ _ => exact absurd h Bool.false_ne_true
  | .cons t r, X, W, sc, es, x, h, ho => by
    cases es with
    | nil => exact absurd h Bool.false_ne_true
    | cons y ys =>
      simp only [ckTs, Bool.and_eq_true] at h
      simp only [okEs, Bool.and_eq_true] at ho
      refine PGs.imp (sg_cons ho.1 (sndT t X W sc y x h.1) (sndTs r X W sc ys x h.2 ho.2)) fun vs σ H Q ⟨w, ρ, us, z⟩ => ⟨w, ρ, us, z.1, z.2.1, z.2.2.1, z.2.2.2.1, ?_⟩
      have q := z.2.2.2.2
      cases us <;> exact q
end
end
end MP

set_option maxRecDepth 100000
set_option maxHeartbeats 4000000
namespace MP
open PySem L2
section
variable {T : Tb} {C : Cn} {L : Ln} {A : Fa} {d : Nat} {X : Cx} {W : WX} {sc : Scope} {ro : Ro} {w w' w1 : Wd} {σ : St} {ρ : Env} {D : Ends}
variable {a b c e : Expr} {es : List Expr} {ma mb mc : Env → M Val} {ms : Env → M (List Val)} {pos : Pos}
/-- what is wanted behind a statement's run -/
def PostS (L : Ln) (ro : Ro) (W : WX) (w : Wd) (D : Ends) : RS → Prop
  | .fl (.nx ρ') h' => ∀ (w' : Wd) (σ' : St), w'.h = h' → Ext w w' → Sim L ro w' → EnvR L w' ρ' σ' → D.nx σ' w'.H
  | .fl (.bk ρ') h' => ∀ (w' : Wd) (σ' : St), w'.h = h' → Ext w w' → Sim L ro w' → EnvR L w' ρ' σ' → D.bk σ' w'.H
  | .fl (.ct ρ') h' => ∀ (w' : Wd) (σ' : St), w'.h = h' → Ext w w' → Sim L ro w' → EnvR L w' ρ' σ' → D.ct σ' w'.H
  | .fl (.rt v) h' => ∀ (w' : Wd) (x : V), w'.h = h' → Ext w w' → Sim L ro w' → VR L w' v x → D.rt x w'.H
  | .ex e ρ' h' => ∀ (w' : Wd) (σ' : St) (d : Option Addr), w'.h = h' → Ext w w' → Sim L ro w' → EnvR L w' ρ' σ' → W (.ref (L.cA e.cls)) d σ' w'.H
  | .no => False
/-- the reading of a statement -/
def RSt (T : Tb) (L : Ln) (W : WX) (m : SS) : TS := fun D σ H => ∃ w ρ, w.H = H ∧ Sim L T.ro w ∧ EnvR L w ρ σ ∧ PostS L T.ro W w D (m ρ w.h)
theorem PostS.step {r : RS} (S1 : Sim L ro w1) (e : Ext w w1) (p : PostS L ro W w D r) : PostS L ro W w1 D r := by
  cases r with
  | fl f h =>
    cases f with
    | nx ρ' => exact fun w' x q e' s' z => p w' x q (e.trans S1 e') s' z
    | bk ρ' => exact fun w' x q e' s' z => p w' x q (e.trans S1 e') s' z
    | ct ρ' => exact fun w' x q e' s' z => p w' x q (e.trans S1 e') s' z
    | rt v => exact fun w' x q e' s' z => p w' x q (e.trans S1 e') s' z
  | ex x ρ' h => exact fun w' σ' d q e' s' z => p w' σ' d q (e.trans S1 e') s' z
  | no => exact p
theorem stepS {α β : Type} {Rel : Rl α β} {Q' : β → Hp → Prop} {m : Env → M α} {f : α → Hs → RS} (S : Sim L ro w) (E : EnvR L w ρ σ) (p : PostS L ro W w D (wth (m ρ) ρ f w.h))
    (hk : ∀ w1 a x, Ext w w1 → Sim L ro w1 → EnvR L w1 ρ σ → Rel w1 a x → PostS L ro W w1 D (f a w1.h) → Q' x w1.H) : RG L ro Rel W m σ w.H Q' := by
  refine ⟨w, ρ, rfl, S, E, ?_⟩
  unfold wth at p
  cases q : m ρ w.h with
  | ok a h' =>
    rw [q] at p
    intro w1 x e1 x1 s1 r1
    subst e1
    exact hk w1 a x x1 s1 (E.ext S x1) r1 (p.step s1 x1)
  | ex x h' =>
    rw [q] at p
    intro w1 dd e1 x1 s1
    exact p w1 σ dd e1 x1 s1 (E.ext S x1)
  | no => rw [q] at p; exact p
theorem wth_bnd {α β : Type} {m : M α} {k : α → M β} {f : β → Hs → RS} : wth (bnd m k) ρ f = wth m ρ fun a h => wth (k a) ρ f h := by
  funext h
  unfold wth bnd
  cases m h <;> rfl
theorem ss_nil : PSs X [] (RSt T L W fun ρ h => .fl (.nx ρ) h) := PSs.imp pss_nil fun D σ H ⟨w, ρ, eH, S, E, p⟩ => by
  subst eH
  exact p w σ rfl (Ext.refl w) S E
theorem ss_cons {st : Stmt} {r : List Stmt} {m n : SS} (h1 : PS X st (RSt T L W m)) (h2 : PSs X r (RSt T L W n)) : PSs X (st :: r) (RSt T L W (seqS m n)) :=
  PSs.imp (pss_cons h1 h2) fun D σ H ⟨w, ρ, eH, S, E, p⟩ => by
    subst eH
    refine ⟨w, ρ, rfl, S, E, ?_⟩
    unfold seqS at p
    cases q : m ρ w.h with
    | fl f h =>
      rw [q] at p
      cases f with
      | nx ρ' =>
        intro w1 σ1 e1 x1 S1 E1
        subst e1
        exact ⟨w1, ρ', rfl, S1, E1, p.step S1 x1⟩
      | bk ρ' => exact p
      | ct ρ' => exact p
      | rt v => exact p
    | ex x ρ' h => rw [q] at p; exact p
    | no => rw [q] at p; exact p
theorem ss_pass : PS X (.Pass pos) (RSt T L W fun ρ h => .fl (.nx ρ) h) := PS.imp ps_pass fun D σ H ⟨w, ρ, eH, S, E, p⟩ => by
  subst eH
  exact p w σ rfl (Ext.refl w) S E
theorem ss_doc {x j p2} : PS X (.Expr (.Constant (.str x) j p2) pos) (RSt T L W fun ρ h => .fl (.nx ρ) h) := PS.imp ps_doc fun D σ H ⟨w, ρ, eH, S, E, p⟩ => by
  subst eH
  exact p w σ rfl (Ext.refl w) S E
theorem ss_brk : PS X (.Break pos) (RSt T L W fun ρ h => .fl (.bk ρ) h) := PS.imp ps_break fun D σ H ⟨w, ρ, eH, S, E, p⟩ => by
  subst eH
  exact p w σ rfl (Ext.refl w) S E
theorem ss_cont : PS X (.Continue pos) (RSt T L W fun ρ h => .fl (.ct ρ) h) := PS.imp ps_continue fun D σ H ⟨w, ρ, eH, S, E, p⟩ => by
  subst eH
  exact p w σ rfl (Ext.refl w) S E
theorem ss_retN : PS X (.Return none pos) (RSt T L W fun _ h => .fl (.rt .non) h) := PS.imp ps_retN fun D σ H ⟨w, ρ, eH, S, E, p⟩ => by
  subst eH
  exact p w .non rfl (Ext.refl w) S .non
theorem ss_ret (he : PE X e (RE T L W ma)) : PS X (.Return (some e) pos) (RSt T L W fun ρ => wth (ma ρ) ρ fun v h => .fl (.rt v) h) := PS.imp (ps_ret he) fun D σ H ⟨w, ρ, eH, S, E, p⟩ => by
  subst eH
  exact stepS S E p fun w1 v y e1 S1 E1 r1 p1 => p1 w1 y rfl (Ext.refl w1) S1 r1
theorem sw_none (h : notComp e = true) {l : Nat} {env : PySem.Env} {t : Option Expr} : swapsWith e t l env = pure false := by
  cases e <;> first | rfl | (simp [notComp] at h)
theorem ss_expr (he : PE X e (RE T L W ma)) (hn : notComp e = true) : PS X (.Expr e pos) (RSt T L W fun ρ => wth (ma ρ) ρ fun _ h => .fl (.nx ρ) h) := PS.imp (ps_expr he (sw_none hn)) fun D σ H ⟨w, ρ, eH, S, E, p⟩ => by
  subst eH
  exact stepS S E p fun w1 v y e1 S1 E1 r1 p1 => p1 w1 σ rfl (Ext.refl w1) S1 E1
theorem asg_read {mg : Val → Env → M Env} {js : List Nat} {H : Hp} (h : RSt T L W (fun ρ => wth (bnd (ma ρ) fun x => nx (mg x ρ)) ρ fun ρ' h => .fl (.nx ρ') h) D σ H) : tAsg (RE T L W ma) (GE T L js mg) D σ H := by
  obtain ⟨w, ρ, eH, S, E, p⟩ := h
  subst eH
  dsimp only at p
  rw [wth_bnd] at p
  refine stepS S E p fun w1 v y e1 S1 E1 r1 p1 => ⟨w1, ρ, v, rfl, S1, E1, r1, ?_⟩
  unfold wth nx at p1
  cases q : mg v ρ w1.h with
  | ok ρ' h' =>
    rw [q] at p1
    exact fun w2 σ2 e2 x2 S2 E2 _ => p1 w2 σ2 e2 x2 S2 E2
  | ex z h' => rw [q] at p1; exact p1
  | no => rw [q] at p1; exact p1
theorem ss_asg {tg : Expr} {js : List Nat} {mg : Val → Env → M Env} (he : PE X e (RE T L W ma)) (hg : PG X tg (GE T L js mg)) (ht : okTop tg = true) (hs : swapsWithSole [tg] e pos.line X.env = pure false) (hw : swappedStores [tg] e X.env = pure none) :
    PS X (.Assign [tg] e pos) (RSt T L W fun ρ => wth (bnd (ma ρ) fun x => nx (mg x ρ)) ρ fun ρ' h => .fl (.nx ρ') h) :=
  PS.imp (ps_asg he hg hs hw (by rw [tgt_ok ht]; rfl)) fun D σ H h => asg_read h
theorem ss_if {xs ys : List Stmt} {m n : SS} (hc : PT X c (RB T L W fun ρ => bnd (mc ρ) (truV T.ro))) (ha : PSs X xs (RSt T L W m)) (hb : PSs X ys (RSt T L W n)) :
    PS X (.If c xs ys pos) (RSt T L W fun ρ => wth (bnd (mc ρ) (truV T.ro)) ρ fun k h => if k = true then m ρ h else n ρ h) := PS.imp (ps_if hc ha hb) fun D σ H ⟨w, ρ, eH, S, E, p⟩ => by
  subst eH
  refine stepS (m := fun ρ => bnd (mc ρ) (truV T.ro)) (Rel := EqR') S E p fun w1 k k' e1 S1 E1 r1 p1 => ?_
  cases r1
  cases k with
  | true => exact ⟨w1, ρ, rfl, S1, E1, p1⟩
  | false => exact ⟨w1, ρ, rfl, S1, E1, p1⟩
theorem EnvR.getv (E : EnvR L w ρ σ) {i : Nat} {v : Val} {h h' : Hs} (q : MP.getv i ρ h = .ok v h') : h' = h ∧ ∃ y, σ[i]? = some (some y) ∧ VR L w v y := by
  unfold MP.getv at q
  cases e : ρ[i]? with
  | none => rw [e] at q; cases q
  | some o =>
    rw [e] at q
    cases o with
    | none => cases q
    | some u =>
      cases q
      obtain ⟨y, e1, r⟩ := E.at_ i _ e
      exact ⟨rfl, y, e1, r⟩
theorem getv_kinds {i : Nat} {h : Hs} : (∃ v, MP.getv i ρ h = .ok v h) ∨ MP.getv i ρ h = .no := by
  unfold MP.getv
  cases e : ρ[i]? with
  | none => exact .inr rfl
  | some o =>
    cases o with
    | none => exact .inr rfl
    | some u => exact .inl ⟨u, rfl⟩
theorem ss_aug {i : Nat} {y : Str} {p2 : Pos} (x : XOk T C L A d X W sc) (h : ckStore X.N sc i y = true) (he : PE X e (RE T L W ma)) :
    PS X (.AugAssign (.Name y p2) .Add e pos) (RSt T L W fun ρ => wth (bnd (MP.getv i ρ) fun x => bnd (ma ρ) fun y => bnd (iaddV x y) fun z => setv i z ρ) ρ fun ρ' h => .fl (.nx ρ') h) := by
  simp only [ckStore, Bool.and_eq_true, decide_eq_true_eq] at h
  obtain ⟨⟨h1, h2⟩, h3⟩ := h
  obtain ⟨l1, l2⟩ := x.loc h2
  refine PS.imp (ps_aug (i := i) x.nd h1 l1 he (op_iaddS (L := L) (ro := T.ro)) l2) fun D σ H ⟨w, ρ, eH, S, E, p⟩ => ?_
  subst eH
  dsimp only at p
  simp only [wth_bnd] at p
  rcases getv_kinds (ρ := ρ) (i := i) (h := w.h) with ⟨v, q⟩ | q
  · obtain ⟨_, y, e1, r⟩ := E.getv q
    unfold wth at p
    rw [q] at p
    refine ⟨y, e1, stepS (m := ma) S E p fun w1 u y' x1 S1 E1 r1 p1 => ?_⟩
    refine ⟨w1, v, u, σ, W, rfl, S1, r.ext S x1, r1, ?_⟩
    cases q2 : iaddV v u w1.h with
    | ok z h2 =>
      rw [q2] at p1
      intro w2 z' e2 x2 S2 r2
      subst e2
      have E2 := E1.ext S1 x2
      dsimp only at p1
      rcases setv_ok (ρ := ρ) (i := i) (v := z) (h := w2.h) with ⟨q3, hi⟩ | q3
      · rw [q3] at p1
        exact p1 w2 _ rfl x2 S2 (E2.set hi r2)
      · rw [q3] at p1; exact p1.elim
    | ex z h2 =>
      rw [q2] at p1
      intro w2 dd e2 x2 S2
      exact p1 w2 σ dd e2 x2 S2 (E1.ext S1 x2)
    | no => rw [q2] at p1; exact p1
  · unfold wth at p
    rw [q] at p; exact p.elim
/-! ### loops -/
theorem ss_while {xs : List Stmt} {m : SS} {fu : Nat} (hp : PassesOwn (model X.prog X.w) X.A X.env X.xe) (hc : PT X c (RB T L W fun ρ => bnd (mc ρ) (truV T.ro))) (hb : PSs X xs (RSt T L W m)) :
    PS X (.While c xs [] pos) (RSt T L W fun ρ h => whileS (fun ρ => bnd (mc ρ) (truV T.ro)) m fu ρ h) := PS.imp (ps_while hp hc hb) fun D σ H ⟨w, ρ, eH, S, E, p⟩ => by
  subst eH
  refine ⟨fun k σ' H' => ∃ w' ρ', w'.H = H' ∧ Sim L T.ro w' ∧ EnvR L w' ρ' σ' ∧ PostS L T.ro W w' D (whileS (fun ρ => bnd (mc ρ) (truV T.ro)) m k ρ' w'.h), ⟨fu, w, ρ, rfl, S, E, p⟩, ?_⟩
  rintro k σ' H' ⟨w', ρ', rfl, S', E', p'⟩
  cases k with
  | zero => exact p'.elim
  | succ k =>
    refine stepS (m := fun ρ => bnd (mc ρ) (truV T.ro)) (Rel := EqR') S' E' p' fun w1 b b' e1 S1 E1 r1 p1 => ?_
    cases r1
    cases b with
    | false => exact p1 w1 σ' rfl (Ext.refl w1) S1 E1
    | true =>
      rw [if_pos rfl] at p1 ⊢
      refine ⟨fun σ2 H2 => ∃ w' ρ', w'.H = H2 ∧ Sim L T.ro w' ∧ EnvR L w' ρ' σ2 ∧ PostS L T.ro W w' D (whileS (fun ρ => bnd (mc ρ) (truV T.ro)) m k ρ' w'.h), fun σ2 H2 z => ⟨k, Nat.lt_succ_self k, z⟩, w1, ρ', rfl, S1, E1, ?_⟩
      cases q : m ρ' w1.h with
      | fl f h =>
        rw [q] at p1
        cases f with
        | nx ρ2 => exact fun w2 σ2 e2 x2 S2 E2 => ⟨w2, ρ2, rfl, S2, E2, by subst e2; exact p1.step S2 x2⟩
        | ct ρ2 => exact fun w2 σ2 e2 x2 S2 E2 => ⟨w2, ρ2, rfl, S2, E2, by subst e2; exact p1.step S2 x2⟩
        | bk ρ2 => exact p1
        | rt v => exact p1
      | ex z ρ2 h => rw [q] at p1; exact p1
      | no => rw [q] at p1; exact p1
def turnS (mg : Val → Env → M Env) (m : SS) : Val → SS := fun x ρ => wth (nx (mg x ρ)) ρ fun ρ' h => m ρ' h
theorem ss_for {tg it : Expr} {xs : List Stmt} {mi : Env → M Src} {mg : Val → Env → M Env} {js : List Nat} {m : SS} (hp : PassesOwn (model X.prog X.w) X.A X.env X.xe) (hc : X.calm = true) (ht : okTop it = true)
    (hi : PI X tg it (RI T L W mi)) (hg : PG X tg (GE T L js mg)) (hb : PSs X xs (RSt T L W m)) :
    PS X (.For tg it xs [] pos) (RSt T L W fun ρ => wth (mi ρ) ρ fun s h => loopS s (turnS mg m) s.items ρ h) := PS.imp (ps_for hp hc hi hg hb (folded_ok ht)) fun D σ H ⟨w, ρ, eH, S, E, p⟩ => by
  subst eH
  refine stepS S E p fun w1 s J e1 S1 E1 hJ p1 => ?_
  refine ⟨fun i k σ' H' => ∃ w' ρ', w'.H = H' ∧ Ext w1 w' ∧ Sim L T.ro w' ∧ EnvR L w' ρ' σ' ∧ i ≤ s.items.length ∧ k = s.items.length - i ∧ PostS L T.ro W w' D (loopS s (turnS mg m) (s.items.drop i) ρ' w'.h),
    ⟨s.items.length, w1, ρ, rfl, Ext.refl w1, S1, E1, Nat.zero_le _, rfl, p1⟩, ?_⟩
  rintro i k σ' H' ⟨w', ρ', rfl, x', S', E', hi, hk, p'⟩
  have hJ' : ItOk L T.ro w' s J := hJ.ext S1 x'
  by_cases hlt : i < s.items.length
  · right
    obtain ⟨v, hv⟩ : ∃ v, s.items[i]? = some v := ⟨s.items[i], List.getElem?_eq_getElem hlt⟩
    have hd : s.items.drop i = v :: s.items.drop (i + 1) := by
      rw [List.drop_eq_getElem_cons hlt]
      have : s.items[i] = v := by
        rw [List.getElem?_eq_getElem hlt] at hv; exact Option.some.inj hv
      rw [this]
    rw [hd] at p'
    simp only [loopS] at p'
    split at p'
    · rename_i hch
      obtain ⟨hgo, Y, hy, xv, rx, hYx, huniq⟩ := hJ'.turn S' hch hv
      refine ⟨hgo, fun σ2 H2 => ∃ w' ρ', w'.H = H2 ∧ Ext w1 w' ∧ Sim L T.ro w' ∧ EnvR L w' ρ' σ2 ∧ i + 1 ≤ s.items.length ∧ PostS L T.ro W w' D (loopS s (turnS mg m) (s.items.drop (i + 1)) ρ' w'.h),
        fun σ2 H2 ⟨w2, ρ2, z1, z2, z3, z4, z5, z6⟩ => ⟨s.items.length - (i + 1), by omega, w2, ρ2, z1, z2, z3, z4, z5, rfl, z6⟩, fun y H2 hyld => ?_⟩
      obtain ⟨eH2, hYy⟩ := hy y H2 hyld
      subst eH2
      have ey := huniq y hYy
      subst ey
      refine ⟨w', ρ', v, rfl, S', E', rx, ?_⟩
      unfold turnS wth nx at p'
      cases q : mg v ρ' w'.h with
      | ok ρ2 h2 =>
        rw [q] at p'
        intro w2 σ2 e2 x2 S2 E2 _
        subst e2
        refine ⟨w2, ρ2, rfl, S2, E2, ?_⟩
        dsimp only at p'
        cases q2 : m ρ2 w2.h with
        | fl f h =>
          rw [q2] at p'
          cases f with
          | nx ρ3 =>
            intro w3 σ3 e3 x3 S3 E3
            subst e3
            exact ⟨w3, ρ3, rfl, x'.trans S' (x2.trans S2 x3) |> fun z => z, S3, E3, hlt, PostS.step S3 (x2.trans S2 x3) p'⟩
          | ct ρ3 =>
            intro w3 σ3 e3 x3 S3 E3
            subst e3
            exact ⟨w3, ρ3, rfl, x'.trans S' (x2.trans S2 x3) |> fun z => z, S3, E3, hlt, PostS.step S3 (x2.trans S2 x3) p'⟩
          | bk ρ3 => exact PostS.step S2 x2 p'
          | rt v => exact PostS.step S2 x2 p'
        | ex z ρ3 h => rw [q2] at p'; exact PostS.step S2 x2 p'
        | no => rw [q2] at p'; exact p'
      | ex z h' => rw [q] at p'; exact p'
      | no => rw [q] at p'; exact p'
    · exact p'.elim
  · left
    have hie : i = s.items.length := Nat.le_antisymm hi (Nat.le_of_not_lt hlt)
    subst hie
    rw [List.drop_length] at p'
    simp only [loopS] at p'
    split at p'
    · rename_i hch
      exact ⟨hJ'.stop S' hch, p' w' σ' rfl (Ext.refl w') S' E'⟩
    · exact p'.elim
end
end MP

set_option maxRecDepth 100000
set_option maxHeartbeats 4000000
namespace MP
open PySem L2
section
variable {T : Tb} {C : Cn} {L : Ln} {A : Fa} {d : Nat} {X : Cx} {W : WX} {sc : Scope} {ro : Ro} {w w' w1 : Wd} {σ : St} {ρ : Env} {D : Ends}
variable {a b c e : Expr} {es : List Expr} {ma mb mc : Env → M Val} {ms : Env → M (List Val)} {pos : Pos}
/-- a context in which statements run -/
structure XSt (T : Tb) (C : Cn) (L : Ln) (A : Fa) (d : Nat) (X : Cx) (W : WX) (sc : Scope) : Prop where
  ok : XOk T C L A d X W sc
  own : PassesOwn (model X.prog X.w) X.A X.env X.xe
  stk : X.stack = X.env :: X.outer
  frm : X.env.frame = some X.env.locals
def isLC : Expr → Bool
  | .ListComp _ _ _ _ => true
  | _ => false
theorem asg_nc {y x : Expr} (h : asgC sc y x = true) (hn : isLC x = false) : notComp x = true := by
  cases x with
  | SetComp _ _ _ _ => cases y <;> exact absurd h Bool.false_ne_true
  | DictComp _ _ _ _ _ => cases y <;> exact absurd h Bool.false_ne_true
  | ListComp _ _ _ _ => exact absurd (show true = false from hn) (by decide)
  | _ => rfl
theorem asg_ss {y x : Expr} {env : PySem.Env} (h : asgC sc y x = true) : swappedStores [y] x env = pure none := by
  cases y with
  | Tuple ts k p =>
    cases x with
    | Tuple _ _ _ => exact absurd h Bool.false_ne_true
    | _ => rfl
  | List ts p => exact absurd h Bool.false_ne_true
  | _ => rfl
theorem asg_sw {y x : Expr} {l : Nat} {env : PySem.Env} (h : asgC sc y x = true) (hn : isLC x = false) : swapsWithSole [y] x l env = pure false ∧ swappedStores [y] x env = pure none :=
  ⟨sw_none (asg_nc h hn), asg_ss h⟩
theorem asg_swLC {y : Expr} {el : Expr} {gs : List Comprehension} {s : Scope} {q : Pos} {l : Nat} {env : PySem.Env} (h : ∀ z p, y ≠ .Name z p) : swapsWithSole [y] (.ListComp el gs s q) l env = pure false ∧ swappedStores [y] (.ListComp el gs s q) env = pure none := by
  cases y with
  | Name z p => exact absurd rfl (h z p)
  | _ => exact ⟨rfl, rfl⟩
theorem asg_swCell {y : Str} {py : Pos} {el : Expr} {gs : List Comprehension} {s : Scope} {q : Pos} {l : Nat} {env : PySem.Env} (h : env.scope.names.lookup y = some .cell) : swapsWithSole [.Name y py] (.ListComp el gs s q) l env = pure false ∧ swappedStores [.Name y py] (.ListComp el gs s q) env = pure none := by
  refine ⟨?_, rfl⟩
  have ky : env.kindOf y = some .cell := h
  unfold swapsWithSole swapsWith
  simp only [ky]
  cases env.blockKind <;> rfl
theorem ge_name {i : Nat} {v : V} {σ : St} {H : Hp} {Q : St → Hp → Prop} (h : GE T L [i] (fun v ρ => setv i v ρ) v σ H Q) : gName i v σ H Q := by
  obtain ⟨w, ρ, u, eH, S, E, r, p⟩ := h
  subst eH
  dsimp only at p
  rcases setv_ok (ρ := ρ) (i := i) (v := u) (h := w.h) with ⟨q, hi⟩ | q
  · rw [q] at p
    refine p w (σ.set i (some v)) rfl (Ext.refl w) S (E.set hi r) ⟨by rw [List.length_set], fun j hj => ?_⟩
    rw [List.getElem?_set_ne fun z => hj (by simp [z])]
  · rw [q] at p; exact p.elim
/-- name = [..] -/
theorem ss_setLc {i : Nat} {y : Str} {py p : Pos} {tg it el : Expr} {fs : List Expr} {scope : Scope} {own js : List Nat} {mi : Env → M Src} {mg : Val → Env → M Env} {mf : Env → M Bool} {me : Env → M Val} (x : XOk T C L A d X W sc) (h : ckStore X.N sc i y = true)
    (hs : sc.names.lookup y = some .local) (hl : (py.line == p.line) = true) (hany : (scope.names.any fun (n, k) => n == y && (k == .local || k == .cell)) = false)
    (ht : okTop it = true) (hb : blkC X.N sc scope (own.filterMap fun j => (X.N[j]?).map fun x => (x, j)) = true) (ho : (own.filterMap fun j => (X.N[j]?).map fun x => (x, j)).map (·.2) = own) (hjs : ∀ j ∈ js, j ∈ own)
    (hi : PI X tg it (RI T L W mi)) (hg : ∀ X' W', XOk T C L A d X' W' scope → X'.N = X.N → PG X' tg (GE T L js mg)) (hf : ∀ X' , XOk T C L A d X' WF scope → X'.N = X.N → PTs X' fs (RB T L WF mf)) (he : ∀ X', XOk T C L A d X' WF scope → X'.N = X.N → PE X' el (RE T L WF me)) :
    PS X (.Assign [.Name y py] (.ListComp el [⟨tg, it, fs, 0⟩] scope p) pos) (RSt T L W fun ρ => wth (bnd (compM mi mg mf me own ρ) fun x => nx (setv i x ρ)) ρ fun ρ' h => .fl (.nx ρ') h) := by
  have bo := blk_ok x hb
  simp only [ckStore, Bool.and_eq_true, decide_eq_true_eq] at h
  have hyl : X.env.scope.names.lookup y = some .local := by
    rcases x.kind _ _ hs with z | ⟨z, _⟩
    · exact z
    · cases z
  refine PS.imp (ps_setLc (i := i) (own := own.filterMap fun j => (X.N[j]?).map fun x => (x, j)) (g := GE T L js mg) (tt := RB T L WF mf) (te := RE T L WF me) x.calm x.nd h.1.1 hyl (sw_true x.sk hyl hl hany) hi bo
    (fun s H B cl fp => hg _ _ (x.blk bo.kind s H B cl fp) rfl) (fun s H B cl fp => hf _ (x.blk bo.kind s H B cl fp) rfl) (fun s H B cl fp => he _ (x.blk bo.kind s H B cl fp) rfl) (folded_ok ht)) fun D σ H h => ?_
  rw [ho]
  have z : tAsg (RE T L W (compM mi mg mf me own)) (GE T L [i] fun v ρ => setv i v ρ) D σ H := asg_read h
  have z2 : RE T L W (compM mi mg mf me own) σ H (fun x H1 => gName i x σ H1 D.nx) := by
    obtain ⟨w, ρ, eH, S, E, p⟩ := z
    exact ⟨w, ρ, eH, S, E, p.imp fun _ _ _ _ _ _ g => ge_name g⟩
  exact comp_read hjs z2
theorem snd_asg {t : MT} {a : ME} {y e : Expr} (x : XSt T C L A d X W sc) (h1 : ckT C X.N sc t y = true) (h2 : ckE C X.N sc a e = true) (h3 : asgC sc y e = true) : PS X (.Assign [y] e pos) (RSt T L W (evS T (callD T d) (.asg t a))) := by
  have hn : okTop y = true := by
    cases y with
    | Starred _ _ => cases t <;> exact absurd h1 Bool.false_ne_true
    | Slice _ _ _ _ => cases t <;> exact absurd h1 Bool.false_ne_true
    | Set _ _ _ => cases t <;> exact absurd h1 Bool.false_ne_true
    | Call _ _ _ _ => cases t <;> exact absurd h1 Bool.false_ne_true
    | _ => rfl
  by_cases hl : isLC e = true
  · cases e with
    | ListComp el gs scope q =>
      by_cases hy : ∃ z p, y = .Name z p
      · obtain ⟨z, pz, rfl⟩ := hy
        cases t with
        | v i =>
          have h3' := h3
          simp only [asgC] at h3
          cases hk : sc.names.lookup z with
          | none => rw [hk] at h3; cases h3
          | some k =>
            rw [hk] at h3
            cases k with
            | cell =>
              have hc : X.env.scope.names.lookup z = some .cell := by
                rcases x.ok.kind _ _ hk with w | ⟨w, _⟩
                · exact w
                · cases w
              obtain ⟨s1, s2⟩ := asg_swCell (l := pos.line) (env := X.env) (py := pz) (el := el) (gs := gs) (s := scope) (q := q) hc
              exact ss_asg (js := mtS (.v i)) (sndE a X W sc _ x.ok h2).pe (sndT (.v i) X W sc _ x.ok h1) hn s1 s2
            | «local» =>
              simp only [Bool.and_eq_true, Bool.not_eq_true'] at h3
              cases a with
              | comp own elt tg it ifs =>
                cases gs with
                | nil => exact absurd h2 Bool.false_ne_true
                | cons g gr =>
                  obtain ⟨t, i, fs, k⟩ := g
                  cases gr with
                  | cons _ _ => exact absurd h2 Bool.false_ne_true
                  | nil =>
                    simp only [ckE, Bool.and_eq_true, decide_eq_true_eq] at h2
                    obtain ⟨⟨⟨⟨⟨⟨⟨⟨rfl, g1⟩, g2⟩, g3⟩, g4⟩, g5⟩, g6⟩, g7⟩, g8⟩ := h2
                    exact ss_setLc (own := own) (js := mtS tg) x.ok h1 hk h3.1 h3.2 g2 g3 g4 (tgIn_js g6) (sndI it X W sc i t x.ok g1)
                      (fun X' W' x' hN => sndT tg X' W' scope t x' (by rw [hN]; exact g5)) (fun X' x' hN => sndF ifs X' WF scope fs x' (by rw [hN]; exact g8)) (fun X' x' hN => (sndE elt X' WF scope el x' (by rw [hN]; exact g7)).pe)
              | _ => exact absurd h2 Bool.false_ne_true
            | _ => cases h3
        | _ => exact absurd h1 Bool.false_ne_true
      · obtain ⟨s1, s2⟩ := asg_swLC (y := y) (l := pos.line) (env := X.env) (el := el) (gs := gs) (s := scope) (q := q) (fun z p e => hy ⟨z, p, e⟩)
        exact ss_asg (js := mtS t) (sndE a X W sc _ x.ok h2).pe (sndT t X W sc _ x.ok h1) hn s1 s2
    | _ => exact absurd hl Bool.false_ne_true
  · obtain ⟨s1, s2⟩ := asg_sw (l := pos.line) (env := X.env) h3 (by simpa using hl)
    exact ss_asg (js := mtS t) (sndE a X W sc _ x.ok h2).pe (sndT t X W sc _ x.ok h1) hn s1 s2
mutual
theorem sndS : ∀ (m : MS) (X : Cx) (W : WX) (sc : Scope) (st : Stmt), XSt T C L A d X W sc → ckS C X.N sc m st = true → PS X st (RSt T L W (evS T (callD T d) m))
  | .pass, X, W, sc, st, x, h => by
    cases st with
    | Pass p => exact ss_pass
    | Expr e p =>
      cases e with
      | Constant v k q =>
        cases v with
        | str z => exact ss_doc
        | _ => exact absurd h Bool.false_ne_true
      | _ => exact absurd h Bool.false_ne_true
    | _ => exact absurd h Bool.false_ne_true
  | .expr a, X, W, sc, st, x, h => by
    cases st with
    | Expr e p =>
      simp only [ckS, Bool.and_eq_true] at h
      exact ss_expr (sndE a X W sc e x.ok h.1).pe h.2
    | _ => exact absurd h Bool.false_ne_true
  | .asg t a, X, W, sc, st, x, h => by
    cases st with
    | Assign ts e p =>
      cases ts with
      | nil => exact absurd h Bool.false_ne_true
      | cons y r =>
        cases r with
        | cons _ _ => exact absurd h Bool.false_ne_true
        | nil =>
          simp only [ckS, Bool.and_eq_true] at h
          exact snd_asg x h.1.1 h.1.2 h.2
    | _ => exact absurd h Bool.false_ne_true
  | .aug i a, X, W, sc, st, x, h => by
    cases st with
    | AugAssign tg op e p =>
      cases tg with
      | Name y p2 =>
        cases op with
        | Add =>
          simp only [ckS, Bool.and_eq_true] at h
          exact ss_aug x.ok h.1 (sndE a X W sc e x.ok h.2).pe
        | _ => exact absurd h Bool.false_ne_true
      | _ => exact absurd h Bool.false_ne_true
    | _ => exact absurd h Bool.false_ne_true
  | .augA a f e, X, W, sc, st, x, h => by cases st <;> exact absurd h Bool.false_ne_true
  | .augS o i e, X, W, sc, st, x, h => by cases st <;> exact absurd h Bool.false_ne_true
  | .ret a, X, W, sc, st, x, h => by
    cases st with
    | Return v p =>
      cases v with
      | none => exact absurd h Bool.false_ne_true
      | some e => exact ss_ret (sndE a X W sc e x.ok h).pe
    | _ => exact absurd h Bool.false_ne_true
  | .retN, X, W, sc, st, x, h => by
    cases st with
    | Return v p =>
      cases v with
      | none => exact ss_retN
      | some e => exact absurd h Bool.false_ne_true
    | _ => exact absurd h Bool.false_ne_true
  | .ife c a b, X, W, sc, st, x, h => by
    cases st with
    | If t xs ys p =>
      simp only [ckS, Bool.and_eq_true] at h
      exact ss_if (sndE c X W sc t x.ok h.1.1).pt (sndSs a X W sc xs x h.1.2) (sndSs b X W sc ys x h.2)
    | _ => exact absurd h Bool.false_ne_true
  | .while c b, X, W, sc, st, x, h => by
    cases st with
    | While t xs o p =>
      cases o with
      | cons _ _ => exact absurd h Bool.false_ne_true
      | nil =>
        simp only [ckS, Bool.and_eq_true] at h
        exact ss_while x.own (sndE c X W sc t x.ok h.1).pt (sndSs b X W sc xs x h.2)
    | _ => exact absurd h Bool.false_ne_true
  | .for t it b, X, W, sc, st, x, h => by
    cases st with
    | For y e xs o p =>
      cases o with
      | cons _ _ => exact absurd h Bool.false_ne_true
      | nil =>
        simp only [ckS, Bool.and_eq_true] at h
        obtain ⟨⟨⟨h1, h2⟩, h3⟩, h4⟩ := h
        exact ss_for (js := mtS t) x.own x.ok.calm h3 (sndI it X W sc e y x.ok h2) (sndT t X W sc y x.ok h1) (sndSs b X W sc xs x h4)
    | _ => exact absurd h Bool.false_ne_true
  | .brk, X, W, sc, st, x, h => by
    cases st with
    | Break p => exact ss_brk
    | _ => exact absurd h Bool.false_ne_true
  | .cont, X, W, sc, st, x, h => by
    cases st with
    | Continue p => exact ss_cont
    | _ => exact absurd h Bool.false_ne_true
  | .raise c es, X, W, sc, st, x, h => by cases st <;> exact absurd h Bool.false_ne_true
  | .try b hs, X, W, sc, st, x, h => by cases st <;> exact absurd h Bool.false_ne_true
  | .del o i, X, W, sc, st, x, h => by cases st <;> exact absurd h Bool.false_ne_true
  | .never, X, W, sc, st, x, h => by cases st <;> exact absurd h Bool.false_ne_true
theorem sndSs : ∀ (m : MSs) (X : Cx) (W : WX) (sc : Scope) (st : List Stmt), XSt T C L A d X W sc → ckSs C X.N sc m st = true → PSs X st (RSt T L W (evSs T (callD T d) m))
  | .nil, X, W, sc, st, x, h => by
    cases st with
    | nil => exact ss_nil
    | cons _ _ => exact absurd h Bool.false_ne_true
  | .cons s r, X, W, sc, st, x, h => by
    cases st with
    | nil => exact absurd h Bool.false_ne_true
    | cons y ys =>
      simp only [ckSs, Bool.and_eq_true] at h
      exact ss_cons (sndS s X W sc y x h.1) (sndSs r X W sc ys x h.2)
end
end
end MP

set_option maxRecDepth 100000
set_option maxHeartbeats 4000000
namespace MP
open PySem L2
/-- a def of the text: its code, its statement, its slots, its parameters -/
structure Df where
  F : Fn
  st : Stmt
  N : List Str
  ps : List Str
def scC (N ps : List Str) (sc : Scope) : Bool := (sc.kind == .function) && (sc.isCoroutine == false) && (sc.isGenerator == false) && decide N.Nodup && decide (N.take ps.length = ps) && decide (∀ x ∈ ps, sc.names.lookup x = some .local ∨ sc.names.lookup x = some .cell) && decide (∀ y ∈ sc.names, y.2 ≠ .free)
theorem scC_ok {N ps : List Str} {sc : Scope} (h : scC N ps sc = true) : FnScope N ps sc := by
  simp only [scC, Bool.and_eq_true, decide_eq_true_eq, beq_iff_eq] at h
  obtain ⟨⟨⟨⟨⟨⟨a, b⟩, c⟩, d⟩, e⟩, f⟩, g⟩ := h
  exact ⟨a, b, c, d, e, f, g⟩
def Df.ck (C : Cn) (D : Df) : Bool := scC D.N D.ps (defScope D.st) && decide (D.ps.length = D.F.np) && decide (D.N.length = D.F.ns) && ckSs C D.N (defScope D.st) D.F.body (defBody D.st)
section
variable {T : Tb} {C : Cn} {L : Ln} {A : Fa} {P : Program} {wd : World} {mg : Str → Option Value} {base : Heap}
theorem envR_start {w : Wd} : ∀ {args : List Val} {vs : List V} {n : Nat}, VRs L w args vs → EnvR L w (args.map some ++ List.replicate n none) (vs.map some ++ List.replicate n none)
  | _, _, n, .nil => ⟨by simp, fun i v h => by
      simp only [List.map_nil, List.nil_append] at h
      rw [List.getElem?_replicate] at h
      split at h <;> cases h⟩
  | _, _, n, .cons (v := a) (x := x) (vs := as) (xs := xs) r rs => by
    have ih := envR_start (n := n) rs
    refine ⟨?_, fun i v h => ?_⟩
    · have := ih.len
      simp only [List.map_cons, List.cons_append, List.length_cons]
      omega
    · cases i with
      | zero =>
        simp only [List.map_cons, List.cons_append, List.getElem?_cons_zero, Option.some.injEq] at h
        subst h
        exact ⟨x, by simp, r⟩
      | succ i =>
        simp only [List.map_cons, List.cons_append, List.getElem?_cons_succ] at h ⊢
        exact ih.at_ i v h
theorem lk_all {Ds : Nat → Option Df} (B : Lk T C L A P wd mg base 0) (hT : ∀ f, T.fn f = (Ds f).map Df.F) (hF : ∀ f D, Ds f = some D → ∃ x qual, Fun L.K x qual D.st (A.fA f) (A.fd f)) (hP : ∀ f D, Ds f = some D → A.ps f = D.ps) (hC : ∀ f D, Ds f = some D → D.ck C = true) : ∀ d, Lk T C L A P wd mg base d
  | 0 => B
  | d + 1 => by
    have ih := lk_all B hT hF hP hC d
    refine { B with ok := fun f F hf => ?_ }
    rw [hT f] at hf
    cases hD : Ds f with
    | none => rw [hD] at hf; cases hf
    | some D =>
      rw [hD] at hf
      cases hf
      have hfn : T.fn f = some D.F := by rw [hT f, hD]; rfl
      obtain ⟨x, qual, FF⟩ := hF f D hD
      have ck := hC f D hD
      simp only [Df.ck, Bool.and_eq_true, decide_eq_true_eq] at ck
      obtain ⟨⟨⟨c1, c2⟩, c3⟩, c4⟩ := ck
      have SC := scC_ok c1
      rw [hP f D hD]
      have lenA : ∀ vs H Q E, spD T L (d + 1) f vs H Q E → vs.length = D.ps.length ∧ D.F.np ≤ D.F.ns := fun vs H Q E ⟨w, args, e, S, r, p⟩ => by
        show _ ∧ _
        simp only [callD, hfn, runF] at p
        split at p
        · rename_i hl
          exact ⟨by rw [← r.length, hl.1, c2], hl.2⟩
        · exact p.elim
      refine FF.okX SC (fun vs H Q E h => (lenA vs H Q E h).1) (fun cdv A' outer s H vs Q E hr h => ?_)
      have hl := lenA vs H Q E h
      have xo : XSt T C L A d (cxOf (L2.CX P wd) P wd L.K mg base D.N qual (defScope D.st) (A.fA f) cdv A' outer s H E) (fun cls dd _ H => E cls dd H) (defScope D.st) :=
        ⟨⟨ih, rfl, SC.nd, hr, rfl, takes_of rfl rfl rfl rfl, fun _ _ h => .inl h, fun _ _ => .inl rfl, SC.kind⟩, passes_of (K := fun e s'' => L2.CX P wd outer H s E e s'') rfl, rfl, rfl⟩
      refine ⟨_, sndSs D.F.body _ _ _ _ xo c4, ?_⟩
      obtain ⟨w, args, eH, S, r, p⟩ := h
      subst eH
      refine ⟨w, args.map some ++ List.replicate (D.F.ns - D.F.np) none, rfl, S, ?_, ?_⟩
      · have e1 : D.N.length - vs.length = D.F.ns - D.F.np := by rw [c3, hl.1, c2]
        unfold L2.start
        rw [e1]
        exact envR_start r
      · simp only [callD, hfn, runF] at p
        split at p
        · cases q : evSs T (callD T d) D.F.body (args.map some ++ List.replicate (D.F.ns - D.F.np) none) w.h with
          | fl f h =>
            rw [q] at p
            cases f with
            | nx ρ' => exact fun w' σ' e x' S' E' => p w' .non e x' S' .non
            | rt v => exact fun w' y e x' S' ry => p w' y e x' S' ry
            | bk ρ' => exact p.elim
            | ct ρ' => exact p.elim
          | ex z ρ' h =>
            rw [q] at p
            exact fun w' σ' dd e x' S' E' => p w' dd e x' S'
          | no => rw [q] at p; exact p
        · exact p.elim
theorem ok0 {f : Nat} {fd : FuncData} {ps : List Str} {fa : Addr} : FnOk P wd L.K mg base (L2.CX P wd) (2 * 0 + 1) fa fd ps (spD T L 0 f) :=
  ⟨fun vs H Q E ⟨w, args, _, _, _, p⟩ => p.elim, fun A' outer s H args us vs Q E hr he hb hv ⟨w, as, _, _, _, p⟩ => p.elim⟩
/-! ### the law's end -/
/-- the script is a list of numbers; nothing else stands -/
def spLaw (K : PySem.W.Frag) : Sp := fun vs H Q _ => ∃ (a : Addr) (ns : List Int), vs = [.ref a] ∧ SqL K H a (ns.map V.int) ∧ Only H ∧ ns.length ≤ 63 ∧ ∀ H', Q (.bl true) H'
def h0 : Hs := ⟨0, fun _ => .nil⟩
theorem sim0 {ns : List Int} {H : Hp} {ro : Ro} {a : Addr} (hk : L.kA 0 = a) (h1 : ro 0 = some (false, ns.map Val.int)) (hro : ∀ c, c ≠ 0 → ∀ b xs, ro c = some (b, xs) → b = true ∧ ∃ vs, (∀ w : Wd, VRs L w xs vs) ∧ KT' L.K (L.kA c) vs) (hS : SqL L.K H a (ns.map V.int)) (hO : Only H) : Sim L ro ⟨fun _ => 0, h0, H⟩ := by
  refine ⟨fun n hn => absurd hn (Nat.not_lt_zero n), fun m n hm => absurd hm (Nat.not_lt_zero m), fun c xs q => ?_, fun c xs q => ?_⟩
  · by_cases hc : c = 0
    · subst hc
      rw [h1] at q
      cases q
      refine ⟨ns.map V.int, VRs.of_ints ns, ?_⟩
      rw [hk]
      rcases hS with h | h
      · left
        rcases hO a with z | ⟨o, ys, z⟩
        · rcases h with h | ⟨o, h⟩
          · rw [z] at h; cases h
          · rw [z] at h; cases h
        · rcases h with h | ⟨o', h⟩
          · rw [z] at h; cases h
          · exact ⟨o', h⟩
      · exact .inr h
    · have := (hro c hc _ _ q).1
      cases this
  · by_cases hc : c = 0
    · subst hc
      rw [h1] at q
      cases q
    · obtain ⟨_, vs, r, k⟩ := hro c hc _ _ q
      exact ⟨vs, r _, k⟩
/-- the law's promise of what the table's call answers -/
theorem law_ok {K : PySem.W.Frag} {d f : Nat} {fa : Addr} {fd : FuncData} {ps : List Str} {TT : List Int → Tb} {LL : Addr → Ln} (hps : ps.length = 1) (hLK : ∀ a, (LL a).K = K) (hL0 : ∀ a, (LL a).kA 0 = a)
    (h1 : ∀ ns, (TT ns).ro 0 = some (false, ns.map Val.int)) (hro : ∀ ns a c, c ≠ 0 → ∀ b xs, (TT ns).ro c = some (b, xs) → b = true ∧ ∃ vs, (∀ w : Wd, VRs (LL a) w xs vs) ∧ KT' K ((LL a).kA c) vs)
    (hOk : ∀ ns a, FnOk P wd K mg base (L2.CX P wd) (2 * d + 1) fa fd ps (spD (TT ns) (LL a) d f))
    (hrun : ∀ ns : List Int, ns.length ≤ 63 → ∃ h', callD (TT ns) d f [.cst 0] h0 = .ok (.bl true) h') : FnOk P wd K mg base (L2.CX P wd) (2 * d + 1) fa fd ps (spLaw K) := by
  refine ⟨fun vs H Q E ⟨a, ns, e, _⟩ => by rw [e, hps]; rfl, fun A' outer s H args us vs Q E hr he hb hv ⟨a, ns, e, hS, hO, hl, hQ⟩ => ?_⟩
  refine (hOk ns a).run A' outer s H args us vs Q E hr he hb hv ?_
  subst e
  obtain ⟨h', hrun⟩ := hrun ns hl
  refine ⟨⟨fun _ => 0, h0, H⟩, [.cst 0], rfl, sim0 (hL0 a) (h1 ns) (fun c hc b xs q => ?_) (by rw [hLK a]; exact hS) hO, .cons ?_ .nil, ?_⟩
  · rw [hLK a]; exact hro ns a c hc b xs q
  · have z : VR (LL a) ⟨fun _ => 0, h0, H⟩ (.cst 0) (.ref ((LL a).kA 0)) := .cst 0
    rw [hL0 a] at z
    exact z
  · show Post _ _ _ _ _ _ _ (callD (TT ns) d f [.cst 0] h0)
    rw [hrun]
    intro w' y e x' S' ry
    cases ry
    exact hQ _
end
theorem walkMP {D : Nat} {x : Str} {l : PySem.W.OpenLaw} {q : Program} {loose : List Str} {XP : (Str → Option Value) → Heap → Prop} {YP : World → Heap → Prop} {d : DefRec} {K : Params → PySem.W.Frag} (hn : l.most = some 63) (hdf : d.params.defaults = []) (hr : Room (2 * D + 1) callerA)
    (hY : ∀ (w : World) (h : Heap), YP w h → (K w.params).In h)
    (F : ∀ (w : World) (mg : Str → Option Value) (fa : Addr) (h : Heap), (K w.params).In h → h.Ns mainGlobals mg → mg d.name = some (.ref fa) →
      ∃ fd : FuncData, (∀ (s : Shared) (u : Value), BindsTo s fd ⟨[u], []⟩ [(x, u)]) ∧ ∀ base : Heap, (K w.params).In base → base.Ns mainGlobals mg → FnOk l.prog w (K w.params) mg base (L2.CX l.prog w) (2 * D + 1) fa fd [x] (spLaw (K w.params))) :
    PySem.W.WalkO q loose XP YP l.row.toRowW d [] (fun f vs => PySem.call f vs) :=
  L2.walk_of (n := 63) (k := 2 * D + 1) (x := x) (CX := fun w => L2.CX l.prog w) (sp := fun w => spLaw (K w.params)) hn (by decide) hdf hr hY F (fun _ H a ns hl hO hS => ⟨a, ns, rfl, hS, hO, hl, fun _ => rfl⟩) fun w H s e s' z => by
    obtain ⟨_, _, _, _, _, _, _, _, _, _, _, _, q⟩ := z
    exact q
/-- names by numbers -/
def nmF (l : List Str) (i : Nat) : Str := match l[i]? with
  | some s => s
  | none => ⟨Array.replicate (i + 100) 97⟩
theorem nmF_inj {l : List Str} (h : l.Nodup) (hs : ∀ s ∈ l, s.cps.size < 100) : ∀ a b, nmF l a = nmF l b → a = b := fun a b e => by
  unfold nmF at e
  cases qa : l[a]? with
  | some s =>
    cases qb : l[b]? with
    | some t =>
      rw [qa, qb] at e
      have e' : s = t := e
      subst e'
      exact nd_ix h qa qb
    | none =>
      rw [qa, qb] at e
      have e' : s = ⟨Array.replicate (b + 100) 97⟩ := e
      have := hs s (List.mem_of_getElem? qa)
      rw [e'] at this
      simp at this
      omega
  | none =>
    cases qb : l[b]? with
    | some t =>
      rw [qa, qb] at e
      have e' : (⟨Array.replicate (a + 100) 97⟩ : Str) = t := e
      have := hs t (List.mem_of_getElem? qb)
      rw [← e'] at this
      simp at this
      omega
    | none =>
      rw [qa, qb] at e
      have e' : (⟨Array.replicate (a + 100) 97⟩ : Str) = ⟨Array.replicate (b + 100) 97⟩ := e
      have e2 := congrArg (fun s : Str => s.cps.size) e'
      simp at e2
      omega
end MP

set_option maxRecDepth 100000
set_option maxHeartbeats 4000000
namespace MP
open PySem L2
/-! ### the plain side: what a run answers -/
@[irreducible] def Ok {α : Type} (r : R α) (Q : α → Hs → Prop) (X : Exc → Hs → Prop) : Prop := match r with
  | .ok a h => Q a h
  | .ex x h => X x h
  | .no => False
@[irreducible] def Rv (r : RS) (Q : Fl → Hs → Prop) (X : Exc → Env → Hs → Prop) : Prop := match r with
  | .fl f h => Q f h
  | .ex x ρ h => X x ρ h
  | .no => False
section
variable {α β : Type} {Q : α → Hs → Prop} {X : Exc → Hs → Prop} {h : Hs} {ρ : Env} {ro : Ro}
theorem ok_ok {a : α} : Ok (.ok a h) Q X = Q a h := by (first | rfl | (unfold Ok; rfl) | (unfold Rv; rfl) | (unfold Rv Ok; rfl))
theorem ok_ret {a : α} : Ok (ret a h) Q X = Q a h := by (first | rfl | (unfold Ok; rfl) | (unfold Rv; rfl) | (unfold Rv Ok; rfl))
theorem ok_bnd {m : M β} {k : β → M α} : Ok (bnd m k h) Q X = Ok (m h) (fun a h' => Ok (k a h') Q X) X := by
  unfold bnd Ok
  cases m h <;> (first | rfl | (unfold Ok; rfl) | (unfold Rv; rfl) | (unfold Rv Ok; rfl))
theorem ok_imp {r : R α} {Q' : α → Hs → Prop} (p : Ok r Q' X) (i : ∀ a h, Q' a h → Q a h) : Ok r Q X := by
  unfold Ok at p ⊢
  cases r with
  | ok a h => exact i _ _ p
  | ex x h => exact p
  | no => exact p
theorem ok_iff {r : R α} : (∃ a h', r = .ok a h' ∧ Q a h') → Ok r Q X := fun ⟨a, h', e, q⟩ => by rw [e]; unfold Ok; exact q
theorem ok_eq {r : R α} {X : Exc → Hs → Prop} (p : Ok r Q fun _ _ => False) : ∃ a h', r = .ok a h' ∧ Q a h' := by
  unfold Ok at p
  cases r with
  | ok a h => exact ⟨a, h, rfl, p⟩
  | ex x h => exact p.elim
  | no => exact p.elim
theorem ok_nx {m : M α} : Ok (nx m h) Q X = Ok (m h) Q (fun _ _ => False) := by
  unfold nx Ok
  cases m h <;> (first | rfl | (unfold Ok; rfl) | (unfold Rv; rfl) | (unfold Rv Ok; rfl))
variable {S : Fl → Hs → Prop} {Y : Exc → Env → Hs → Prop}
theorem rv_fl {f : Fl} : Rv (.fl f h) S Y = S f h := by (first | rfl | (unfold Ok; rfl) | (unfold Rv; rfl) | (unfold Rv Ok; rfl))
theorem rv_wth {m : M α} {f : α → Hs → RS} : Rv (wth m ρ f h) S Y = Ok (m h) (fun a h' => Rv (f a h') S Y) (fun x h' => Y x ρ h') := by
  unfold wth Rv Ok
  cases m h <;> (first | rfl | (unfold Ok; rfl) | (unfold Rv; rfl) | (unfold Rv Ok; rfl))
/-- behind a statement of a block -/
def nxt (b : SS) (S : Fl → Hs → Prop) (Y : Exc → Env → Hs → Prop) (f : Fl) (h : Hs) : Prop := match f with
  | .nx ρ => Rv (b ρ h) S Y
  | f => S f h
theorem rv_seq {a b : SS} : Rv (seqS a b ρ h) S Y = Rv (a ρ h) (nxt b S Y) Y := by
  unfold seqS Rv nxt
  cases a ρ h with
  | fl f h' => cases f <;> (first | rfl | (unfold Ok; rfl) | (unfold Rv; rfl) | (unfold Rv Ok; rfl))
  | _ => rfl
theorem nxt_nx {b : SS} : nxt b S Y (.nx ρ) h = Rv (b ρ h) S Y := by (first | rfl | (unfold Ok; rfl) | (unfold Rv; rfl) | (unfold Rv Ok; rfl))
theorem nxt_rt {b : SS} {v : Val} : nxt b S Y (.rt v) h = S (.rt v) h := rfl
theorem nxt_bk {b : SS} : nxt b S Y (.bk ρ) h = S (.bk ρ) h := rfl
theorem nxt_ct {b : SS} : nxt b S Y (.ct ρ) h = S (.ct ρ) h := rfl
theorem rv_imp {r : RS} {S' : Fl → Hs → Prop} (p : Rv r S' Y) (i : ∀ a h, S' a h → S a h) : Rv r S Y := by
  unfold Rv at p ⊢
  cases r with
  | fl a h => exact i _ _ p
  | ex x ρ h => exact p
  | no => exact p
/-- behind a turn -/
def tur (I : Env → Hs → Prop) (S : Fl → Hs → Prop) (f : Fl) (h : Hs) : Prop := match f with
  | .nx ρ => I ρ h
  | .ct ρ => I ρ h
  | .bk ρ => S (.nx ρ) h
  | .rt v => S (.rt v) h
theorem rv_loop {s : Src} {turn : Val → SS} (I : Nat → Env → Hs → Prop) (hc : ∀ i ρ h, I i ρ h → s.chk h = true) (hs : ∀ i x ρ h, s.items[i]? = some x → I i ρ h → Rv (turn x ρ h) (tur (I (i + 1)) S) Y) (hq : ∀ ρ h, I s.items.length ρ h → S (.nx ρ) h) :
    ∀ (n i : Nat) (ρ : Env) (h : Hs), s.items.length - i = n → i ≤ s.items.length → I i ρ h → Rv (loopS s turn (s.items.drop i) ρ h) S Y := by
  intro n
  induction n with
  | zero =>
    intro i ρ h e hi hI
    have e2 : i = s.items.length := by omega
    subst e2
    rw [List.drop_length]
    simp only [loopS]
    rw [if_pos (hc _ _ _ hI), rv_fl]
    exact hq _ _ hI
  | succ n ih =>
    intro i ρ h e hi hI
    have hlt : i < s.items.length := by omega
    rw [List.drop_eq_getElem_cons hlt]
    simp only [loopS]
    rw [if_pos (hc _ _ _ hI)]
    have z := hs i s.items[i] ρ h (List.getElem?_eq_getElem hlt) hI
    cases q : turn s.items[i] ρ h with
    | fl f h' =>
      rw [q] at z
      cases f with
      | nx ρ' => unfold Rv at z; exact ih (i + 1) ρ' h' (by omega) hlt z
      | ct ρ' => unfold Rv at z; exact ih (i + 1) ρ' h' (by omega) hlt z
      | bk ρ' => unfold Rv at z ⊢; exact z
      | rt v => unfold Rv at z ⊢; exact z
    | ex x ρ' h' => rw [q] at z; unfold Rv at z ⊢; exact z
    | no => rw [q] at z; unfold Rv at z; exact z.elim
theorem rv_for {s : Src} {turn : Val → SS} (I : Nat → Env → Hs → Prop) (h0 : I 0 ρ h) (hc : ∀ i ρ h, I i ρ h → s.chk h = true) (hs : ∀ i x ρ h, s.items[i]? = some x → I i ρ h → Rv (turn x ρ h) (tur (I (i + 1)) S) Y) (hq : ∀ ρ h, I s.items.length ρ h → S (.nx ρ) h) :
    Rv (loopS s turn s.items ρ h) S Y := rv_loop I hc hs hq _ 0 ρ h rfl (Nat.zero_le _) h0
/-! ### comprehensions -/
theorem ok_comp {s : Src} {turn : Val → M (Option Val)} (I : Nat → List Val → Hs → Prop) (hc : ∀ i acc h, I i acc h → s.chk h = true)
    (hs : ∀ i x acc h, s.items[i]? = some x → I i acc h → Ok (turn x h) (fun o h' => I (i + 1) (acc ++ o.toList) h') (fun _ _ => False)) :
    ∀ (n i : Nat) (acc : List Val) (h : Hs) (Q : List Val → Hs → Prop), s.items.length - i = n → i ≤ s.items.length → I i acc h → (∀ r h, I s.items.length (acc ++ r) h → Q r h) → Ok (compL s turn (s.items.drop i) h) Q X := by
  intro n
  induction n with
  | zero =>
    intro i acc h Q e hi hI hq
    have e2 : i = s.items.length := by omega
    subst e2
    rw [List.drop_length]
    simp only [compL]
    rw [if_pos (hc _ _ _ hI), ok_ok]
    exact hq [] h (by rw [List.append_nil]; exact hI)
  | succ n ih =>
    intro i acc h Q e hi hI hq
    have hlt : i < s.items.length := by omega
    rw [List.drop_eq_getElem_cons hlt]
    simp only [compL]
    rw [if_pos (hc _ _ _ hI), ok_bnd, ok_nx]
    refine ok_imp (hs i s.items[i] acc h (List.getElem?_eq_getElem hlt) hI) fun o h' z => ?_
    rw [ok_bnd]
    exact ih (i + 1) _ h' _ (by omega) hlt z fun r h2 z2 => by
      rw [ok_ret]
      exact hq _ _ (by rw [← List.append_assoc]; exact z2)
theorem compL_map {s : Src} {turn : Val → M (Option Val)} {f : Val → Val} (hc : s.chk h = true) : ∀ xs : List Val, (∀ x ∈ xs, turn x h = .ok (some (f x)) h) → compL s turn xs h = .ok (xs.map f) h
  | [], _ => by simp only [compL]; rw [if_pos hc]; (first | rfl | (unfold Ok; rfl) | (unfold Rv; rfl) | (unfold Rv Ok; rfl))
  | x :: xs, e => by
    simp only [compL]
    rw [if_pos hc]
    have e1 : nx (turn x) h = .ok (some (f x)) h := by unfold nx; rw [e x (List.mem_cons_self)]
    rw [bnd_ok e1, bnd_ok (compL_map hc xs fun y hy => e y (List.mem_cons_of_mem _ hy))]
    rfl
/-! ### values -/
theorem getv0 {v : Val} : getv 0 (some v :: ρ) = ret v := rfl
theorem getvS {o : Option Val} {i : Nat} : getv (i + 1) (o :: ρ) = getv i ρ := rfl
theorem ok_setv {i : Nat} {v : Val} {Q : Env → Hs → Prop} : Ok (setv i v ρ h) Q X = (i < ρ.length ∧ Q (ρ.set i (some v)) h) := by
  unfold setv
  split
  · rename_i hi; simp only [ok_ret, hi, true_and]
  · rename_i hi; simp only [hi, false_and]; (first | rfl | (unfold Ok; rfl) | (unfold Rv; rfl) | (unfold Rv Ok; rfl))
variable {Q : Val → Hs → Prop}
theorem ok_newO {o : Ob} : Ok (newO o h) Q X = Q (.ref h.sz) (h.new o) := by (first | rfl | (unfold Ok; rfl) | (unfold Rv; rfl) | (unfold Rv Ok; rfl))
theorem ok_add {i j : Int} : Ok (binV .add (.int i) (.int j) h) Q X = Q (.int (i + j)) h := by (first | rfl | (unfold Ok; rfl) | (unfold Rv; rfl) | (unfold Rv Ok; rfl))
theorem ok_sub {i j : Int} : Ok (binV .sub (.int i) (.int j) h) Q X = Q (.int (i - j)) h := by (first | rfl | (unfold Ok; rfl) | (unfold Rv; rfl) | (unfold Rv Ok; rfl))
theorem ok_mul {i j : Int} : Ok (binV .mul (.int i) (.int j) h) Q X = (mulOk i j = true ∧ Q (.int (i * j)) h) := by
  show Ok (if mulOk i j = true then .ok (.int (i * j)) h else .no) Q X = _
  cases e : mulOk i j
  · simp [Ok]
  · simp [Ok]
theorem ok_fdiv {i j : Int} : Ok (binV .fdiv (.int i) (.int j) h) Q X = ((0 < j ∧ j < 1073741824) ∧ Q (.int (i / j)) h) := by
  show Ok ((if 0 < j ∧ j < 1073741824 then ret (.int (i / j)) else no) h) Q X = _
  split
  · rename_i e; simp only [e, true_and]; (first | rfl | (unfold Ok; rfl) | (unfold Rv; rfl) | (unfold Rv Ok; rfl))
  · rename_i e; simp only [e, false_and]; (first | rfl | (unfold Ok; rfl) | (unfold Rv; rfl) | (unfold Rv Ok; rfl))
theorem ok_mod {i j : Int} : Ok (binV .mod (.int i) (.int j) h) Q X = (0 < j ∧ Q (.int (i % j)) h) := by
  show Ok ((if 0 < j then ret (.int (i % j)) else no) h) Q X = _
  split
  · rename_i e; simp only [e, true_and]; (first | rfl | (unfold Ok; rfl) | (unfold Rv; rfl) | (unfold Rv Ok; rfl))
  · rename_i e; simp only [e, false_and]; (first | rfl | (unfold Ok; rfl) | (unfold Rv; rfl) | (unfold Rv Ok; rfl))
theorem ok_addL {a b : Nat} {xs ys : List Val} (ha : h.ob a = .lst xs) (hb : h.ob b = .lst ys) (hl : xs.length + ys.length ≤ sizeLine) : Ok (binV .add (.ref a) (.ref b) h) Q X = Q (.ref h.sz) (h.new (.lst (xs ++ ys))) := by
  show Ok (match h.ob a, h.ob b with
    | .lst xs, .lst ys => if xs.length + ys.length ≤ sizeLine then newO (.lst (xs ++ ys)) h else .no
    | _, _ => .no) Q X = _
  rw [ha, hb]
  dsimp only
  rw [if_pos hl]
  (first | rfl | (unfold Ok; rfl) | (unfold Rv; rfl) | (unfold Rv Ok; rfl))
theorem ok_lt {i j : Int} : Ok (cmpV ro .lt (.int i) (.int j) h) Q X = Q (.bl (decide (i < j))) h := by (first | rfl | (unfold Ok; rfl) | (unfold Rv; rfl) | (unfold Rv Ok; rfl))
theorem ok_le {i j : Int} : Ok (cmpV ro .le (.int i) (.int j) h) Q X = Q (.bl (decide (i ≤ j))) h := by (first | rfl | (unfold Ok; rfl) | (unfold Rv; rfl) | (unfold Rv Ok; rfl))
theorem ok_gt {i j : Int} : Ok (cmpV ro .gt (.int i) (.int j) h) Q X = Q (.bl (decide (j < i))) h := by (first | rfl | (unfold Ok; rfl) | (unfold Rv; rfl) | (unfold Rv Ok; rfl))
theorem ok_ge {i j : Int} : Ok (cmpV ro .ge (.int i) (.int j) h) Q X = Q (.bl (decide (j ≤ i))) h := by (first | rfl | (unfold Ok; rfl) | (unfold Rv; rfl) | (unfold Rv Ok; rfl))
/-- data of a value -/
def Dat (ro : Ro) (h : Hs) (n : Nat) (v : Val) (d : PyData) : Prop := pyV ro h n v = some d
theorem dat_int {i : Int} {n : Nat} : Dat ro h n (.int i) (.int i) := by cases n <;> (first | rfl | (unfold Ok; rfl) | (unfold Rv; rfl) | (unfold Rv Ok; rfl))
theorem mapM_ints {n : Nat} : ∀ ns : List Int, (ns.map Val.int).mapM (pyV ro h n) = some (ns.map PyData.int)
  | [] => rfl
  | i :: r => by
    rw [List.map_cons, List.mapM_cons, mapM_ints r]
    have : pyV ro h n (.int i) = some (.int i) := dat_int
    rw [this]
    rfl
theorem dat_ints {a : Nat} {ns : List Int} {n : Nat} (e : h.ob a = .lst (ns.map Val.int)) : Dat ro h (n + 1) (.ref a) (.list (ns.map PyData.int)) := by
  show (match h.ob a with
    | .lst xs => (xs.mapM (pyV ro h n)).map PyData.list
    | _ => none) = _
  rw [e]
  dsimp only
  rw [mapM_ints]
  (first | rfl | (unfold Ok; rfl) | (unfold Rv; rfl) | (unfold Rv Ok; rfl))
theorem ok_eq2 {x y : Val} {d e : PyData} (hx : Dat ro h 20 x d) (hy : Dat ro h 20 y e) : Ok (cmpV ro .eq x y h) Q X = Q (.bl (PyData.eqv d e)) h := by
  have : eqM ro x y h = .ok (PyData.eqv d e) h := by
    unfold eqM
    rw [show pyV ro h 20 x = some d from hx, show pyV ro h 20 y = some e from hy]
  show Ok (bnd (eqM ro x y) (fun b => ret (.bl b)) h) Q X = _
  rw [bnd_ok this]
  (first | rfl | (unfold Ok; rfl) | (unfold Rv; rfl) | (unfold Rv Ok; rfl))
theorem ok_ne2 {x y : Val} {d e : PyData} (hx : Dat ro h 20 x d) (hy : Dat ro h 20 y e) : Ok (cmpV ro .ne x y h) Q X = Q (.bl (!PyData.eqv d e)) h := by
  have : eqM ro x y h = .ok (PyData.eqv d e) h := by
    unfold eqM
    rw [show pyV ro h 20 x = some d from hx, show pyV ro h 20 y = some e from hy]
  show Ok (bnd (eqM ro x y) (fun b => ret (.bl (!b))) h) Q X = _
  rw [bnd_ok this]
  (first | rfl | (unfold Ok; rfl) | (unfold Rv; rfl) | (unfold Rv Ok; rfl))
theorem ok_eqI {i j : Int} : Ok (cmpV ro .eq (.int i) (.int j) h) Q X = Q (.bl (decide (i = j))) h := by
  rw [ok_eq2 dat_int dat_int]
  congr 2
theorem ok_neI {i j : Int} : Ok (cmpV ro .ne (.int i) (.int j) h) Q X = Q (.bl (!decide (i = j))) h := by
  rw [ok_ne2 dat_int dat_int]
  congr 2
theorem ok_asB {b : Bool} {Q : Bool → Hs → Prop} : Ok (asB (.bl b) h) Q X = Q b h := by (first | rfl | (unfold Ok; rfl) | (unfold Rv; rfl) | (unfold Rv Ok; rfl))
theorem ok_truB {b : Bool} {Q : Bool → Hs → Prop} : Ok (truV ro (.bl b) h) Q X = Q b h := by (first | rfl | (unfold Ok; rfl) | (unfold Rv; rfl) | (unfold Rv Ok; rfl))
/-! ### heaps -/
structure Keep (h h' : Hs) : Prop where
  sz : h.sz ≤ h'.sz
  ob : ∀ k, k < h.sz → h'.ob k = h.ob k
theorem Keep.refl : Keep h h := ⟨Nat.le_refl _, fun _ _ => rfl⟩
theorem Keep.trans {h1 h2 h3 : Hs} (a : Keep h1 h2) (b : Keep h2 h3) : Keep h1 h3 := ⟨Nat.le_trans a.sz b.sz, fun k hk => (b.ob k (Nat.lt_of_lt_of_le hk a.sz)).trans (a.ob k hk)⟩
theorem Keep.new {o : Ob} : Keep h (h.new o) := ⟨Nat.le_succ _, fun k hk => by
  show (if k = h.sz then o else h.ob k) = _
  rw [if_neg (Nat.ne_of_lt hk)]⟩
theorem new_at {o : Ob} : (h.new o).ob h.sz = o := by
  show (if h.sz = h.sz then o else h.ob h.sz) = o
  rw [if_pos rfl]
theorem new_sz {o : Ob} : (h.new o).sz = h.sz + 1 := rfl
theorem new_lo {o : Ob} {k : Nat} (hk : k < h.sz) : (h.new o).ob k = h.ob k := Keep.new.ob k hk
theorem put_at {o : Ob} {n : Nat} : (h.put n o).ob n = o := by
  show (if n = n then o else h.ob n) = o
  rw [if_pos rfl]
theorem put_ne {o : Ob} {n k : Nat} (hk : k ≠ n) : (h.put n o).ob k = h.ob k := by
  show (if k = n then o else h.ob k) = h.ob k
  rw [if_neg hk]
theorem put_sz {o : Ob} {n : Nat} : (h.put n o).sz = h.sz := rfl
end
end MP

set_option maxRecDepth 100000
set_option maxHeartbeats 4000000
namespace MP
open PySem L2
section
variable {α β : Type} {X : Exc → Hs → Prop} {h : Hs} {ρ : Env} {T : Tb} {cl : CallF} {S : Fl → Hs → Prop} {Y : Exc → Env → Hs → Prop}
/-! ### statements -/
theorem rv_nil : Rv (evSs T cl .nil ρ h) S Y = S (.nx ρ) h := by (first | rfl | (unfold Ok; rfl) | (unfold Rv; rfl) | (unfold Rv Ok; rfl))
theorem rv_cons {s : MS} {r : MSs} : Rv (evSs T cl (.cons s r) ρ h) S Y = Rv (evS T cl s ρ h) (nxt (evSs T cl r) S Y) Y := rv_seq
theorem rv_pass : Rv (evS T cl .pass ρ h) S Y = S (.nx ρ) h := by (first | rfl | (unfold Ok; rfl) | (unfold Rv; rfl) | (unfold Rv Ok; rfl))
theorem rv_brk : Rv (evS T cl .brk ρ h) S Y = S (.bk ρ) h := by (first | rfl | (unfold Ok; rfl) | (unfold Rv; rfl) | (unfold Rv Ok; rfl))
theorem rv_cont : Rv (evS T cl .cont ρ h) S Y = S (.ct ρ) h := by (first | rfl | (unfold Ok; rfl) | (unfold Rv; rfl) | (unfold Rv Ok; rfl))
theorem rv_retN : Rv (evS T cl .retN ρ h) S Y = S (.rt .non) h := by (first | rfl | (unfold Ok; rfl) | (unfold Rv; rfl) | (unfold Rv Ok; rfl))
theorem rv_expr {e : ME} : Rv (evS T cl (.expr e) ρ h) S Y = Ok (evE T cl e ρ h) (fun _ h' => S (.nx ρ) h') (fun x h' => Y x ρ h') := by
  simp only [evS, rv_wth, rv_fl]
theorem rv_asg {t : MT} {e : ME} : Rv (evS T cl (.asg t e) ρ h) S Y = Ok (evE T cl e ρ h) (fun x h' => Ok (asgT T cl t x ρ h') (fun ρ' h2 => S (.nx ρ') h2) (fun _ _ => False)) (fun x h' => Y x ρ h') := by
  simp only [evS, rv_wth, rv_fl, ok_bnd, ok_nx]
theorem rv_ret {e : ME} : Rv (evS T cl (.ret e) ρ h) S Y = Ok (evE T cl e ρ h) (fun x h' => S (.rt x) h') (fun x h' => Y x ρ h') := by
  simp only [evS, rv_wth, rv_fl]
theorem rv_ife {c : ME} {a b : MSs} : Rv (evS T cl (.ife c a b) ρ h) S Y = Ok (evE T cl c ρ h) (fun x h' => Ok (truV T.ro x h') (fun k h2 => if k = true then Rv (evSs T cl a ρ h2) S Y else Rv (evSs T cl b ρ h2) S Y) (fun x h' => Y x ρ h')) (fun x h' => Y x ρ h') := by
  simp only [evS, rv_wth, ok_bnd]
  congr 1
  funext x h'
  congr 1
  funext k h2
  split <;> rfl
theorem rv_aug {i : Nat} {e : ME} : Rv (evS T cl (.aug i e) ρ h) S Y = Ok (getv i ρ h) (fun x h' => Ok (evE T cl e ρ h') (fun y h2 => Ok (iaddV x y h2) (fun z h3 => Ok (setv i z ρ h3) (fun ρ' h4 => S (.nx ρ') h4) (fun x h' => Y x ρ h')) (fun x h' => Y x ρ h')) (fun x h' => Y x ρ h')) (fun x h' => Y x ρ h') := by
  simp only [evS, rv_wth, rv_fl, ok_bnd]
theorem rv_fors {t : MT} {it : MI} {b : MSs} : Rv (evS T cl (.for t it b) ρ h) S Y = Ok (evI T cl it ρ h) (fun s h' => Rv (loopS s (fun x ρ => wth (nx (asgT T cl t x ρ)) ρ fun ρ' h => evSs T cl b ρ' h) s.items ρ h') S Y) (fun x h' => Y x ρ h') := by
  simp only [evS, rv_wth]
theorem asg_v {i : Nat} {x : Val} : asgT T cl (.v i) x ρ = setv i x ρ := rfl
/-- a turn -/
theorem rv_turn {t : MT} {b : MSs} {x : Val} : Rv (wth (nx (asgT T cl t x ρ)) ρ (fun ρ' h => evSs T cl b ρ' h) h) S Y = Ok (asgT T cl t x ρ h) (fun ρ' h' => Rv (evSs T cl b ρ' h') S Y) (fun _ _ => False) := by
  rw [rv_wth, ok_nx]
theorem tur_nx {I : Env → Hs → Prop} : tur I S (.nx ρ) h = I ρ h := rfl
theorem tur_ct {I : Env → Hs → Prop} : tur I S (.ct ρ) h = I ρ h := rfl
theorem tur_bk {I : Env → Hs → Prop} : tur I S (.bk ρ) h = S (.nx ρ) h := rfl
theorem tur_rt {I : Env → Hs → Prop} {v : Val} : tur I S (.rt v) h = S (.rt v) h := rfl
/-! ### expressions -/
variable {Q : Val → Hs → Prop}
theorem ev_non : Ok (evE T cl .non ρ h) Q X = Q .non h := by (first | rfl | (unfold Ok; rfl) | (unfold Rv; rfl) | (unfold Rv Ok; rfl))
theorem ev_bl {b : Bool} : Ok (evE T cl (.bl b) ρ h) Q X = Q (.bl b) h := by (first | rfl | (unfold Ok; rfl) | (unfold Rv; rfl) | (unfold Rv Ok; rfl))
theorem ev_int {i : Int} : Ok (evE T cl (.int i) ρ h) Q X = Q (.int i) h := by (first | rfl | (unfold Ok; rfl) | (unfold Rv; rfl) | (unfold Rv Ok; rfl))
theorem ev_str {s : Str} : Ok (evE T cl (.str s) ρ h) Q X = Q (.str s) h := by (first | rfl | (unfold Ok; rfl) | (unfold Rv; rfl) | (unfold Rv Ok; rfl))
theorem ev_v {i : Nat} : Ok (evE T cl (.v i) ρ h) Q X = Ok (getv i ρ h) Q X := by (first | rfl | (unfold Ok; rfl) | (unfold Rv; rfl) | (unfold Rv Ok; rfl))
theorem ev_g {g : Nat} {v : Val} (e : T.glob g = some v) : Ok (evE T cl (.g g) ρ h) Q X = Q v h := by
  simp only [evE, e, ok_ret]
theorem ev_bin {op : BO} {a b : ME} : Ok (evE T cl (.bin op a b) ρ h) Q X = Ok (evE T cl a ρ h) (fun x h' => Ok (evE T cl b ρ h') (fun y h2 => Ok (binV op x y h2) Q X) X) X := by
  simp only [evE, ok_bnd]
theorem ev_cmp {op : CO} {a b : ME} : Ok (evE T cl (.cmp op a b) ρ h) Q X = Ok (evE T cl a ρ h) (fun x h' => Ok (evE T cl b ρ h') (fun y h2 => Ok (cmpV T.ro op x y h2) Q X) X) X := by
  simp only [evE, ok_bnd]
theorem ev_chain {op op' : CO} {a b c : ME} : Ok (evE T cl (.chain op op' a b c) ρ h) Q X = Ok (evE T cl a ρ h) (fun x h' => Ok (evE T cl b ρ h') (fun y h2 => Ok (cmpV T.ro op x y h2) (fun z h3 => Ok (asB z h3) (fun k h4 => if k = true then Ok (evE T cl c ρ h4) (fun w h5 => Ok (cmpV T.ro op' y w h5) Q X) X else Q (.bl false) h4) X) X) X) X := by
  simp only [evE, ok_bnd]
  congr 1; funext x h'; congr 1; funext y h2; congr 1; funext z h3; congr 1; funext k h4
  cases k
  · (first | rfl | (unfold Ok; rfl) | (unfold Rv; rfl) | (unfold Rv Ok; rfl))
  · simp only [if_true, ok_bnd]
theorem ev_lst {es : MEs} : Ok (evE T cl (.lst es) ρ h) Q X = Ok (evEs T cl es ρ h) (fun vs h' => vs.length ≤ sizeLine ∧ Q (.ref h'.sz) (h'.new (.lst vs))) X := by
  simp only [evE, ok_bnd]
  congr 1; funext vs h'
  split
  · rename_i e; simp only [e, true_and, ok_newO]
  · rename_i e; simp only [e, false_and]; (first | rfl | (unfold Ok; rfl) | (unfold Rv; rfl) | (unfold Rv Ok; rfl))
theorem ev_tup {es : MEs} : Ok (evE T cl (.tup es) ρ h) Q X = Ok (evEs T cl es ρ h) (fun vs h' => vs.length ≤ sizeLine ∧ Q (.tup vs) h') X := by
  simp only [evE, ok_bnd]
  congr 1; funext vs h'
  split
  · rename_i e; simp only [e, true_and, ok_ret]
  · rename_i e; simp only [e, false_and]; (first | rfl | (unfold Ok; rfl) | (unfold Rv; rfl) | (unfold Rv Ok; rfl))
theorem ev_enil {Q : List Val → Hs → Prop} : Ok (evEs T cl .nil ρ h) Q X = Q [] h := by (first | rfl | (unfold Ok; rfl) | (unfold Rv; rfl) | (unfold Rv Ok; rfl))
theorem ev_econs {Q : List Val → Hs → Prop} {a : ME} {r : MEs} : Ok (evEs T cl (.cons a r) ρ h) Q X = Ok (evE T cl a ρ h) (fun x h' => Ok (evEs T cl r ρ h') (fun xs h2 => Q (x :: xs) h2) X) X := by
  simp only [evEs, ok_bnd, ok_ret]
theorem ev_not {a : ME} : Ok (evE T cl (.not a) ρ h) Q X = Ok (evE T cl a ρ h) (fun x h' => Ok (asB x h') (fun b h2 => Q (.bl (!b)) h2) X) X := by
  simp only [evE, ok_bnd, ok_ret]
theorem ev_neg {a : ME} {i : Int} : Ok (evE T cl (.neg (.int i)) ρ h) Q X = Q (.int (-i)) h := by (first | rfl | (unfold Ok; rfl) | (unfold Rv; rfl) | (unfold Rv Ok; rfl))
theorem ev_ix {a b : ME} : Ok (evE T cl (.ix a b) ρ h) Q X = Ok (evE T cl a ρ h) (fun x h' => Ok (evE T cl b ρ h') (fun y h2 => Ok (ixV T.ro x y h2) Q X) X) X := by
  simp only [evE, ok_bnd]
theorem ev_rev {a : ME} : Ok (evE T cl (.rev a) ρ h) Q X = Ok (evE T cl a ρ h) (fun x h' => Ok (revV T.ro x h') Q X) X := by
  simp only [evE, ok_bnd]
theorem ev_sl {a : ME} {lo hi : MO} : Ok (evE T cl (.sl a lo hi) ρ h) Q X = Ok (evE T cl a ρ h) (fun x h' => Ok (evO T cl lo ρ h') (fun l h2 => Ok (evO T cl hi ρ h2) (fun u h3 => Ok (slV T.ro x l u h3) Q X) X) X) X := by
  simp only [evE, ok_bnd]
theorem ev_ono {Q : Option Int → Hs → Prop} : Ok (evO T cl .none ρ h) Q X = Q none h := by (first | rfl | (unfold Ok; rfl) | (unfold Rv; rfl) | (unfold Rv Ok; rfl))
theorem ev_osm {Q : Option Int → Hs → Prop} {a : ME} : Ok (evO T cl (.some a) ρ h) Q X = Ok (evE T cl a ρ h) (fun x h' => ∃ i, x = .int i ∧ Q (some i) h') X := by
  simp only [evO, ok_bnd]
  congr 1; funext x h'
  cases x with
  | int i => simp only [ok_ret, Val.int.injEq, exists_eq_left']
  | _ => simp only [reduceCtorEq, false_and, exists_false]; (first | rfl | (unfold Ok; rfl) | (unfold Rv; rfl) | (unfold Rv Ok; rfl))
theorem ev_call {f : Nat} {es : MEs} : Ok (evE T cl (.call f es) ρ h) Q X = Ok (evEs T cl es ρ h) (fun vs h' => Ok (cl f vs h') Q X) X := by
  simp only [evE, ok_bnd]
theorem ev_bi {b : BI} {es : MEs} : Ok (evE T cl (.bi b es) ρ h) Q X = Ok (evEs T cl es ρ h) (fun vs h' => Ok (biV T.ro b vs h') Q X) X := by
  simp only [evE, ok_bnd]
theorem ev_or1 {a b : ME} : Ok (evE T cl (.or (.cons a (.cons b .nil))) ρ h) Q X = Ok (evE T cl a ρ h) (fun x h' => Ok (asB x h') (fun k h2 => if k = true then Q (.bl true) h2 else Ok (evE T cl b ρ h2) (fun x h3 => Ok (asB x h3) (fun k h4 => Q (.bl k) h4) X) X) X) X := by
  simp only [evE, evOr, ok_bnd]
  congr 1; funext x h'; congr 1; funext k h2
  cases k
  · simp only [Bool.false_eq_true, if_false, ok_bnd, ok_ret]
  · (first | rfl | (unfold Ok; rfl) | (unfold Rv; rfl) | (unfold Rv Ok; rfl))
theorem ev_orS {a b c : ME} {r : MEs} : Ok (evE T cl (.or (.cons a (.cons b (.cons c r)))) ρ h) Q X = Ok (evE T cl a ρ h) (fun x h' => Ok (asB x h') (fun k h2 => if k = true then Q (.bl true) h2 else Ok (evE T cl (.or (.cons b (.cons c r))) ρ h2) Q X) X) X := by
  simp only [evE, evOr, ok_bnd]
  congr 1; funext x h'; congr 1; funext k h2
  cases k
  · simp only [Bool.false_eq_true, if_false, ok_bnd]
  · (first | rfl | (unfold Ok; rfl) | (unfold Rv; rfl) | (unfold Rv Ok; rfl))
theorem ev_and1 {a b : ME} : Ok (evE T cl (.and (.cons a (.cons b .nil))) ρ h) Q X = Ok (evE T cl a ρ h) (fun x h' => Ok (asB x h') (fun k h2 => if k = true then Ok (evE T cl b ρ h2) (fun x h3 => Ok (asB x h3) (fun k h4 => Q (.bl k) h4) X) X else Q (.bl false) h2) X) X := by
  simp only [evE, evAnd, ok_bnd]
  congr 1; funext x h'; congr 1; funext k h2
  cases k
  · (first | rfl | (unfold Ok; rfl) | (unfold Rv; rfl) | (unfold Rv Ok; rfl))
  · simp only [if_true, ok_bnd, ok_ret]
theorem ev_andS {a b c : ME} {r : MEs} : Ok (evE T cl (.and (.cons a (.cons b (.cons c r)))) ρ h) Q X = Ok (evE T cl a ρ h) (fun x h' => Ok (asB x h') (fun k h2 => if k = true then Ok (evE T cl (.and (.cons b (.cons c r))) ρ h2) Q X else Q (.bl false) h2) X) X := by
  simp only [evE, evAnd, ok_bnd]
  congr 1; funext x h'; congr 1; funext k h2
  cases k
  · (first | rfl | (unfold Ok; rfl) | (unfold Rv; rfl) | (unfold Rv Ok; rfl))
  · simp only [if_true, ok_bnd]
theorem ev_append {e : ME} {a : Nat} {xs : List Val} (he : Ok (evE T cl e ρ h) (fun v h' => h'.ob a = .lst xs ∧ xs.length < sizeLine ∧ Q .non (h'.put a (.lst (xs ++ [v])))) X) (i : Nat) (hi : getv i ρ h = .ok (.ref a) h) (ho : h.ob a = .lst xs) :
    Ok (evE T cl (.bm .append (.v i) (.cons e .nil)) ρ h) Q X := by
  have hb : bmTy .append (.ref a) h = true := by
    show (match h.ob a with | .lst _ => true | _ => false) = true
    rw [ho]
  show Ok (bnd (getv i ρ) _ h) Q X
  rw [bnd_ok hi]
  simp only [hb, if_true]
  rw [ok_bnd, ev_econs]
  refine ok_imp he fun v h' ⟨h1, h2, h3⟩ => ?_
  rw [ev_enil]
  show Ok (match h'.ob a with
    | .lst xs => if xs.length < sizeLine then .ok .non (h'.put a (.lst (xs ++ [v]))) else .no
    | _ => .no) Q X
  rw [h1]
  dsimp only
  rw [if_pos h2, ok_ok]
  exact h3
/-! ### sources -/
theorem ev_range {Q : Src → Hs → Prop} {es : MEs} : Ok (evI T cl (.range es) ρ h) Q X = Ok (evEs T cl es ρ h) (fun vs h' => Ok (rangeV vs h') Q X) X := by
  simp only [evI, ok_bnd]
theorem ev_val {Q : Src → Hs → Prop} {a : ME} : Ok (evI T cl (.val a) ρ h) Q X = Ok (evE T cl a ρ h) (fun x h' => Ok (valSrc T.ro x h') Q X) X := by
  simp only [evI, ok_bnd]
theorem ok_range1 {Q : Src → Hs → Prop} {n : Int} (hn : inR n = true) : Ok (rangeV [.int n] h) Q X = Q ⟨none, rng 0 n.toNat⟩ h := by
  show Ok ((if inR n = true then ret ⟨none, rng 0 n.toNat⟩ else no) h) Q X = _
  rw [if_pos hn]; (first | rfl | (unfold Ok; rfl) | (unfold Rv; rfl) | (unfold Rv Ok; rfl))
theorem ok_vlst {Q : Src → Hs → Prop} {a : Nat} {xs : List Val} (e : h.ob a = .lst xs) {ro : Ro} : Ok (valSrc ro (.ref a) h) Q X = Q ⟨some a, xs⟩ h := by
  show Ok (match h.ob a with
    | .lst xs => .ok ⟨some a, xs⟩ h
    | _ => .no) Q X = _
  rw [e]; (first | rfl | (unfold Ok; rfl) | (unfold Rv; rfl) | (unfold Rv Ok; rfl))
theorem rng_len {lo : Int} {n : Nat} : (rng lo n).length = n := by simp [rng]
theorem rng_at {lo : Int} {n i : Nat} {x : Val} (e : (rng lo n)[i]? = some x) : x = .int (lo + (i : Nat)) ∧ i < n := by
  simp only [rng, List.getElem?_map, Option.map_eq_some_iff] at e
  obtain ⟨k, hk, rfl⟩ := e
  obtain ⟨h1, h2⟩ := List.getElem?_eq_some_iff.mp hk
  simp at h1 h2
  subst h2
  exact ⟨rfl, h1⟩
theorem ok_len {a : Nat} {xs : List Val} (e : h.ob a = .lst xs) {ro : Ro} : Ok (biV ro .len [.ref a] h) Q X = Q (.int xs.length) h := by
  have : lenV ro h (.ref a) = some xs.length := by
    simp only [lenV, itemsV, tuV, sqV, e]
  show Ok (match lenV ro h (.ref a) with
    | some n => .ok (.int n) h
    | none => .no) Q X = _
  rw [this]; (first | rfl | (unfold Ok; rfl) | (unfold Rv; rfl) | (unfold Rv Ok; rfl))
theorem ok_lenC {c : Nat} {xs : List Val} {ro : Ro} (e : ro c = some (false, xs)) : Ok (biV ro .len [.cst c] h) Q X = Q (.int xs.length) h := by
  have : lenV ro h (.cst c) = some xs.length := by
    simp [lenV, itemsV, tuV, sqV, roL, e]
  show Ok (match lenV ro h (.cst c) with
    | some n => .ok (.int n) h
    | none => .no) Q X = _
  rw [this]; (first | rfl | (unfold Ok; rfl) | (unfold Rv; rfl) | (unfold Rv Ok; rfl))
theorem ok_int {i : Int} {ro : Ro} : Ok (biV ro .int [.int i] h) Q X = Q (.int i) h := by (first | rfl | (unfold Ok; rfl) | (unfold Rv; rfl) | (unfold Rv Ok; rfl))
theorem ok_ixL {a : Nat} {xs : List Val} {i : Int} {v : Val} (e : h.ob a = .lst xs) (hv : atI xs i = some v) {ro : Ro} : Ok (ixV ro (.ref a) (.int i) h) Q X = Q v h := by
  have : sqV ro h (.ref a) = some xs := by simp only [sqV, e]
  unfold ixV
  rw [this]
  dsimp only
  rw [hv]
  (first | rfl | (unfold Ok; rfl) | (unfold Rv; rfl) | (unfold Rv Ok; rfl))
theorem ok_ixC {c : Nat} {xs : List Val} {i : Int} {v : Val} {ro : Ro} (e : ro c = some (false, xs)) (hv : atI xs i = some v) : Ok (ixV ro (.cst c) (.int i) h) Q X = Q v h := by
  have : sqV ro h (.cst c) = some xs := by simp [sqV, roL, e]
  unfold ixV
  rw [this]
  dsimp only
  rw [hv]
  (first | rfl | (unfold Ok; rfl) | (unfold Rv; rfl) | (unfold Rv Ok; rfl))
theorem ok_revL {a : Nat} {xs : List Val} (e : h.ob a = .lst xs) {ro : Ro} : Ok (revV ro (.ref a) h) Q X = Q (.ref h.sz) (h.new (.lst xs.reverse)) := by
  have : sqV ro h (.ref a) = some xs := by simp only [sqV, e]
  unfold revV
  rw [this]
  (first | rfl | (unfold Ok; rfl) | (unfold Rv; rfl) | (unfold Rv Ok; rfl))
theorem ok_slL {a : Nat} {xs : List Val} (e : h.ob a = .lst xs) {lo hi : Option Int} {ro : Ro} : Ok (slV ro (.ref a) lo hi h) Q X = Q (.ref h.sz) (h.new (.lst (cut xs lo hi))) := by
  have : sqV ro h (.ref a) = some xs := by simp only [sqV, e]
  unfold slV
  rw [this]
  (first | rfl | (unfold Ok; rfl) | (unfold Rv; rfl) | (unfold Rv Ok; rfl))
/-! ### calls -/
def rtQ (Q : Val → Hs → Prop) (f : Fl) (h : Hs) : Prop := match f with
  | .nx _ => Q .non h
  | .rt v => Q v h
  | _ => False
theorem rtQ_nx : rtQ Q (.nx ρ) h = Q .non h := rfl
theorem rtQ_rt {v : Val} : rtQ Q (.rt v) h = Q v h := rfl
theorem ok_callD {d f : Nat} {F : Fn} {vs : List Val} (hf : T.fn f = some F) (h1 : vs.length = F.np) (h2 : F.np ≤ F.ns) (p : Rv (evSs T (callD T d) F.body (vs.map some ++ List.replicate (F.ns - F.np) none) h) (rtQ Q) (fun x _ h => X x h)) : Ok (callD T (d + 1) f vs h) Q X := by
  show Ok ((match T.fn f with
    | some F => runF T (callD T d) F vs
    | none => no) h) Q X
  rw [hf]
  show Ok (if vs.length = F.np ∧ F.np ≤ F.ns then _ else _) Q X
  rw [if_pos ⟨h1, h2⟩]
  revert p
  unfold Rv Ok
  cases evSs T (callD T d) F.body (vs.map some ++ List.replicate (F.ns - F.np) none) h with
  | fl f h' => cases f <;> exact fun p => p
  | ex x ρ h' => exact fun p => p
  | no => exact fun p => p
theorem ok_call {d f np ns : Nat} {B : MSs} {vs : List Val} {ρ : Env} (hf : T.fn f = some ⟨np, ns, B⟩) (h1 : vs.length = np) (h2 : np ≤ ns) (hρ : vs.map some ++ List.replicate (ns - np) none = ρ) (p : Rv (evSs T (callD T d) B ρ h) (rtQ Q) (fun x _ h => X x h)) : Ok (callD T (d + 1) f vs h) Q X :=
  ok_callD hf h1 h2 (by rw [hρ]; exact p)
theorem run_of {d f : Nat} {vs : List Val} {v : Val} (p : Ok (callD T d f vs h) (fun u _ => u = v) (fun _ _ => False)) : ∃ h', callD T d f vs h = .ok v h' := by
  revert p
  unfold Ok
  cases callD T d f vs h with
  | ok a h' => exact fun p => ⟨h', by rw [show a = v from p]⟩
  | ex x h' => exact fun p => p.elim
  | no => exact fun p => p.elim
end
end MP
namespace MP
open PySem L2
section
variable {X : Exc → Hs → Prop} {h : Hs} {ρ : Env} {T : Tb} {cl : CallF} {Q : Val → Hs → Prop}
/-- a comprehension's turn -/
def ctur (T : Tb) (cl : CallF) (own : List Nat) (elt : ME) (tg : MT) (ifs : MO) (ρ : Env) (x : Val) : M (Option Val) := bnd (asgT T cl tg x (wipe ρ own)) fun ρ' => bnd (evIf T cl ifs ρ') fun b =>
      if b = true then bnd (evE T cl elt ρ') fun y => ret (some y) else ret none
theorem ev_comp {own : List Nat} {elt : ME} {tg : MT} {it : MI} {ifs : MO} : Ok (evE T cl (.comp own elt tg it ifs) ρ h) Q X = Ok (evI T cl it ρ h) (fun s h' => s.items.length ≤ sizeLine ∧ Ok (compL s (ctur T cl own elt tg ifs ρ) s.items h') (fun vs h2 => Q (.ref h2.sz) (h2.new (.lst vs))) X) X := by
  simp only [evE, ok_bnd]
  congr 1; funext s h'
  by_cases e : s.items.length ≤ sizeLine
  · rw [if_pos e]
    simp only [e, true_and, ok_bnd, ok_newO]
    rfl
  · rw [if_neg e]
    simp only [e, false_and]
    unfold Ok; rfl
theorem ctur_none {own : List Nat} {elt : ME} {tg : MT} {x : Val} {Q : Option Val → Hs → Prop} : Ok (ctur T cl own elt tg .none ρ x h) Q X = Ok (asgT T cl tg x (wipe ρ own) h) (fun ρ' h' => Ok (evE T cl elt ρ' h') (fun y h2 => Q (some y) h2) X) X := by
  simp only [ctur, evIf, ok_bnd, ok_ret, if_true]
theorem ctur_some {own : List Nat} {elt c : ME} {tg : MT} {x : Val} {Q : Option Val → Hs → Prop} : Ok (ctur T cl own elt tg (.some c) ρ x h) Q X = Ok (asgT T cl tg x (wipe ρ own) h) (fun ρ' h' => Ok (evE T cl c ρ' h') (fun v h2 => Ok (truV T.ro v h2) (fun b h3 => if b = true then Ok (evE T cl elt ρ' h3) (fun y h2 => Q (some y) h2) X else Q none h3) X) X) X := by
  simp only [ctur, evIf, ok_bnd]
  congr 1; funext ρ' h'; congr 1; funext v h2; congr 1; funext b h3
  cases b
  · simp only [Bool.false_eq_true, if_false, ok_ret]
  · simp only [if_true, ok_bnd, ok_ret]
theorem ok_comp2 {s : Src} {turn : Val → M (Option Val)} {Q : List Val → Hs → Prop} (f : Val → Val) (hc : s.chk h = true) (ht : ∀ x ∈ s.items, Ok (turn x h) (fun o h' => o = some (f x) ∧ h' = h) (fun _ _ => False)) (hq : Q (s.items.map f) h) : Ok (compL s turn s.items h) Q X := by
  have e := compL_map (turn := turn) (f := f) hc s.items fun x hx => by
    obtain ⟨a, h', e, e1, e2⟩ := ok_eq (X := fun _ _ => False) (ht x hx)
    rw [e, e1, e2]
  rw [e, ok_ok]
  exact hq
theorem wipe_nil : wipe ρ [] = ρ := rfl
theorem wipe_cons {v : Nat} {vs : List Nat} : wipe ρ (v :: vs) = (wipe ρ vs).set v none := rfl
end
end MP

set_option maxRecDepth 100000
set_option maxHeartbeats 4000000
namespace MP
open PySem L2
def dB0 : MSs := .cons (.asg (.v 4) (.bin .mod (.bi .int (.cons (.bin .add (.bin .mul (.v 4) (.int 6364136223846793005)) (.bin .mul (.int 1442695040888963407) (.bin .add (.v 3) (.int 1)))) .nil)) (.int 9223372036854775783))) (.cons (.asg (.v 4) (.bin .mod (.bi .int (.cons (.bin .add (.bin .add (.bin .mul (.v 4) (.int 2862933555777941757)) (.int 3037000493)) (.v 3)) .nil)) (.int 18446744073709551557))) .nil)
def dB2 : MSs := .cons (.asg (.v 4) (.bin .sub (.int 1) (.bin .mul (.int 2) (.v 4)))) .nil
def dB4 : MSs := .cons (.asg (.v 4) (.bi .int (.cons (.ix (.v 0) (.bin .mod (.v 3) (.bi .len (.cons (.v 0) .nil)))) .nil))) .nil
def dB6 : MSs := .cons (.asg (.v 4) (.int 0)) (.cons (.ife (.cmp .gt (.bi .len (.cons (.v 0) .nil)) (.int 0)) dB4 .nil) (.cons (.ife (.cmp .lt (.v 4) (.int 0)) dB2 .nil) (.cons (.ife (.or (.cons (.cmp .lt (.v 4) (.int 1000000000)) (.cons (.cmp .ge (.v 3) (.bi .len (.cons (.v 0) .nil))) .nil))) dB0 .nil) (.cons (.expr (.bm .append (.v 2) (.cons (.v 4) .nil))) .nil))))
def dB : MSs := .cons (.asg (.v 2) (.lst .nil)) (.cons (.for (.v 3) (.range (.cons (.v 1) .nil)) dB6) (.cons (.ret (.v 2)) .nil))
section
variable {X : Exc → Hs → Prop} {h : Hs} {T : Tb} {Q : Val → Hs → Prop}
theorem mulOk_r {i j : Int} (h1 : -(2 ^ 64) < j) (h2 : j < 2 ^ 64) : mulOk i j = true := by
  unfold mulOk
  rw [decide_eq_true h1, decide_eq_true h2]
  simp
theorem mulOk_l {i j : Int} (h1 : -(2 ^ 64) < i) (h2 : i < 2 ^ 64) : mulOk i j = true := by
  unfold mulOk
  rw [decide_eq_true h1, decide_eq_true h2]
  simp
theorem atI_of {xs : List Val} {i : Int} {j : Nat} (e : i = (j : Int)) (hj : j < xs.length) : atI xs i = some xs[j] := by
  subst e
  have h1 : ixN xs.length (j : Int) = some j := by
    unfold ixN
    simp [hj]
  unfold atI
  rw [h1]
  exact List.getElem?_eq_getElem hj
theorem atI_ints {ns : List Int} {i : Int} (h0 : 0 ≤ i) (h1 : i < ns.length) : ∃ z, z ∈ ns ∧ ns[i.toNat]? = some z ∧ atI (ns.map Val.int) i = some (.int z) := by
  have hj : i.toNat < ns.length := by omega
  refine ⟨ns[i.toNat], List.getElem_mem hj, List.getElem?_eq_getElem hj, ?_⟩
  have hj' : i.toNat < (ns.map Val.int).length := by rw [List.length_map]; exact hj
  rw [atI_of (j := i.toNat) (by omega) hj']
  rw [List.getElem_map]
theorem big_line : 1000 < sizeLine := by decide
abbrev dEnv (n : Int) (r : Nat) (k c : Int) : Env := [some (.cst 0), some (.int n), some (.ref r), some (.int k), some (.int c)]
section
variable {cl : CallF} {S : Fl → Hs → Prop} {Y : Exc → Env → Hs → Prop} {n k c : Int} {r : Nat} {xs : List Int} {ns : List Int}
def dT3 : MSs := .cons (.expr (.bm .append (.v 2) (.cons (.v 4) .nil))) .nil
def dT2 : MSs := .cons (.ife (.or (.cons (.cmp .lt (.v 4) (.int 1000000000)) (.cons (.cmp .ge (.v 3) (.bi .len (.cons (.v 0) .nil))) .nil))) dB0 .nil) dT3
def dT1 : MSs := .cons (.ife (.cmp .lt (.v 4) (.int 0)) dB2 .nil) dT2
theorem dT3_ok (hc : 0 ≤ c) (hob : h.ob r = .lst (xs.map Val.int)) (hl : xs.length ≤ 1000) (q : ∀ c, 0 ≤ c → S (.nx (dEnv n r k c)) (h.put r (.lst ((xs ++ [c]).map Val.int)))) : Rv (evSs T cl dT3 (dEnv n r k c) h) S Y := by
  simp only [dT3, rv_cons, rv_expr]
  refine ev_append (a := r) (xs := xs.map Val.int) ?_ 2 rfl hob
  simp only [ev_v, getvS, getv0, ok_ret]
  refine ⟨hob, by rw [List.length_map]; exact Nat.lt_of_le_of_lt hl big_line, ?_⟩
  simp only [nxt_nx, rv_nil]
  have := q c hc
  rw [List.map_append] at this
  exact this
theorem dB0_ok (q : ∀ c, 0 ≤ c → S (.nx (dEnv n r k c)) h) : Rv (evSs T cl dB0 (dEnv n r k c) h) S Y := by
  simp only [dB0, rv_cons, rv_asg, ev_bin, ev_bi, ev_econs, ev_enil, ev_v, ev_int, getvS, getv0, ok_ret, ok_add, ok_mul, ok_int, ok_mod, asg_v, ok_setv, List.length_cons, List.length_nil, List.set_cons_succ, List.set_cons_zero, nxt_nx, rv_nil]
  refine ⟨mulOk_r (by decide) (by decide), mulOk_l (by decide) (by decide), by decide, by decide, mulOk_r (by decide) (by decide), by decide, by decide, ?_⟩
  exact q _ (Int.emod_nonneg _ (by decide : (18446744073709551557 : Int) ≠ 0))
theorem dT2_ok (hro : T.ro 0 = some (false, ns.map Val.int)) (hc : 0 ≤ c) (hob : h.ob r = .lst (xs.map Val.int)) (hl : xs.length ≤ 1000) (q : ∀ c, 0 ≤ c → S (.nx (dEnv n r k c)) (h.put r (.lst ((xs ++ [c]).map Val.int)))) : Rv (evSs T cl dT2 (dEnv n r k c) h) S Y := by
  have key : ∀ b : Bool, if b = true then Rv (evSs T cl dB0 (dEnv n r k c) h) (nxt (evSs T cl dT3) S Y) Y else Rv (evSs T cl .nil (dEnv n r k c) h) (nxt (evSs T cl dT3) S Y) Y := by
    intro b
    cases b
    · rw [if_neg Bool.false_ne_true, rv_nil, nxt_nx]
      exact dT3_ok hc hob hl q
    · rw [if_pos rfl]
      exact dB0_ok fun c' hc' => by
        rw [nxt_nx]
        exact dT3_ok hc' hob hl q
  unfold dT2
  rw [rv_cons, rv_ife, ev_or1]
  simp only [ev_cmp, ev_v, ev_int, getvS, getv0, ok_ret, ok_lt, ok_asB]
  by_cases hc2 : c < 1000000000
  · rw [if_pos (decide_eq_true hc2), ok_truB]
    exact key true
  · rw [if_neg (by rw [decide_eq_false hc2]; decide)]
    simp only [ev_bi, ev_econs, ev_enil, ev_v, getv0, ok_ret]
    rw [ok_lenC hro]
    simp only [ok_ge, ok_asB, ok_truB]
    exact key _
theorem dT1_ok (hro : T.ro 0 = some (false, ns.map Val.int)) (hob : h.ob r = .lst (xs.map Val.int)) (hl : xs.length ≤ 1000) (q : ∀ c, 0 ≤ c → S (.nx (dEnv n r k c)) (h.put r (.lst ((xs ++ [c]).map Val.int)))) : Rv (evSs T cl dT1 (dEnv n r k c) h) S Y := by
  unfold dT1
  rw [rv_cons, rv_ife]
  simp only [ev_cmp, ev_v, ev_int, getvS, getv0, ok_ret, ok_lt, ok_truB]
  by_cases hc : c < 0
  · rw [if_pos (decide_eq_true hc)]
    simp only [dB2, rv_cons (s := .asg _ _), rv_asg, ev_bin, ev_v, ev_int, getvS, getv0, ok_ret, ok_mul, ok_sub, asg_v, ok_setv, List.length_cons, List.length_nil, List.set_cons_succ, List.set_cons_zero]
    refine ⟨mulOk_l (by decide) (by decide), by decide, ?_⟩
    rw [nxt_nx, rv_nil, nxt_nx]
    exact dT2_ok hro (by omega) hob hl q
  · rw [if_neg (by rw [decide_eq_false hc]; decide), rv_nil, nxt_nx]
    exact dT2_ok hro (by omega) hob hl q
theorem dB6_ok {b : Option Val} (hro : T.ro 0 = some (false, ns.map Val.int)) (hk : 0 ≤ k) (hob : h.ob r = .lst (xs.map Val.int)) (hl : xs.length ≤ 1000) (q : ∀ c, 0 ≤ c → S (.nx (dEnv n r k c)) (h.put r (.lst ((xs ++ [c]).map Val.int)))) :
    Rv (evSs T cl dB6 [some (.cst 0), some (.int n), some (.ref r), some (.int k), b] h) S Y := by
  show Rv (evSs T cl (.cons (.asg (.v 4) (.int 0)) (.cons (.ife (.cmp .gt (.bi .len (.cons (.v 0) .nil)) (.int 0)) dB4 .nil) dT1)) _ h) S Y
  rw [rv_cons, rv_asg]
  simp only [ev_int, asg_v, ok_setv, List.length_cons, List.length_nil, List.set_cons_succ, List.set_cons_zero]
  refine ⟨by decide, ?_⟩
  rw [nxt_nx, rv_cons, rv_ife]
  simp only [ev_cmp, ev_bi, ev_econs, ev_enil, ev_v, ev_int, getvS, getv0, ok_ret]
  rw [ok_lenC hro]
  simp only [ok_gt, ok_truB]
  by_cases hc : (0 : Int) < ((ns.map Val.int).length : Int)
  · rw [if_pos (decide_eq_true hc)]
    have hL : (0 : Int) < (ns.length : Int) := by simpa using hc
    simp only [dB4, rv_cons (s := .asg _ _), rv_asg, ev_bin, ev_bi, ev_ix, ev_econs, ev_enil, ev_v, ev_int, getvS, getv0, ok_ret]
    rw [ok_lenC hro]
    rw [ok_mod]
    refine ⟨hc, ?_⟩
    have l1 : (((ns.map Val.int).length : Nat) : Int) = (ns.length : Int) := by rw [List.length_map]
    rw [l1]
    obtain ⟨z, _, _, hz⟩ := atI_ints (ns := ns) (i := k % (ns.length : Int)) (Int.emod_nonneg _ (by omega)) (Int.emod_lt_of_pos _ hL)
    rw [ok_ixC hro hz]
    simp only [ok_int, asg_v, ok_setv, List.length_cons, List.length_nil, List.set_cons_succ, List.set_cons_zero]
    refine ⟨by decide, ?_⟩
    rw [nxt_nx, rv_nil, nxt_nx]
    exact dT1_ok hro hob hl q
  · rw [if_neg (by rw [decide_eq_false hc]; decide), rv_nil, nxt_nx]
    exact dT1_ok hro hob hl q
end
theorem inR_mk {n : Int} (h0 : 0 ≤ n) (h1 : n ≤ 1000000) : inR n = true := by
  unfold inR
  have a : -(2 ^ 62) ≤ n := Int.le_trans (by decide) h0
  have b : n < 2 ^ 62 := Int.lt_of_le_of_lt h1 (by decide)
  rw [decide_eq_true a, decide_eq_true b]
  rfl
theorem draws_loop {cl : CallF} {S : Fl → Hs → Prop} {Y : Exc → Env → Hs → Prop} {ns : List Int} {n r : Nat} (hro : T.ro 0 = some (false, ns.map Val.int)) (hn : n ≤ 1000) (hr : r < h.sz) (ho : h.ob r = .lst [])
    (hq : ∀ (xs : List Int) h' a b, xs.length = n → (∀ x ∈ xs, 0 ≤ x) → h'.sz = h.sz → (∀ k, k ≠ r → h'.ob k = h.ob k) → h'.ob r = .lst (xs.map Val.int) → S (.nx [some (.cst 0), some (.int n), some (.ref r), a, b]) h') :
    Rv (evS T cl (.for (.v 3) (.range (.cons (.v 1) .nil)) dB6) [some (.cst 0), some (.int n), some (.ref r), none, none] h) S Y := by
  rw [rv_fors, ev_range, ev_econs, ev_v, getvS, getv0, ok_ret, ev_enil]
  rw [ok_range1 (inR_mk (by omega) (by omega))]
  refine rv_for (fun i ρ h' => ∃ (xs : List Int) (a b : Option Val), ρ = [some (.cst 0), some (.int n), some (.ref r), a, b] ∧ xs.length = i ∧ i ≤ n ∧ (∀ x ∈ xs, 0 ≤ x) ∧ h'.sz = h.sz ∧ (∀ k, k ≠ r → h'.ob k = h.ob k) ∧ h'.ob r = .lst (xs.map Val.int)) ⟨[], none, none, rfl, rfl, Nat.zero_le _, (fun _ z => nomatch z), rfl, fun _ _ => rfl, ho⟩ (fun _ _ _ _ => rfl) ?_ ?_
  · rintro i x ρ h1 hi ⟨xs, a, b, rfl, hlen, _, hnn, hsz, hk, hob⟩
    obtain ⟨rfl, hin⟩ := rng_at hi
    rw [Int.toNat_natCast] at hin
    rw [rv_turn, asg_v, ok_setv]
    refine ⟨by simp, ?_⟩
    refine dB6_ok (xs := xs) hro (by omega) hob (by omega) fun c hc => ?_
    rw [tur_nx]
    refine ⟨xs ++ [c], some (.int (0 + (i : Nat))), some (.int c), rfl, by rw [List.length_append, hlen]; rfl, hin, ?_, hsz, ?_, put_at⟩
    · intro x hx
      rcases List.mem_append.mp hx with z | z
      · exact hnn x z
      · rw [List.mem_singleton.mp z]; exact hc
    · intro k hkk
      rw [put_ne hkk]; exact hk k hkk
  · rintro ρ h1 ⟨xs, a, b, rfl, hlen, _, hnn, hsz, hk, hob⟩
    refine hq xs h1 a b ?_ hnn hsz hk hob
    rw [hlen]
    simp [rng_len]
theorem draws_body {cl : CallF} {S : Fl → Hs → Prop} {Y : Exc → Env → Hs → Prop} {ns : List Int} {n : Nat} (hro : T.ro 0 = some (false, ns.map Val.int)) (hn : n ≤ 1000)
    (hq : ∀ (xs : List Int) h', xs.length = n → (∀ x ∈ xs, 0 ≤ x) → Keep h h' → h.sz < h'.sz → h'.ob h.sz = .lst (xs.map Val.int) → S (.rt (.ref h.sz)) h') : Rv (evSs T cl dB [some (.cst 0), some (.int n), none, none, none] h) S Y := by
  unfold dB
  rw [rv_cons, rv_asg, ev_lst, ev_enil]
  refine ⟨Nat.zero_le _, ?_⟩
  rw [asg_v, ok_setv]
  refine ⟨by simp, ?_⟩
  rw [nxt_nx, rv_cons]
  have k1 : h.sz < (h.new (.lst [])).sz := Nat.lt_succ_self _
  have k2 : (h.new (.lst [])).ob h.sz = .lst [] := new_at
  generalize hb : evSs T cl (.cons (.ret (.v 2)) .nil) = b'
  have z := @draws_loop (h.new (.lst [])) T cl (nxt b' S Y) Y ns n h.sz hro hn k1 k2
  refine z fun xs h' a b h1 h2 h3 h4 h5 => ?_
  rw [nxt_nx, ← hb, rv_cons, rv_ret, ev_v, getvS, getvS, getv0, ok_ret, nxt_rt]
  exact hq xs h' h1 h2 ⟨by rw [h3]; exact Nat.le_succ _, fun k hk => by rw [h4 k (Nat.ne_of_lt hk), new_lo hk]⟩ (by rw [h3]; exact Nat.lt_succ_self _) h5
/-- _law_draws: n numbers, none below 0 -/
theorem draws_ok {d f : Nat} {ns : List Int} {n : Nat} (hf : T.fn f = some ⟨2, 5, dB⟩) (hro : T.ro 0 = some (false, ns.map Val.int)) (hn : n ≤ 1000)
    (hq : ∀ (xs : List Int) h', xs.length = n → (∀ x ∈ xs, 0 ≤ x) → Keep h h' → h.sz < h'.sz → h'.ob h.sz = .lst (xs.map Val.int) → Q (.ref h.sz) h') : Ok (callD T (d + 1) f [.cst 0, .int n] h) Q X :=
  by
  have z := @draws_body h T (callD T d) (rtQ Q) (fun x _ h => X x h) ns n hro hn fun xs h' h1 h2 h3 h4 h5 => by
    rw [rtQ_rt]
    exact hq xs h' h1 h2 h3 h4 h5
  exact ok_call hf rfl (by decide) rfl z
end
end MP

set_option maxRecDepth 100000
set_option maxHeartbeats 4000000
/-! ### the table (written by gen.py) -/
namespace Z
open PySem MP L2
def tx (i : Nat) : Stmt := PySem.Challenge.pw_tidemark_k24_standing_roots.main.body.getD i (.Pass ⟨0, 0, 0, 0⟩)
def body0 : MSs := .cons (.ret (.and (.cons (.cmp .eq (.ix (.v 0) (.int 0)) (.str "right")) (.cons (.cmp .eq (.ix (.ix (.v 0) (.int 1)) (.int 0)) (.str "root")) .nil)))) .nil
abbrev st0 : Stmt := tx 1
def D0 : Df := ⟨⟨1, 1, body0⟩, st0, ["reading"], ["reading"]⟩
def b1_0 : MSs := .cons (.ret (.v 1)) .nil
def b1_1 : MSs := .cons (.asg (.v 1) (.tup (.cons (.v 2) (.cons (.ix (.ix (.v 3) (.v 4)) (.int 1)) .nil)))) .nil
def b1_2 : MSs := .nil
def b1_3 : MSs := .cons (.ife (.or (.cons (.cmp .is (.v 1) (.non)) (.cons (.cmp .gt (.ix (.ix (.ix (.v 3) (.v 4)) (.int 1)) (.int 1)) (.ix (.ix (.v 1) (.int 1)) (.int 1))) .nil))) (b1_1) (b1_2)) .nil
def b1_4 : MSs := .nil
def b1_5 : MSs := .cons (.ife (.and (.cons (.call 0 (.cons (.ix (.v 3) (.v 4)) .nil)) (.cons (.cmp .ne (.ix (.v 3) (.bin .add (.v 4) (.int 1))) (.tup (.cons (.str "blank") .nil))) .nil))) (b1_3) (b1_4)) .nil
def b1_6 : MSs := .cons (.asg (.v 3) (.ix (.v 0) (.v 2))) (.cons (.for (.v 4) (.range (.cons (.int 0) (.cons (.bin .sub (.bi .len (.cons (.v 3) .nil)) (.int 1)) (.cons (.int 2) .nil)))) (b1_5)) .nil)
def body1 : MSs := .cons (.asg (.v 1) (.non)) (.cons (.for (.v 2) (.range (.cons (.bi .len (.cons (.v 0) .nil)) .nil)) (b1_6)) b1_0)
abbrev st1 : Stmt := tx 2
def D1 : Df := ⟨⟨1, 5, body1⟩, st1, ["scan", "best", "block", "readings", "page"], ["scan"]⟩
def b2_0 : MSs := .cons (.ret (.v 2)) .nil
def b2_1 : MSs := .cons (.expr (.bm .append (.v 2) (.cons (.v 4) .nil))) .nil
def b2_2 : MSs := .cons (.asg (.v 4) (.bin .mod (.bi .int (.cons (.bin .add (.bin .mul (.v 4) (.int 6364136223846793005)) (.bin .mul (.int 1442695040888963407) (.bin .add (.v 3) (.int 1)))) .nil)) (.int 9223372036854775783))) (.cons (.asg (.v 4) (.bin .mod (.bi .int (.cons (.bin .add (.bin .add (.bin .mul (.v 4) (.int 2862933555777941757)) (.int 3037000493)) (.v 3)) .nil)) (.int 18446744073709551557))) .nil)
def b2_3 : MSs := .nil
def b2_4 : MSs := .cons (.ife (.or (.cons (.cmp .lt (.v 4) (.int 1000000000)) (.cons (.cmp .ge (.v 3) (.bi .len (.cons (.v 0) .nil))) .nil))) (b2_2) (b2_3)) b2_1
def b2_5 : MSs := .cons (.asg (.v 4) (.bin .sub (.int 1) (.bin .mul (.int 2) (.v 4)))) .nil
def b2_6 : MSs := .nil
def b2_7 : MSs := .cons (.ife (.cmp .lt (.v 4) (.int 0)) (b2_5) (b2_6)) b2_4
def b2_8 : MSs := .cons (.asg (.v 4) (.bi .int (.cons (.ix (.v 0) (.bin .mod (.v 3) (.bi .len (.cons (.v 0) .nil)))) .nil))) .nil
def b2_9 : MSs := .nil
def b2_10 : MSs := .cons (.asg (.v 4) (.int 0)) (.cons (.ife (.cmp .gt (.bi .len (.cons (.v 0) .nil)) (.int 0)) (b2_8) (b2_9)) b2_7)
def body2 : MSs := .cons (.asg (.v 2) (.lst (.nil))) (.cons (.for (.v 3) (.range (.cons (.v 1) .nil)) (b2_10)) b2_0)
abbrev st2 : Stmt := tx 4
def D2 : Df := ⟨⟨2, 5, body2⟩, st2, ["_law_script", "_law_count", "_law_draws_here", "_law_k", "_law_cell"], ["_law_script", "_law_count"]⟩
def b3_0 : MSs := .cons (.ret (.tup (.cons (.str "right") (.cons (.tup (.cons (.str "root") (.cons (.bin .mod (.bin .fdiv (.v 0) (.int 9)) (.int 5)) (.cons (.bin .mod (.bin .fdiv (.v 0) (.int 45)) (.int 3)) (.cons (.non) (.cons (.tup (.cons (.int 0) (.cons (.int 1) .nil))) (.cons (.tup (.cons (.int 1) (.cons (.int 2) .nil))) (.cons (.tup (.cons (.int 1) (.cons (.int 1) .nil))) (.cons (.tup (.nil)) .nil))))))))) .nil)))) .nil
def b3_1 : MSs := .cons (.ret (.tup (.cons (.str "right") (.cons (.tup (.cons (.str "item") (.cons (.int 1) (.cons (.int 1) (.cons (.bl true) (.cons (.int 1) (.cons (.non) .nil))))))) .nil)))) .nil
def b3_2 : MSs := .nil
def b3_3 : MSs := .cons (.ife (.cmp .eq (.v 1) (.int 4)) (b3_1) (b3_2)) b3_0
def b3_4 : MSs := .cons (.ret (.tup (.cons (.str "right") (.cons (.tup (.cons (.str "mark") (.cons (.bin .mod (.bin .fdiv (.v 0) (.int 9)) (.int 5)) .nil))) .nil)))) .nil
def b3_5 : MSs := .nil
def b3_6 : MSs := .cons (.ife (.cmp .eq (.v 1) (.int 3)) (b3_4) (b3_5)) b3_3
def b3_7 : MSs := .cons (.ret (.tup (.cons (.str "damaged") .nil))) .nil
def b3_8 : MSs := .nil
def b3_9 : MSs := .cons (.ife (.cmp .eq (.v 1) (.int 2)) (b3_7) (b3_8)) b3_6
def b3_10 : MSs := .cons (.ret (.tup (.cons (.str "blank") .nil))) .nil
def b3_11 : MSs := .nil
def body3 : MSs := .cons (.asg (.v 1) (.bin .mod (.v 0) (.int 9))) (.cons (.ife (.cmp .lt (.v 1) (.int 2)) (b3_10) (b3_11)) b3_9)
abbrev st3 : Stmt := tx 5
def D3 : Df := ⟨⟨1, 2, body3⟩, st3, ["_law_draw", "_law_which"], ["_law_draw"]⟩
def b4_0 : MSs := .cons (.ret (.cmp .eq (.call 1 (.cons (.v 3) .nil)) (.v 4))) .nil
def b4_1 : MSs := .cons (.asg (.v 4) (.tup (.cons (.v 5) (.cons (.ix (.v 7) (.int 1)) .nil)))) .nil
def b4_2 : MSs := .nil
def b4_3 : MSs := .cons (.asg (.v 7) (.ix (.ix (.v 3) (.v 5)) (.v 6))) (.cons (.asg (.v 8) (.and (.cons (.cmp .eq (.ix (.v 7) (.int 0)) (.str "right")) (.cons (.cmp .eq (.ix (.ix (.v 7) (.int 1)) (.int 0)) (.str "root")) (.cons (.cmp .ne (.ix (.ix (.ix (.v 3) (.v 5)) (.bin .add (.v 6) (.int 1))) (.int 0)) (.str "blank")) .nil))))) (.cons (.ife (.and (.cons (.v 8) (.cons (.or (.cons (.cmp .is (.v 4) (.non)) (.cons (.cmp .lt (.ix (.ix (.v 4) (.int 1)) (.int 1)) (.ix (.ix (.v 7) (.int 1)) (.int 1))) .nil))) .nil))) (b4_1) (b4_2)) .nil))
def b4_4 : MSs := .cons (.for (.v 6) (.range (.cons (.int 0) (.cons (.bin .sub (.v 2) (.int 1)) (.cons (.int 2) .nil)))) (b4_3)) .nil
def body4 : MSs := .cons (.asg (.v 1) (.call 2 (.cons (.v 0) (.cons (.int 22) .nil)))) (.cons (.asg (.v 2) (.bin .add (.int 6) (.bin .mod (.ix (.v 1) (.int 21)) (.int 2)))) (.cons (.asg (.v 3) (.comp [5] (.comp [6] (.call 3 (.cons (.ix (.v 1) (.bin .add (.bin .mul (.int 7) (.v 5)) (.v 6))) .nil)) (.v 6) (.range (.cons (.v 2) .nil)) (.none)) (.v 5) (.range (.cons (.int 3) .nil)) (.none))) (.cons (.asg (.v 4) (.non)) (.cons (.for (.v 5) (.range (.cons (.int 3) .nil)) (b4_4)) b4_0))))
abbrev st4 : Stmt := tx 6
def D4 : Df := ⟨⟨1, 9, body4⟩, st4, ["_law_script", "_law_draws_here", "_law_pages", "_law_scan", "_law_best", "_law_block", "_law_page", "_law_reading_here", "_law_counts"], ["_law_script"]⟩
def Ds : Nat → Option Df
  | 0 => some D0
  | 1 => some D1
  | 2 => some D2
  | 3 => some D3
  | 4 => some D4
  | _ => none
def fnl : List Str := []
def C : Cn := ⟨fun i => (["is_root", "standing_root", "_law_draws", "_law_reading", "law"] : List Str).getD i "", fun i => ([] : List Str).getD i "", fun i => [0, 1, 2, 3, 4].contains i, fun i => decide (i < 0), fun _ => false, fun i => ([] : List Str).getD i "", nmF fnl, ["int", "len", "range"]⟩
def globV : Nat → Option Val
  | _ => none
def roV (ns : List Int) : Ro := fun c => match c with
  | 0 => some (false, ns.map Val.int)
  | _ => none
def T (ns : List Int) : Tb := ⟨fun f => (Ds f).map Df.F, fun _ _ => none, fun _ => none, globV, roV ns, fun _ _ => false, fun _ _ => none⟩
theorem ck0 : D0.ck C = true := by decide +kernel
theorem ck1 : D1.ck C = true := by decide +kernel
theorem ck2 : D2.ck C = true := by decide +kernel
theorem ck3 : D3.ck C = true := by decide +kernel
theorem ck4 : D4.ck C = true := by decide +kernel
def DD : Nat := 3
/-! ### plain -/
def contV (x : Int) : Val := .tup [.str "root", .int (x / 9 % 5), .int (x / 45 % 3), .non, .tup [.int 0, .int 1], .tup [.int 1, .int 2], .tup [.int 1, .int 1], .tup []]
def rdV (x : Int) : Val := if x % 9 < 2 then .tup [.str "blank"] else if x % 9 = 2 then .tup [.str "damaged"] else if x % 9 = 3 then .tup [.str "right", .tup [.str "mark", .int (x / 9 % 5)]] else if x % 9 = 4 then .tup [.str "right", .tup [.str "item", .int 1, .int 1, .bl true, .int 1, .non]] else .tup [.str "right", contV x]
abbrev isR (x : Int) : Prop := 5 ≤ x % 9
abbrev isBk (x : Int) : Prop := x % 9 < 2
theorem rd_cases (x : Int) : (isBk x ∧ ¬ isR x ∧ rdV x = .tup [.str "blank"]) ∨ (¬ isBk x ∧ ¬ isR x ∧ rdV x = .tup [.str "damaged"]) ∨ (¬ isBk x ∧ ¬ isR x ∧ rdV x = .tup [.str "right", .tup [.str "mark", .int (x / 9 % 5)]]) ∨
    (¬ isBk x ∧ ¬ isR x ∧ rdV x = .tup [.str "right", .tup [.str "item", .int 1, .int 1, .bl true, .int 1, .non]]) ∨ (¬ isBk x ∧ isR x ∧ rdV x = .tup [.str "right", contV x]) := by
  unfold rdV isBk isR
  by_cases c1 : x % 9 < 2
  · left; rw [if_pos c1]; exact ⟨c1, by omega, rfl⟩
  · by_cases c2 : x % 9 = 2
    · right; left; rw [if_neg c1, if_pos c2]; exact ⟨c1, by omega, rfl⟩
    · by_cases c3 : x % 9 = 3
      · right; right; left; rw [if_neg c1, if_neg c2, if_pos c3]; exact ⟨c1, by omega, rfl⟩
      · by_cases c4 : x % 9 = 4
        · right; right; right; left; rw [if_neg c1, if_neg c2, if_neg c3, if_pos c4]; exact ⟨c1, by omega, rfl⟩
        · right; right; right; right; rw [if_neg c1, if_neg c2, if_neg c3, if_neg c4]; exact ⟨c1, by omega, rfl⟩
def bV : Option (Int × Int) → Val
  | none => .non
  | some (b, x) => .tup [.int b, contV x]
def num (x : Int) : Int := x / 9 % 5
def old (o : Option (Int × Int)) (x : Int) : Bool := match o with
  | none => true
  | some (_, z) => decide (num z < num x)
def stp (o : Option (Int × Int)) (b x y : Int) : Option (Int × Int) := if isR x ∧ ¬ isBk y ∧ old o x = true then some (b, x) else o
def inn (Y : Nat → Nat → Int) (b : Nat) (o : Option (Int × Int)) : Nat → Option (Int × Int)
  | 0 => o
  | i + 1 => stp (inn Y b o i) b (Y b (2 * i)) (Y b (2 * i + 1))
def out (Y : Nat → Nat → Int) : Nat → Option (Int × Int)
  | 0 => none
  | b + 1 => inn Y b (out Y b) 3
section
variable {ns : List Int} {h : Hs} {Q : Val → Hs → Prop} {X : Exc → Hs → Prop} {d : Nat} {x y : Int} {ro : Ro}
theorem line_le {n : Nat} (h : n ≤ 1000) : n ≤ sizeLine := Nat.le_trans h (Nat.le_of_lt big_line)
theorem line1 : 1 ≤ sizeLine := line_le (by decide)
theorem ok_ixT {xs : List Val} {i : Int} {v : Val} (hv : atI xs i = some v) : Ok (ixV ro (.tup xs) (.int i) h) Q X = Q v h := by
  unfold ixV
  show Ok (match atI xs i with
        | some v => .ok v h
        | none => .no) Q X = _
  rw [hv]
  show Ok (.ok v h) Q X = _
  rw [ok_ok]
theorem dat_str {s : Str} : Dat ro h 20 (.str s) (.str s) := rfl
theorem ok_eqS {s t : Str} : Ok (cmpV ro .eq (.str s) (.str t) h) Q X = Q (.bl (decide (s = t))) h := by
  rw [ok_eq2 dat_str dat_str, PyData.eqv]
  congr 2
theorem ok_neS {s t : Str} : Ok (cmpV ro .ne (.str s) (.str t) h) Q X = Q (.bl (!decide (s = t))) h := by
  rw [ok_ne2 dat_str dat_str, PyData.eqv]
  congr 2
theorem s1 : decide (("blank" : Str) = "right") = false := by decide +kernel
theorem s2 : decide (("damaged" : Str) = "right") = false := by decide +kernel
theorem s3 : decide (("mark" : Str) = "root") = false := by decide +kernel
theorem s4 : decide (("item" : Str) = "root") = false := by decide +kernel
theorem s5 : decide (("damaged" : Str) = "blank") = false := by decide +kernel
theorem s6 : decide (("right" : Str) = "blank") = false := by decide +kernel
theorem is_ok (hq : Q (.bl (decide (isR x))) h) : Ok (callD (T ns) (d + 1) 0 [rdV x] h) Q X := by
  refine ok_call (np := 1) (ns := 1) (B := body0) (ρ := [some (rdV x)]) rfl rfl (by decide) rfl ?_
  simp only [body0, rv_cons, rv_nil, rv_pass, rv_asg, rv_ret, rv_expr, rv_aug, rv_ife, rv_fors, nxt_nx, nxt_rt, tur_nx, tur_rt, rtQ_rt, rtQ_nx, ev_non, ev_bl, ev_int, ev_str, ev_v, ev_bin, ev_cmp, ev_chain, ev_lst, ev_tup, ev_enil, ev_econs, ev_not, ev_neg, ev_ix, ev_rev, ev_sl, ev_ono, ev_call, ev_bi, ev_or1, ev_orS, ev_and1, ev_andS, ev_range, ev_val, getvS, getv0, ok_ret, ok_add, ok_sub, ok_mul, ok_fdiv, ok_mod, ok_int, ok_lt, ok_le, ok_gt, ok_ge, ok_eqI, ok_neI, ok_asB, ok_truB, asg_v, ok_setv, List.length_cons, List.length_nil, List.set_cons_succ, List.set_cons_zero, Nat.reduceAdd, Nat.reduceLT, true_and]
  rcases rd_cases x with ⟨_, c, e⟩ | ⟨_, c, e⟩ | ⟨_, c, e⟩ | ⟨_, c, e⟩ | ⟨_, c, e⟩
  · rw [e, ok_ixT (v := .str "blank") rfl]
    simp only [ok_eqS, s1, Bool.false_eq_true, if_false, rv_cons, rv_nil, rv_pass, rv_asg, rv_ret, rv_expr, rv_aug, rv_ife, rv_fors, nxt_nx, nxt_rt, tur_nx, tur_rt, rtQ_rt, rtQ_nx, ev_non, ev_bl, ev_int, ev_str, ev_v, ev_bin, ev_cmp, ev_chain, ev_lst, ev_tup, ev_enil, ev_econs, ev_not, ev_neg, ev_ix, ev_rev, ev_sl, ev_ono, ev_call, ev_bi, ev_or1, ev_orS, ev_and1, ev_andS, ev_range, ev_val, getvS, getv0, ok_ret, ok_add, ok_sub, ok_mul, ok_fdiv, ok_mod, ok_int, ok_lt, ok_le, ok_gt, ok_ge, ok_eqI, ok_neI, ok_asB, ok_truB, asg_v, ok_setv, List.length_cons, List.length_nil, List.set_cons_succ, List.set_cons_zero, Nat.reduceAdd, Nat.reduceLT, true_and]
    rw [decide_eq_false c] at hq; exact hq
  · rw [e, ok_ixT (v := .str "damaged") rfl]
    simp only [ok_eqS, s2, Bool.false_eq_true, if_false, rv_cons, rv_nil, rv_pass, rv_asg, rv_ret, rv_expr, rv_aug, rv_ife, rv_fors, nxt_nx, nxt_rt, tur_nx, tur_rt, rtQ_rt, rtQ_nx, ev_non, ev_bl, ev_int, ev_str, ev_v, ev_bin, ev_cmp, ev_chain, ev_lst, ev_tup, ev_enil, ev_econs, ev_not, ev_neg, ev_ix, ev_rev, ev_sl, ev_ono, ev_call, ev_bi, ev_or1, ev_orS, ev_and1, ev_andS, ev_range, ev_val, getvS, getv0, ok_ret, ok_add, ok_sub, ok_mul, ok_fdiv, ok_mod, ok_int, ok_lt, ok_le, ok_gt, ok_ge, ok_eqI, ok_neI, ok_asB, ok_truB, asg_v, ok_setv, List.length_cons, List.length_nil, List.set_cons_succ, List.set_cons_zero, Nat.reduceAdd, Nat.reduceLT, true_and]
    rw [decide_eq_false c] at hq; exact hq
  · rw [e, ok_ixT (v := .str "right") rfl]
    simp only [ok_eqS, decide_true, if_true, rv_cons, rv_nil, rv_pass, rv_asg, rv_ret, rv_expr, rv_aug, rv_ife, rv_fors, nxt_nx, nxt_rt, tur_nx, tur_rt, rtQ_rt, rtQ_nx, ev_non, ev_bl, ev_int, ev_str, ev_v, ev_bin, ev_cmp, ev_chain, ev_lst, ev_tup, ev_enil, ev_econs, ev_not, ev_neg, ev_ix, ev_rev, ev_sl, ev_ono, ev_call, ev_bi, ev_or1, ev_orS, ev_and1, ev_andS, ev_range, ev_val, getvS, getv0, ok_ret, ok_add, ok_sub, ok_mul, ok_fdiv, ok_mod, ok_int, ok_lt, ok_le, ok_gt, ok_ge, ok_eqI, ok_neI, ok_asB, ok_truB, asg_v, ok_setv, List.length_cons, List.length_nil, List.set_cons_succ, List.set_cons_zero, Nat.reduceAdd, Nat.reduceLT, true_and]
    rw [ok_ixT (v := .tup [.str "mark", .int (x / 9 % 5)]) rfl]
    try simp only [rv_cons, rv_nil, rv_pass, rv_asg, rv_ret, rv_expr, rv_aug, rv_ife, rv_fors, nxt_nx, nxt_rt, tur_nx, tur_rt, rtQ_rt, rtQ_nx, ev_non, ev_bl, ev_int, ev_str, ev_v, ev_bin, ev_cmp, ev_chain, ev_lst, ev_tup, ev_enil, ev_econs, ev_not, ev_neg, ev_ix, ev_rev, ev_sl, ev_ono, ev_call, ev_bi, ev_or1, ev_orS, ev_and1, ev_andS, ev_range, ev_val, getvS, getv0, ok_ret, ok_add, ok_sub, ok_mul, ok_fdiv, ok_mod, ok_int, ok_lt, ok_le, ok_gt, ok_ge, ok_eqI, ok_neI, ok_asB, ok_truB, asg_v, ok_setv, List.length_cons, List.length_nil, List.set_cons_succ, List.set_cons_zero, Nat.reduceAdd, Nat.reduceLT, true_and]
    rw [ok_ixT (v := .str "mark") rfl]
    simp only [ok_eqS, s3, rv_cons, rv_nil, rv_pass, rv_asg, rv_ret, rv_expr, rv_aug, rv_ife, rv_fors, nxt_nx, nxt_rt, tur_nx, tur_rt, rtQ_rt, rtQ_nx, ev_non, ev_bl, ev_int, ev_str, ev_v, ev_bin, ev_cmp, ev_chain, ev_lst, ev_tup, ev_enil, ev_econs, ev_not, ev_neg, ev_ix, ev_rev, ev_sl, ev_ono, ev_call, ev_bi, ev_or1, ev_orS, ev_and1, ev_andS, ev_range, ev_val, getvS, getv0, ok_ret, ok_add, ok_sub, ok_mul, ok_fdiv, ok_mod, ok_int, ok_lt, ok_le, ok_gt, ok_ge, ok_eqI, ok_neI, ok_asB, ok_truB, asg_v, ok_setv, List.length_cons, List.length_nil, List.set_cons_succ, List.set_cons_zero, Nat.reduceAdd, Nat.reduceLT, true_and]
    rw [decide_eq_false c] at hq; exact hq
  · rw [e, ok_ixT (v := .str "right") rfl]
    simp only [ok_eqS, decide_true, if_true, rv_cons, rv_nil, rv_pass, rv_asg, rv_ret, rv_expr, rv_aug, rv_ife, rv_fors, nxt_nx, nxt_rt, tur_nx, tur_rt, rtQ_rt, rtQ_nx, ev_non, ev_bl, ev_int, ev_str, ev_v, ev_bin, ev_cmp, ev_chain, ev_lst, ev_tup, ev_enil, ev_econs, ev_not, ev_neg, ev_ix, ev_rev, ev_sl, ev_ono, ev_call, ev_bi, ev_or1, ev_orS, ev_and1, ev_andS, ev_range, ev_val, getvS, getv0, ok_ret, ok_add, ok_sub, ok_mul, ok_fdiv, ok_mod, ok_int, ok_lt, ok_le, ok_gt, ok_ge, ok_eqI, ok_neI, ok_asB, ok_truB, asg_v, ok_setv, List.length_cons, List.length_nil, List.set_cons_succ, List.set_cons_zero, Nat.reduceAdd, Nat.reduceLT, true_and]
    rw [ok_ixT (v := .tup [.str "item", .int 1, .int 1, .bl true, .int 1, .non]) rfl]
    try simp only [rv_cons, rv_nil, rv_pass, rv_asg, rv_ret, rv_expr, rv_aug, rv_ife, rv_fors, nxt_nx, nxt_rt, tur_nx, tur_rt, rtQ_rt, rtQ_nx, ev_non, ev_bl, ev_int, ev_str, ev_v, ev_bin, ev_cmp, ev_chain, ev_lst, ev_tup, ev_enil, ev_econs, ev_not, ev_neg, ev_ix, ev_rev, ev_sl, ev_ono, ev_call, ev_bi, ev_or1, ev_orS, ev_and1, ev_andS, ev_range, ev_val, getvS, getv0, ok_ret, ok_add, ok_sub, ok_mul, ok_fdiv, ok_mod, ok_int, ok_lt, ok_le, ok_gt, ok_ge, ok_eqI, ok_neI, ok_asB, ok_truB, asg_v, ok_setv, List.length_cons, List.length_nil, List.set_cons_succ, List.set_cons_zero, Nat.reduceAdd, Nat.reduceLT, true_and]
    rw [ok_ixT (v := .str "item") rfl]
    simp only [ok_eqS, s4, rv_cons, rv_nil, rv_pass, rv_asg, rv_ret, rv_expr, rv_aug, rv_ife, rv_fors, nxt_nx, nxt_rt, tur_nx, tur_rt, rtQ_rt, rtQ_nx, ev_non, ev_bl, ev_int, ev_str, ev_v, ev_bin, ev_cmp, ev_chain, ev_lst, ev_tup, ev_enil, ev_econs, ev_not, ev_neg, ev_ix, ev_rev, ev_sl, ev_ono, ev_call, ev_bi, ev_or1, ev_orS, ev_and1, ev_andS, ev_range, ev_val, getvS, getv0, ok_ret, ok_add, ok_sub, ok_mul, ok_fdiv, ok_mod, ok_int, ok_lt, ok_le, ok_gt, ok_ge, ok_eqI, ok_neI, ok_asB, ok_truB, asg_v, ok_setv, List.length_cons, List.length_nil, List.set_cons_succ, List.set_cons_zero, Nat.reduceAdd, Nat.reduceLT, true_and]
    rw [decide_eq_false c] at hq; exact hq
  · rw [e, ok_ixT (v := .str "right") rfl]
    simp only [ok_eqS, decide_true, if_true, rv_cons, rv_nil, rv_pass, rv_asg, rv_ret, rv_expr, rv_aug, rv_ife, rv_fors, nxt_nx, nxt_rt, tur_nx, tur_rt, rtQ_rt, rtQ_nx, ev_non, ev_bl, ev_int, ev_str, ev_v, ev_bin, ev_cmp, ev_chain, ev_lst, ev_tup, ev_enil, ev_econs, ev_not, ev_neg, ev_ix, ev_rev, ev_sl, ev_ono, ev_call, ev_bi, ev_or1, ev_orS, ev_and1, ev_andS, ev_range, ev_val, getvS, getv0, ok_ret, ok_add, ok_sub, ok_mul, ok_fdiv, ok_mod, ok_int, ok_lt, ok_le, ok_gt, ok_ge, ok_eqI, ok_neI, ok_asB, ok_truB, asg_v, ok_setv, List.length_cons, List.length_nil, List.set_cons_succ, List.set_cons_zero, Nat.reduceAdd, Nat.reduceLT, true_and]
    rw [ok_ixT (v := contV x) rfl]
    try simp only [rv_cons, rv_nil, rv_pass, rv_asg, rv_ret, rv_expr, rv_aug, rv_ife, rv_fors, nxt_nx, nxt_rt, tur_nx, tur_rt, rtQ_rt, rtQ_nx, ev_non, ev_bl, ev_int, ev_str, ev_v, ev_bin, ev_cmp, ev_chain, ev_lst, ev_tup, ev_enil, ev_econs, ev_not, ev_neg, ev_ix, ev_rev, ev_sl, ev_ono, ev_call, ev_bi, ev_or1, ev_orS, ev_and1, ev_andS, ev_range, ev_val, getvS, getv0, ok_ret, ok_add, ok_sub, ok_mul, ok_fdiv, ok_mod, ok_int, ok_lt, ok_le, ok_gt, ok_ge, ok_eqI, ok_neI, ok_asB, ok_truB, asg_v, ok_setv, List.length_cons, List.length_nil, List.set_cons_succ, List.set_cons_zero, Nat.reduceAdd, Nat.reduceLT, true_and]
    rw [contV, ok_ixT (v := .str "root") rfl]
    simp only [ok_eqS, decide_true, rv_cons, rv_nil, rv_pass, rv_asg, rv_ret, rv_expr, rv_aug, rv_ife, rv_fors, nxt_nx, nxt_rt, tur_nx, tur_rt, rtQ_rt, rtQ_nx, ev_non, ev_bl, ev_int, ev_str, ev_v, ev_bin, ev_cmp, ev_chain, ev_lst, ev_tup, ev_enil, ev_econs, ev_not, ev_neg, ev_ix, ev_rev, ev_sl, ev_ono, ev_call, ev_bi, ev_or1, ev_orS, ev_and1, ev_andS, ev_range, ev_val, getvS, getv0, ok_ret, ok_add, ok_sub, ok_mul, ok_fdiv, ok_mod, ok_int, ok_lt, ok_le, ok_gt, ok_ge, ok_eqI, ok_neI, ok_asB, ok_truB, asg_v, ok_setv, List.length_cons, List.length_nil, List.set_cons_succ, List.set_cons_zero, Nat.reduceAdd, Nat.reduceLT, true_and]
    rw [decide_eq_true c] at hq; exact hq
theorem ne_bk : Ok (cmpV ro .ne (rdV x) (.tup [.str "blank"]) h) Q X = Q (.bl (!decide (isBk x))) h := by
  have db : Dat ro h 20 (.tup [.str "blank"]) (.tuple [.str "blank"]) := rfl
  rcases rd_cases x with ⟨c, _, e⟩ | ⟨c, _, e⟩ | ⟨c, _, e⟩ | ⟨c, _, e⟩ | ⟨c, _, e⟩
  · rw [e, ok_ne2 db db, decide_eq_true c]
    simp [PyData.eqv, PyData.eqvAll]
  · rw [e, ok_ne2 (show Dat ro h 20 (.tup [.str "damaged"]) (.tuple [.str "damaged"]) from rfl) db, decide_eq_false c]
    have : PyData.eqv (.tuple [.str "damaged"]) (.tuple [.str "blank"]) = false := by decide +kernel
    rw [this]
  · rw [e, ok_ne2 (show Dat ro h 20 (.tup [.str "right", .tup [.str "mark", .int (x / 9 % 5)]]) (.tuple [.str "right", .tuple [.str "mark", .int (x / 9 % 5)]]) from rfl) db, decide_eq_false c]
    have : PyData.eqv (.tuple [.str "right", .tuple [.str "mark", .int (x / 9 % 5)]]) (.tuple [.str "blank"]) = false := by simp [PyData.eqv, PyData.eqvAll]
    rw [this]
  · rw [e, ok_ne2 (show Dat ro h 20 (.tup [.str "right", .tup [.str "item", .int 1, .int 1, .bl true, .int 1, .non]]) (.tuple [.str "right", .tuple [.str "item", .int 1, .int 1, .bool true, .int 1, .none]]) from rfl) db, decide_eq_false c]
    have : PyData.eqv (.tuple [.str "right", .tuple [.str "item", .int 1, .int 1, .bool true, .int 1, .none]]) (.tuple [.str "blank"]) = false := by simp [PyData.eqv, PyData.eqvAll]
    rw [this]
  · rw [e, ok_ne2 (show Dat ro h 20 (.tup [.str "right", contV x]) (.tuple [.str "right", .tuple [.str "root", .int (x / 9 % 5), .int (x / 45 % 3), .none, .tuple [.int 0, .int 1], .tuple [.int 1, .int 2], .tuple [.int 1, .int 1], .tuple []]]) from rfl) db, decide_eq_false c]
    have : PyData.eqv (.tuple [.str "right", .tuple [.str "root", .int (x / 9 % 5), .int (x / 45 % 3), .none, .tuple [.int 0, .int 1], .tuple [.int 1, .int 2], .tuple [.int 1, .int 1], .tuple []]]) (.tuple [.str "blank"]) = false := by simp [PyData.eqv, PyData.eqvAll]
    rw [this]
theorem rd_ok (hq : Q (rdV x) h) : Ok (callD (T ns) (d + 1) 3 [.int x] h) Q X := by
  refine ok_call (np := 1) (ns := 2) (B := body3) (ρ := [some (.int x), none]) rfl rfl (by decide) rfl ?_
  simp only [body3, rv_cons, rv_nil, rv_pass, rv_asg, rv_ret, rv_expr, rv_aug, rv_ife, rv_fors, nxt_nx, nxt_rt, tur_nx, tur_rt, rtQ_rt, rtQ_nx, ev_non, ev_bl, ev_int, ev_str, ev_v, ev_bin, ev_cmp, ev_chain, ev_lst, ev_tup, ev_enil, ev_econs, ev_not, ev_neg, ev_ix, ev_rev, ev_sl, ev_ono, ev_call, ev_bi, ev_or1, ev_orS, ev_and1, ev_andS, ev_range, ev_val, getvS, getv0, ok_ret, ok_add, ok_sub, ok_mul, ok_fdiv, ok_mod, ok_int, ok_lt, ok_le, ok_gt, ok_ge, ok_eqI, ok_neI, ok_asB, ok_truB, asg_v, ok_setv, List.length_cons, List.length_nil, List.set_cons_succ, List.set_cons_zero, Nat.reduceAdd, Nat.reduceLT, true_and]
  refine ⟨by decide, ?_⟩
  unfold rdV at hq
  by_cases c1 : x % 9 < 2
  · simp only [c1, decide_true, if_true, b3_10, rv_cons, rv_nil, rv_pass, rv_asg, rv_ret, rv_expr, rv_aug, rv_ife, rv_fors, nxt_nx, nxt_rt, tur_nx, tur_rt, rtQ_rt, rtQ_nx, ev_non, ev_bl, ev_int, ev_str, ev_v, ev_bin, ev_cmp, ev_chain, ev_lst, ev_tup, ev_enil, ev_econs, ev_not, ev_neg, ev_ix, ev_rev, ev_sl, ev_ono, ev_call, ev_bi, ev_or1, ev_orS, ev_and1, ev_andS, ev_range, ev_val, getvS, getv0, ok_ret, ok_add, ok_sub, ok_mul, ok_fdiv, ok_mod, ok_int, ok_lt, ok_le, ok_gt, ok_ge, ok_eqI, ok_neI, ok_asB, ok_truB, asg_v, ok_setv, List.length_cons, List.length_nil, List.set_cons_succ, List.set_cons_zero, Nat.reduceAdd, Nat.reduceLT, true_and]
    rw [if_pos c1] at hq
    exact ⟨line1, hq⟩
  · simp only [c1, decide_false, Bool.false_eq_true, if_false, b3_11, b3_9, rv_cons, rv_nil, rv_pass, rv_asg, rv_ret, rv_expr, rv_aug, rv_ife, rv_fors, nxt_nx, nxt_rt, tur_nx, tur_rt, rtQ_rt, rtQ_nx, ev_non, ev_bl, ev_int, ev_str, ev_v, ev_bin, ev_cmp, ev_chain, ev_lst, ev_tup, ev_enil, ev_econs, ev_not, ev_neg, ev_ix, ev_rev, ev_sl, ev_ono, ev_call, ev_bi, ev_or1, ev_orS, ev_and1, ev_andS, ev_range, ev_val, getvS, getv0, ok_ret, ok_add, ok_sub, ok_mul, ok_fdiv, ok_mod, ok_int, ok_lt, ok_le, ok_gt, ok_ge, ok_eqI, ok_neI, ok_asB, ok_truB, asg_v, ok_setv, List.length_cons, List.length_nil, List.set_cons_succ, List.set_cons_zero, Nat.reduceAdd, Nat.reduceLT, true_and]
    rw [if_neg c1] at hq
    by_cases c2 : x % 9 = 2
    · simp only [c2, decide_true, if_true, b3_7, rv_cons, rv_nil, rv_pass, rv_asg, rv_ret, rv_expr, rv_aug, rv_ife, rv_fors, nxt_nx, nxt_rt, tur_nx, tur_rt, rtQ_rt, rtQ_nx, ev_non, ev_bl, ev_int, ev_str, ev_v, ev_bin, ev_cmp, ev_chain, ev_lst, ev_tup, ev_enil, ev_econs, ev_not, ev_neg, ev_ix, ev_rev, ev_sl, ev_ono, ev_call, ev_bi, ev_or1, ev_orS, ev_and1, ev_andS, ev_range, ev_val, getvS, getv0, ok_ret, ok_add, ok_sub, ok_mul, ok_fdiv, ok_mod, ok_int, ok_lt, ok_le, ok_gt, ok_ge, ok_eqI, ok_neI, ok_asB, ok_truB, asg_v, ok_setv, List.length_cons, List.length_nil, List.set_cons_succ, List.set_cons_zero, Nat.reduceAdd, Nat.reduceLT, true_and]
      rw [if_pos c2] at hq
      exact ⟨line1, hq⟩
    · simp only [c2, decide_false, Bool.false_eq_true, if_false, b3_8, b3_6, rv_cons, rv_nil, rv_pass, rv_asg, rv_ret, rv_expr, rv_aug, rv_ife, rv_fors, nxt_nx, nxt_rt, tur_nx, tur_rt, rtQ_rt, rtQ_nx, ev_non, ev_bl, ev_int, ev_str, ev_v, ev_bin, ev_cmp, ev_chain, ev_lst, ev_tup, ev_enil, ev_econs, ev_not, ev_neg, ev_ix, ev_rev, ev_sl, ev_ono, ev_call, ev_bi, ev_or1, ev_orS, ev_and1, ev_andS, ev_range, ev_val, getvS, getv0, ok_ret, ok_add, ok_sub, ok_mul, ok_fdiv, ok_mod, ok_int, ok_lt, ok_le, ok_gt, ok_ge, ok_eqI, ok_neI, ok_asB, ok_truB, asg_v, ok_setv, List.length_cons, List.length_nil, List.set_cons_succ, List.set_cons_zero, Nat.reduceAdd, Nat.reduceLT, true_and]
      rw [if_neg c2] at hq
      by_cases c3 : x % 9 = 3
      · simp only [c3, decide_true, if_true, b3_4, rv_cons, rv_nil, rv_pass, rv_asg, rv_ret, rv_expr, rv_aug, rv_ife, rv_fors, nxt_nx, nxt_rt, tur_nx, tur_rt, rtQ_rt, rtQ_nx, ev_non, ev_bl, ev_int, ev_str, ev_v, ev_bin, ev_cmp, ev_chain, ev_lst, ev_tup, ev_enil, ev_econs, ev_not, ev_neg, ev_ix, ev_rev, ev_sl, ev_ono, ev_call, ev_bi, ev_or1, ev_orS, ev_and1, ev_andS, ev_range, ev_val, getvS, getv0, ok_ret, ok_add, ok_sub, ok_mul, ok_fdiv, ok_mod, ok_int, ok_lt, ok_le, ok_gt, ok_ge, ok_eqI, ok_neI, ok_asB, ok_truB, asg_v, ok_setv, List.length_cons, List.length_nil, List.set_cons_succ, List.set_cons_zero, Nat.reduceAdd, Nat.reduceLT, true_and]
        rw [if_pos c3] at hq
        exact ⟨⟨by decide, by decide⟩, by decide, line_le (by decide), line_le (by decide), hq⟩
      · simp only [c3, decide_false, Bool.false_eq_true, if_false, b3_5, b3_3, rv_cons, rv_nil, rv_pass, rv_asg, rv_ret, rv_expr, rv_aug, rv_ife, rv_fors, nxt_nx, nxt_rt, tur_nx, tur_rt, rtQ_rt, rtQ_nx, ev_non, ev_bl, ev_int, ev_str, ev_v, ev_bin, ev_cmp, ev_chain, ev_lst, ev_tup, ev_enil, ev_econs, ev_not, ev_neg, ev_ix, ev_rev, ev_sl, ev_ono, ev_call, ev_bi, ev_or1, ev_orS, ev_and1, ev_andS, ev_range, ev_val, getvS, getv0, ok_ret, ok_add, ok_sub, ok_mul, ok_fdiv, ok_mod, ok_int, ok_lt, ok_le, ok_gt, ok_ge, ok_eqI, ok_neI, ok_asB, ok_truB, asg_v, ok_setv, List.length_cons, List.length_nil, List.set_cons_succ, List.set_cons_zero, Nat.reduceAdd, Nat.reduceLT, true_and]
        rw [if_neg c3] at hq
        by_cases c4 : x % 9 = 4
        · simp only [c4, decide_true, if_true, b3_1, rv_cons, rv_nil, rv_pass, rv_asg, rv_ret, rv_expr, rv_aug, rv_ife, rv_fors, nxt_nx, nxt_rt, tur_nx, tur_rt, rtQ_rt, rtQ_nx, ev_non, ev_bl, ev_int, ev_str, ev_v, ev_bin, ev_cmp, ev_chain, ev_lst, ev_tup, ev_enil, ev_econs, ev_not, ev_neg, ev_ix, ev_rev, ev_sl, ev_ono, ev_call, ev_bi, ev_or1, ev_orS, ev_and1, ev_andS, ev_range, ev_val, getvS, getv0, ok_ret, ok_add, ok_sub, ok_mul, ok_fdiv, ok_mod, ok_int, ok_lt, ok_le, ok_gt, ok_ge, ok_eqI, ok_neI, ok_asB, ok_truB, asg_v, ok_setv, List.length_cons, List.length_nil, List.set_cons_succ, List.set_cons_zero, Nat.reduceAdd, Nat.reduceLT, true_and]
          rw [if_pos c4] at hq
          exact ⟨line_le (by decide), line_le (by decide), hq⟩
        · simp only [c4, decide_false, Bool.false_eq_true, if_false, b3_2, b3_0, rv_cons, rv_nil, rv_pass, rv_asg, rv_ret, rv_expr, rv_aug, rv_ife, rv_fors, nxt_nx, nxt_rt, tur_nx, tur_rt, rtQ_rt, rtQ_nx, ev_non, ev_bl, ev_int, ev_str, ev_v, ev_bin, ev_cmp, ev_chain, ev_lst, ev_tup, ev_enil, ev_econs, ev_not, ev_neg, ev_ix, ev_rev, ev_sl, ev_ono, ev_call, ev_bi, ev_or1, ev_orS, ev_and1, ev_andS, ev_range, ev_val, getvS, getv0, ok_ret, ok_add, ok_sub, ok_mul, ok_fdiv, ok_mod, ok_int, ok_lt, ok_le, ok_gt, ok_ge, ok_eqI, ok_neI, ok_asB, ok_truB, asg_v, ok_setv, List.length_cons, List.length_nil, List.set_cons_succ, List.set_cons_zero, Nat.reduceAdd, Nat.reduceLT, true_and]
          rw [if_neg c4] at hq
          exact ⟨⟨by decide, by decide⟩, by decide, ⟨by decide, by decide⟩, by decide, line_le (by decide), line_le (by decide), line_le (by decide), line_le (by decide), line_le (by decide), line_le (by decide), hq⟩
/-! ### the loops -/
theorem ok_rg2 {p : Int} (hp : p = 5 ∨ p = 6) {Q : Src → Hs → Prop} : Ok (rangeV [.int 0, .int p, .int 2] h) Q X = Q ⟨none, rngC 0 2 3⟩ h := by
  rcases hp with rfl | rfl
  · show Ok ((if (2 : Int) ≠ 0 ∧ (2 : Int).natAbs < 1073741824 ∧ Builtin.Range.small 0 5 2 = true ∧ 0 ≤ Builtin.Range.rangeSize 0 5 2 then ret ⟨none, rngC 0 2 (Builtin.Range.rangeSize 0 5 2).toNat⟩ else no) h) Q X = _
    rw [if_pos ⟨by decide, by decide, by decide, by decide⟩, ok_ret]
    rfl
  · show Ok ((if (2 : Int) ≠ 0 ∧ (2 : Int).natAbs < 1073741824 ∧ Builtin.Range.small 0 6 2 = true ∧ 0 ≤ Builtin.Range.rangeSize 0 6 2 then ret ⟨none, rngC 0 2 (Builtin.Range.rangeSize 0 6 2).toNat⟩ else no) h) Q X = _
    rw [if_pos ⟨by decide, by decide, by decide, by decide⟩, ok_ret]
    rfl
theorem rgC_at {i : Nat} {v : Val} (e : (rngC 0 2 3)[i]? = some v) : v = .int (2 * i : Nat) ∧ i < 3 := by
  match i, e with
  | 0, e => cases e; exact ⟨rfl, by decide⟩
  | 1, e => cases e; exact ⟨rfl, by decide⟩
  | 2, e => cases e; exact ⟨rfl, by decide⟩
/-- the rows as they stand -/
structure Sc (h : Hs) (s : Nat) (R : Nat → Nat) (Y : Nat → Nat → Int) (p : Nat) : Prop where
  l : h.ob s = .lst [.ref (R 0), .ref (R 1), .ref (R 2)]
  r : ∀ b, b < 3 → h.ob (R b) = .lst ((List.range p).map fun k => rdV (Y b k))
  p6 : p = 6 ∨ p = 7
variable {s p : Nat} {R : Nat → Nat} {Y : Nat → Nat → Int}
theorem Sc.row (c : Sc h s R Y p) {b : Nat} (hb : b < 3) : atI [Val.ref (R 0), .ref (R 1), .ref (R 2)] (b : Int) = some (.ref (R b)) := by
  match b, hb with
  | 0, _ => rfl
  | 1, _ => rfl
  | 2, _ => rfl
theorem Sc.at_ (c : Sc h s R Y p) {b k : Nat} (hk : k < p) : atI ((List.range p).map fun k => rdV (Y b k)) (k : Int) = some (rdV (Y b k)) := by
  rw [atI_of (j := k) rfl (by rw [List.length_map, List.length_range]; exact hk), List.getElem_map, List.getElem_range]
theorem rd_R (c : isR x) : rdV x = .tup [.str "right", contV x] := by
  rcases rd_cases x with ⟨_, n, e⟩ | ⟨_, n, e⟩ | ⟨_, n, e⟩ | ⟨_, n, e⟩ | ⟨_, n, e⟩
  · exact absurd c n
  · exact absurd c n
  · exact absurd c n
  · exact absurd c n
  · exact e
theorem ok_isN {v : Val} : Ok (cmpV ro .is v .non h) Q X = Q (.bl (decide (v = .non))) h := by unfold Ok; rfl
theorem ev_is {T : Tb} {cl : CallF} {ρ : MP.Env} {a : ME} : Ok (evE T cl (.cmp .is a .non) ρ h) Q X = Ok (evE T cl a ρ h) (fun v h' => Q (.bl (decide (v = .non))) h') X := by
  simp only [ev_cmp, ev_non, ok_isN]
theorem num_at : atI [Val.str "root", .int (x / 9 % 5), .int (x / 45 % 3), .non, .tup [.int 0, .int 1], .tup [.int 1, .int 2], .tup [.int 1, .int 1], .tup []] 1 = some (.int (num x)) := rfl
theorem ok_ixC1 : Ok (ixV ro (contV x) (.int 1) h) Q X = Q (.int (num x)) h := ok_ixT num_at
theorem ok_ixB {b z : Int} : Ok (ixV ro (.tup [.int b, contV z]) (.int 1) h) Q X = Q (contV z) h := ok_ixT rfl
theorem ok_ixR1 (c : isR x) : Ok (ixV ro (rdV x) (.int 1) h) Q X = Q (contV x) h := by rw [rd_R c]; exact ok_ixT rfl
theorem turn1 {b i : Nat} (hb : b < 3) (hi : i < 3) (c : Sc h s R Y p) {o : Option (Int × Int)} {S : Fl → Hs → Prop} {YY : Exc → MP.Env → Hs → Prop}
    (q : S (.nx [some (.ref s), some (bV (stp o b (Y b (2 * i)) (Y b (2 * i + 1)))), some (.int b), some (.ref (R b)), some (.int (2 * i : Nat))]) h) :
    Rv (evSs (T ns) (callD (T ns) (d + 1)) b1_5 [some (.ref s), some (bV o), some (.int b), some (.ref (R b)), some (.int (2 * i : Nat))] h) S YY := by
  have hp := c.p6
  have a1 := c.at_ (b := b) (k := 2 * i) (by omega)
  have a2 := c.at_ (b := b) (k := 2 * i + 1) (by omega)
  have e2 : ((2 * i : Nat) : Int) + 1 = ((2 * i + 1 : Nat) : Int) := by omega
  generalize Y b (2 * i) = x at a1 q
  generalize Y b (2 * i + 1) = y at a2 q
  generalize hk : ((2 * i : Nat) : Int) = k at *
  simp only [b1_5, rv_cons, rv_nil, rv_pass, rv_asg, rv_ret, rv_expr, rv_aug, rv_ife, rv_fors, nxt_nx, nxt_rt, tur_nx, tur_rt, rtQ_rt, rtQ_nx, ev_non, ev_bl, ev_int, ev_str, ev_v, ev_bin, ev_cmp, ev_chain, ev_lst, ev_tup, ev_enil, ev_econs, ev_not, ev_neg, ev_ix, ev_rev, ev_sl, ev_ono, ev_call, ev_bi, ev_or1, ev_orS, ev_and1, ev_andS, ev_range, ev_val, getvS, getv0, ok_ret, ok_add, ok_sub, ok_mul, ok_fdiv, ok_mod, ok_int, ok_lt, ok_le, ok_gt, ok_ge, ok_eqI, ok_neI, ok_asB, ok_truB, asg_v, ok_setv, List.length_cons, List.length_nil, List.set_cons_succ, List.set_cons_zero, Nat.reduceAdd, Nat.reduceLT, true_and]
  rw [ok_ixL (c.r b hb) a1]
  try simp only [rv_cons, rv_nil, rv_pass, rv_asg, rv_ret, rv_expr, rv_aug, rv_ife, rv_fors, nxt_nx, nxt_rt, tur_nx, tur_rt, rtQ_rt, rtQ_nx, ev_non, ev_bl, ev_int, ev_str, ev_v, ev_bin, ev_cmp, ev_chain, ev_lst, ev_tup, ev_enil, ev_econs, ev_not, ev_neg, ev_ix, ev_rev, ev_sl, ev_ono, ev_call, ev_bi, ev_or1, ev_orS, ev_and1, ev_andS, ev_range, ev_val, getvS, getv0, ok_ret, ok_add, ok_sub, ok_mul, ok_fdiv, ok_mod, ok_int, ok_lt, ok_le, ok_gt, ok_ge, ok_eqI, ok_neI, ok_asB, ok_truB, asg_v, ok_setv, List.length_cons, List.length_nil, List.set_cons_succ, List.set_cons_zero, Nat.reduceAdd, Nat.reduceLT, true_and]
  refine is_ok ?_
  try simp only [rv_cons, rv_nil, rv_pass, rv_asg, rv_ret, rv_expr, rv_aug, rv_ife, rv_fors, nxt_nx, nxt_rt, tur_nx, tur_rt, rtQ_rt, rtQ_nx, ev_non, ev_bl, ev_int, ev_str, ev_v, ev_bin, ev_cmp, ev_chain, ev_lst, ev_tup, ev_enil, ev_econs, ev_not, ev_neg, ev_ix, ev_rev, ev_sl, ev_ono, ev_call, ev_bi, ev_or1, ev_orS, ev_and1, ev_andS, ev_range, ev_val, getvS, getv0, ok_ret, ok_add, ok_sub, ok_mul, ok_fdiv, ok_mod, ok_int, ok_lt, ok_le, ok_gt, ok_ge, ok_eqI, ok_neI, ok_asB, ok_truB, asg_v, ok_setv, List.length_cons, List.length_nil, List.set_cons_succ, List.set_cons_zero, Nat.reduceAdd, Nat.reduceLT, true_and]
  by_cases cR : isR x
  · simp only [cR, decide_true, if_true, rv_cons, rv_nil, rv_pass, rv_asg, rv_ret, rv_expr, rv_aug, rv_ife, rv_fors, nxt_nx, nxt_rt, tur_nx, tur_rt, rtQ_rt, rtQ_nx, ev_non, ev_bl, ev_int, ev_str, ev_v, ev_bin, ev_cmp, ev_chain, ev_lst, ev_tup, ev_enil, ev_econs, ev_not, ev_neg, ev_ix, ev_rev, ev_sl, ev_ono, ev_call, ev_bi, ev_or1, ev_orS, ev_and1, ev_andS, ev_range, ev_val, getvS, getv0, ok_ret, ok_add, ok_sub, ok_mul, ok_fdiv, ok_mod, ok_int, ok_lt, ok_le, ok_gt, ok_ge, ok_eqI, ok_neI, ok_asB, ok_truB, asg_v, ok_setv, List.length_cons, List.length_nil, List.set_cons_succ, List.set_cons_zero, Nat.reduceAdd, Nat.reduceLT, true_and]
    rw [e2, ok_ixL (c.r b hb) a2]
    try simp only [rv_cons, rv_nil, rv_pass, rv_asg, rv_ret, rv_expr, rv_aug, rv_ife, rv_fors, nxt_nx, nxt_rt, tur_nx, tur_rt, rtQ_rt, rtQ_nx, ev_non, ev_bl, ev_int, ev_str, ev_v, ev_bin, ev_cmp, ev_chain, ev_lst, ev_tup, ev_enil, ev_econs, ev_not, ev_neg, ev_ix, ev_rev, ev_sl, ev_ono, ev_call, ev_bi, ev_or1, ev_orS, ev_and1, ev_andS, ev_range, ev_val, getvS, getv0, ok_ret, ok_add, ok_sub, ok_mul, ok_fdiv, ok_mod, ok_int, ok_lt, ok_le, ok_gt, ok_ge, ok_eqI, ok_neI, ok_asB, ok_truB, asg_v, ok_setv, List.length_cons, List.length_nil, List.set_cons_succ, List.set_cons_zero, Nat.reduceAdd, Nat.reduceLT, true_and]
    refine ⟨line1, ?_⟩
    rw [ne_bk]
    try simp only [rv_cons, rv_nil, rv_pass, rv_asg, rv_ret, rv_expr, rv_aug, rv_ife, rv_fors, nxt_nx, nxt_rt, tur_nx, tur_rt, rtQ_rt, rtQ_nx, ev_non, ev_bl, ev_int, ev_str, ev_v, ev_bin, ev_cmp, ev_chain, ev_lst, ev_tup, ev_enil, ev_econs, ev_not, ev_neg, ev_ix, ev_rev, ev_sl, ev_ono, ev_call, ev_bi, ev_or1, ev_orS, ev_and1, ev_andS, ev_range, ev_val, getvS, getv0, ok_ret, ok_add, ok_sub, ok_mul, ok_fdiv, ok_mod, ok_int, ok_lt, ok_le, ok_gt, ok_ge, ok_eqI, ok_neI, ok_asB, ok_truB, asg_v, ok_setv, List.length_cons, List.length_nil, List.set_cons_succ, List.set_cons_zero, Nat.reduceAdd, Nat.reduceLT, true_and]
    by_cases cB : isBk y
    · simp only [cB, decide_true, Bool.not_true, Bool.false_eq_true, if_false, b1_4, rv_cons, rv_nil, rv_pass, rv_asg, rv_ret, rv_expr, rv_aug, rv_ife, rv_fors, nxt_nx, nxt_rt, tur_nx, tur_rt, rtQ_rt, rtQ_nx, ev_non, ev_bl, ev_int, ev_str, ev_v, ev_bin, ev_cmp, ev_chain, ev_lst, ev_tup, ev_enil, ev_econs, ev_not, ev_neg, ev_ix, ev_rev, ev_sl, ev_ono, ev_call, ev_bi, ev_or1, ev_orS, ev_and1, ev_andS, ev_range, ev_val, getvS, getv0, ok_ret, ok_add, ok_sub, ok_mul, ok_fdiv, ok_mod, ok_int, ok_lt, ok_le, ok_gt, ok_ge, ok_eqI, ok_neI, ok_asB, ok_truB, asg_v, ok_setv, List.length_cons, List.length_nil, List.set_cons_succ, List.set_cons_zero, Nat.reduceAdd, Nat.reduceLT, true_and]
      unfold stp at q
      rw [if_neg (fun z => z.2.1 cB)] at q
      exact q
    · simp only [cB, decide_false, Bool.not_false, if_true, b1_3, ok_isN, rv_cons, rv_nil, rv_pass, rv_asg, rv_ret, rv_expr, rv_aug, rv_ife, rv_fors, nxt_nx, nxt_rt, tur_nx, tur_rt, rtQ_rt, rtQ_nx, ev_non, ev_bl, ev_int, ev_str, ev_v, ev_bin, ev_cmp, ev_chain, ev_lst, ev_tup, ev_enil, ev_econs, ev_not, ev_neg, ev_ix, ev_rev, ev_sl, ev_ono, ev_call, ev_bi, ev_or1, ev_orS, ev_and1, ev_andS, ev_range, ev_val, getvS, getv0, ok_ret, ok_add, ok_sub, ok_mul, ok_fdiv, ok_mod, ok_int, ok_lt, ok_le, ok_gt, ok_ge, ok_eqI, ok_neI, ok_asB, ok_truB, asg_v, ok_setv, List.length_cons, List.length_nil, List.set_cons_succ, List.set_cons_zero, Nat.reduceAdd, Nat.reduceLT, true_and]
      cases o with
      | none =>
        simp only [bV, ok_isN, eq_self, decide_true, if_true, b1_1, rv_cons, rv_nil, rv_pass, rv_asg, rv_ret, rv_expr, rv_aug, rv_ife, rv_fors, nxt_nx, nxt_rt, tur_nx, tur_rt, rtQ_rt, rtQ_nx, ev_non, ev_bl, ev_int, ev_str, ev_v, ev_bin, ev_cmp, ev_chain, ev_lst, ev_tup, ev_enil, ev_econs, ev_not, ev_neg, ev_ix, ev_rev, ev_sl, ev_ono, ev_call, ev_bi, ev_or1, ev_orS, ev_and1, ev_andS, ev_range, ev_val, getvS, getv0, ok_ret, ok_add, ok_sub, ok_mul, ok_fdiv, ok_mod, ok_int, ok_lt, ok_le, ok_gt, ok_ge, ok_eqI, ok_neI, ok_asB, ok_truB, asg_v, ok_setv, List.length_cons, List.length_nil, List.set_cons_succ, List.set_cons_zero, Nat.reduceAdd, Nat.reduceLT, true_and]
        rw [ok_ixL (c.r b hb) a1]
        try simp only [rv_cons, rv_nil, rv_pass, rv_asg, rv_ret, rv_expr, rv_aug, rv_ife, rv_fors, nxt_nx, nxt_rt, tur_nx, tur_rt, rtQ_rt, rtQ_nx, ev_non, ev_bl, ev_int, ev_str, ev_v, ev_bin, ev_cmp, ev_chain, ev_lst, ev_tup, ev_enil, ev_econs, ev_not, ev_neg, ev_ix, ev_rev, ev_sl, ev_ono, ev_call, ev_bi, ev_or1, ev_orS, ev_and1, ev_andS, ev_range, ev_val, getvS, getv0, ok_ret, ok_add, ok_sub, ok_mul, ok_fdiv, ok_mod, ok_int, ok_lt, ok_le, ok_gt, ok_ge, ok_eqI, ok_neI, ok_asB, ok_truB, asg_v, ok_setv, List.length_cons, List.length_nil, List.set_cons_succ, List.set_cons_zero, Nat.reduceAdd, Nat.reduceLT, true_and]
        rw [ok_ixR1 cR]
        try simp only [rv_cons, rv_nil, rv_pass, rv_asg, rv_ret, rv_expr, rv_aug, rv_ife, rv_fors, nxt_nx, nxt_rt, tur_nx, tur_rt, rtQ_rt, rtQ_nx, ev_non, ev_bl, ev_int, ev_str, ev_v, ev_bin, ev_cmp, ev_chain, ev_lst, ev_tup, ev_enil, ev_econs, ev_not, ev_neg, ev_ix, ev_rev, ev_sl, ev_ono, ev_call, ev_bi, ev_or1, ev_orS, ev_and1, ev_andS, ev_range, ev_val, getvS, getv0, ok_ret, ok_add, ok_sub, ok_mul, ok_fdiv, ok_mod, ok_int, ok_lt, ok_le, ok_gt, ok_ge, ok_eqI, ok_neI, ok_asB, ok_truB, asg_v, ok_setv, List.length_cons, List.length_nil, List.set_cons_succ, List.set_cons_zero, Nat.reduceAdd, Nat.reduceLT, true_and]
        refine ⟨line_le (by decide), ?_⟩
        unfold stp at q
        rw [if_pos ⟨cR, cB, rfl⟩] at q
        exact q
      | some oz =>
        obtain ⟨z0, z⟩ := oz
        simp only [bV, ok_isN, reduceCtorEq, decide_false, Bool.false_eq_true, if_false, rv_cons, rv_nil, rv_pass, rv_asg, rv_ret, rv_expr, rv_aug, rv_ife, rv_fors, nxt_nx, nxt_rt, tur_nx, tur_rt, rtQ_rt, rtQ_nx, ev_non, ev_bl, ev_int, ev_str, ev_v, ev_bin, ev_cmp, ev_chain, ev_lst, ev_tup, ev_enil, ev_econs, ev_not, ev_neg, ev_ix, ev_rev, ev_sl, ev_ono, ev_call, ev_bi, ev_or1, ev_orS, ev_and1, ev_andS, ev_range, ev_val, getvS, getv0, ok_ret, ok_add, ok_sub, ok_mul, ok_fdiv, ok_mod, ok_int, ok_lt, ok_le, ok_gt, ok_ge, ok_eqI, ok_neI, ok_asB, ok_truB, asg_v, ok_setv, List.length_cons, List.length_nil, List.set_cons_succ, List.set_cons_zero, Nat.reduceAdd, Nat.reduceLT, true_and]
        rw [ok_ixL (c.r b hb) a1]
        try simp only [rv_cons, rv_nil, rv_pass, rv_asg, rv_ret, rv_expr, rv_aug, rv_ife, rv_fors, nxt_nx, nxt_rt, tur_nx, tur_rt, rtQ_rt, rtQ_nx, ev_non, ev_bl, ev_int, ev_str, ev_v, ev_bin, ev_cmp, ev_chain, ev_lst, ev_tup, ev_enil, ev_econs, ev_not, ev_neg, ev_ix, ev_rev, ev_sl, ev_ono, ev_call, ev_bi, ev_or1, ev_orS, ev_and1, ev_andS, ev_range, ev_val, getvS, getv0, ok_ret, ok_add, ok_sub, ok_mul, ok_fdiv, ok_mod, ok_int, ok_lt, ok_le, ok_gt, ok_ge, ok_eqI, ok_neI, ok_asB, ok_truB, asg_v, ok_setv, List.length_cons, List.length_nil, List.set_cons_succ, List.set_cons_zero, Nat.reduceAdd, Nat.reduceLT, true_and]
        rw [ok_ixR1 cR]
        try simp only [rv_cons, rv_nil, rv_pass, rv_asg, rv_ret, rv_expr, rv_aug, rv_ife, rv_fors, nxt_nx, nxt_rt, tur_nx, tur_rt, rtQ_rt, rtQ_nx, ev_non, ev_bl, ev_int, ev_str, ev_v, ev_bin, ev_cmp, ev_chain, ev_lst, ev_tup, ev_enil, ev_econs, ev_not, ev_neg, ev_ix, ev_rev, ev_sl, ev_ono, ev_call, ev_bi, ev_or1, ev_orS, ev_and1, ev_andS, ev_range, ev_val, getvS, getv0, ok_ret, ok_add, ok_sub, ok_mul, ok_fdiv, ok_mod, ok_int, ok_lt, ok_le, ok_gt, ok_ge, ok_eqI, ok_neI, ok_asB, ok_truB, asg_v, ok_setv, List.length_cons, List.length_nil, List.set_cons_succ, List.set_cons_zero, Nat.reduceAdd, Nat.reduceLT, true_and]
        rw [ok_ixC1]
        try simp only [rv_cons, rv_nil, rv_pass, rv_asg, rv_ret, rv_expr, rv_aug, rv_ife, rv_fors, nxt_nx, nxt_rt, tur_nx, tur_rt, rtQ_rt, rtQ_nx, ev_non, ev_bl, ev_int, ev_str, ev_v, ev_bin, ev_cmp, ev_chain, ev_lst, ev_tup, ev_enil, ev_econs, ev_not, ev_neg, ev_ix, ev_rev, ev_sl, ev_ono, ev_call, ev_bi, ev_or1, ev_orS, ev_and1, ev_andS, ev_range, ev_val, getvS, getv0, ok_ret, ok_add, ok_sub, ok_mul, ok_fdiv, ok_mod, ok_int, ok_lt, ok_le, ok_gt, ok_ge, ok_eqI, ok_neI, ok_asB, ok_truB, asg_v, ok_setv, List.length_cons, List.length_nil, List.set_cons_succ, List.set_cons_zero, Nat.reduceAdd, Nat.reduceLT, true_and]
        rw [ok_ixB]
        try simp only [rv_cons, rv_nil, rv_pass, rv_asg, rv_ret, rv_expr, rv_aug, rv_ife, rv_fors, nxt_nx, nxt_rt, tur_nx, tur_rt, rtQ_rt, rtQ_nx, ev_non, ev_bl, ev_int, ev_str, ev_v, ev_bin, ev_cmp, ev_chain, ev_lst, ev_tup, ev_enil, ev_econs, ev_not, ev_neg, ev_ix, ev_rev, ev_sl, ev_ono, ev_call, ev_bi, ev_or1, ev_orS, ev_and1, ev_andS, ev_range, ev_val, getvS, getv0, ok_ret, ok_add, ok_sub, ok_mul, ok_fdiv, ok_mod, ok_int, ok_lt, ok_le, ok_gt, ok_ge, ok_eqI, ok_neI, ok_asB, ok_truB, asg_v, ok_setv, List.length_cons, List.length_nil, List.set_cons_succ, List.set_cons_zero, Nat.reduceAdd, Nat.reduceLT, true_and]
        rw [ok_ixC1]
        try simp only [rv_cons, rv_nil, rv_pass, rv_asg, rv_ret, rv_expr, rv_aug, rv_ife, rv_fors, nxt_nx, nxt_rt, tur_nx, tur_rt, rtQ_rt, rtQ_nx, ev_non, ev_bl, ev_int, ev_str, ev_v, ev_bin, ev_cmp, ev_chain, ev_lst, ev_tup, ev_enil, ev_econs, ev_not, ev_neg, ev_ix, ev_rev, ev_sl, ev_ono, ev_call, ev_bi, ev_or1, ev_orS, ev_and1, ev_andS, ev_range, ev_val, getvS, getv0, ok_ret, ok_add, ok_sub, ok_mul, ok_fdiv, ok_mod, ok_int, ok_lt, ok_le, ok_gt, ok_ge, ok_eqI, ok_neI, ok_asB, ok_truB, asg_v, ok_setv, List.length_cons, List.length_nil, List.set_cons_succ, List.set_cons_zero, Nat.reduceAdd, Nat.reduceLT, true_and]
        by_cases cn : num z < num x
        · simp only [cn, decide_true, if_true, b1_1, rv_cons, rv_nil, rv_pass, rv_asg, rv_ret, rv_expr, rv_aug, rv_ife, rv_fors, nxt_nx, nxt_rt, tur_nx, tur_rt, rtQ_rt, rtQ_nx, ev_non, ev_bl, ev_int, ev_str, ev_v, ev_bin, ev_cmp, ev_chain, ev_lst, ev_tup, ev_enil, ev_econs, ev_not, ev_neg, ev_ix, ev_rev, ev_sl, ev_ono, ev_call, ev_bi, ev_or1, ev_orS, ev_and1, ev_andS, ev_range, ev_val, getvS, getv0, ok_ret, ok_add, ok_sub, ok_mul, ok_fdiv, ok_mod, ok_int, ok_lt, ok_le, ok_gt, ok_ge, ok_eqI, ok_neI, ok_asB, ok_truB, asg_v, ok_setv, List.length_cons, List.length_nil, List.set_cons_succ, List.set_cons_zero, Nat.reduceAdd, Nat.reduceLT, true_and]
          rw [ok_ixL (c.r b hb) a1]
          try simp only [rv_cons, rv_nil, rv_pass, rv_asg, rv_ret, rv_expr, rv_aug, rv_ife, rv_fors, nxt_nx, nxt_rt, tur_nx, tur_rt, rtQ_rt, rtQ_nx, ev_non, ev_bl, ev_int, ev_str, ev_v, ev_bin, ev_cmp, ev_chain, ev_lst, ev_tup, ev_enil, ev_econs, ev_not, ev_neg, ev_ix, ev_rev, ev_sl, ev_ono, ev_call, ev_bi, ev_or1, ev_orS, ev_and1, ev_andS, ev_range, ev_val, getvS, getv0, ok_ret, ok_add, ok_sub, ok_mul, ok_fdiv, ok_mod, ok_int, ok_lt, ok_le, ok_gt, ok_ge, ok_eqI, ok_neI, ok_asB, ok_truB, asg_v, ok_setv, List.length_cons, List.length_nil, List.set_cons_succ, List.set_cons_zero, Nat.reduceAdd, Nat.reduceLT, true_and]
          rw [ok_ixR1 cR]
          try simp only [rv_cons, rv_nil, rv_pass, rv_asg, rv_ret, rv_expr, rv_aug, rv_ife, rv_fors, nxt_nx, nxt_rt, tur_nx, tur_rt, rtQ_rt, rtQ_nx, ev_non, ev_bl, ev_int, ev_str, ev_v, ev_bin, ev_cmp, ev_chain, ev_lst, ev_tup, ev_enil, ev_econs, ev_not, ev_neg, ev_ix, ev_rev, ev_sl, ev_ono, ev_call, ev_bi, ev_or1, ev_orS, ev_and1, ev_andS, ev_range, ev_val, getvS, getv0, ok_ret, ok_add, ok_sub, ok_mul, ok_fdiv, ok_mod, ok_int, ok_lt, ok_le, ok_gt, ok_ge, ok_eqI, ok_neI, ok_asB, ok_truB, asg_v, ok_setv, List.length_cons, List.length_nil, List.set_cons_succ, List.set_cons_zero, Nat.reduceAdd, Nat.reduceLT, true_and]
          refine ⟨line_le (by decide), ?_⟩
          unfold stp at q
          rw [if_pos ⟨cR, cB, decide_eq_true cn⟩] at q
          exact q
        · simp only [cn, decide_false, Bool.false_eq_true, if_false, b1_2, rv_cons, rv_nil, rv_pass, rv_asg, rv_ret, rv_expr, rv_aug, rv_ife, rv_fors, nxt_nx, nxt_rt, tur_nx, tur_rt, rtQ_rt, rtQ_nx, ev_non, ev_bl, ev_int, ev_str, ev_v, ev_bin, ev_cmp, ev_chain, ev_lst, ev_tup, ev_enil, ev_econs, ev_not, ev_neg, ev_ix, ev_rev, ev_sl, ev_ono, ev_call, ev_bi, ev_or1, ev_orS, ev_and1, ev_andS, ev_range, ev_val, getvS, getv0, ok_ret, ok_add, ok_sub, ok_mul, ok_fdiv, ok_mod, ok_int, ok_lt, ok_le, ok_gt, ok_ge, ok_eqI, ok_neI, ok_asB, ok_truB, asg_v, ok_setv, List.length_cons, List.length_nil, List.set_cons_succ, List.set_cons_zero, Nat.reduceAdd, Nat.reduceLT, true_and]
          unfold stp at q
          rw [if_neg (fun w => cn (of_decide_eq_true w.2.2))] at q
          exact q
  · simp only [cR, decide_false, Bool.false_eq_true, if_false, b1_4, rv_cons, rv_nil, rv_pass, rv_asg, rv_ret, rv_expr, rv_aug, rv_ife, rv_fors, nxt_nx, nxt_rt, tur_nx, tur_rt, rtQ_rt, rtQ_nx, ev_non, ev_bl, ev_int, ev_str, ev_v, ev_bin, ev_cmp, ev_chain, ev_lst, ev_tup, ev_enil, ev_econs, ev_not, ev_neg, ev_ix, ev_rev, ev_sl, ev_ono, ev_call, ev_bi, ev_or1, ev_orS, ev_and1, ev_andS, ev_range, ev_val, getvS, getv0, ok_ret, ok_add, ok_sub, ok_mul, ok_fdiv, ok_mod, ok_int, ok_lt, ok_le, ok_gt, ok_ge, ok_eqI, ok_neI, ok_asB, ok_truB, asg_v, ok_setv, List.length_cons, List.length_nil, List.set_cons_succ, List.set_cons_zero, Nat.reduceAdd, Nat.reduceLT, true_and]
    unfold stp at q
    rw [if_neg (fun z => cR z.1)] at q
    exact q
theorem stand_ok (c : Sc h s R Y p) (hq : Q (bV (out Y 3)) h) : Ok (callD (T ns) (d + 2) 1 [.ref s] h) Q X := by
  refine ok_call (np := 1) (ns := 5) (B := body1) (ρ := [some (.ref s), none, none, none, none]) rfl rfl (by decide) rfl ?_
  simp only [body1, rv_cons, rv_nil, rv_pass, rv_asg, rv_ret, rv_expr, rv_aug, rv_ife, rv_fors, nxt_nx, nxt_rt, tur_nx, tur_rt, rtQ_rt, rtQ_nx, ev_non, ev_bl, ev_int, ev_str, ev_v, ev_bin, ev_cmp, ev_chain, ev_lst, ev_tup, ev_enil, ev_econs, ev_not, ev_neg, ev_ix, ev_rev, ev_sl, ev_ono, ev_call, ev_bi, ev_or1, ev_orS, ev_and1, ev_andS, ev_range, ev_val, getvS, getv0, ok_ret, ok_add, ok_sub, ok_mul, ok_fdiv, ok_mod, ok_int, ok_lt, ok_le, ok_gt, ok_ge, ok_eqI, ok_neI, ok_asB, ok_truB, asg_v, ok_setv, List.length_cons, List.length_nil, List.set_cons_succ, List.set_cons_zero, Nat.reduceAdd, Nat.reduceLT, true_and]
  rw [ok_len c.l]
  try simp only [rv_cons, rv_nil, rv_pass, rv_asg, rv_ret, rv_expr, rv_aug, rv_ife, rv_fors, nxt_nx, nxt_rt, tur_nx, tur_rt, rtQ_rt, rtQ_nx, ev_non, ev_bl, ev_int, ev_str, ev_v, ev_bin, ev_cmp, ev_chain, ev_lst, ev_tup, ev_enil, ev_econs, ev_not, ev_neg, ev_ix, ev_rev, ev_sl, ev_ono, ev_call, ev_bi, ev_or1, ev_orS, ev_and1, ev_andS, ev_range, ev_val, getvS, getv0, ok_ret, ok_add, ok_sub, ok_mul, ok_fdiv, ok_mod, ok_int, ok_lt, ok_le, ok_gt, ok_ge, ok_eqI, ok_neI, ok_asB, ok_truB, asg_v, ok_setv, List.length_cons, List.length_nil, List.set_cons_succ, List.set_cons_zero, Nat.reduceAdd, Nat.reduceLT, true_and]
  show Ok (rangeV [.int 3] h) _ _
  rw [ok_range1 (inR_mk (by decide) (by decide))]
  refine rv_for (fun b ρ h' => ∃ c3 c4 c5 : Option Val, ρ = [some (.ref s), some (bV (out Y b)), c3, c4, c5] ∧ h' = h) ⟨none, none, none, rfl, rfl⟩ (fun _ _ _ _ => rfl) ?_ ?_
  · rintro b v ρ h1 hi ⟨c3, c4, c5, rfl, rfl⟩
    obtain ⟨rfl, hb⟩ := rng_at hi
    have hb : b < 3 := hb
    rw [rv_wth, ok_nx]
    simp only [b1_6, Int.zero_add, rv_cons, rv_nil, rv_pass, rv_asg, rv_ret, rv_expr, rv_aug, rv_ife, rv_fors, nxt_nx, nxt_rt, tur_nx, tur_rt, rtQ_rt, rtQ_nx, ev_non, ev_bl, ev_int, ev_str, ev_v, ev_bin, ev_cmp, ev_chain, ev_lst, ev_tup, ev_enil, ev_econs, ev_not, ev_neg, ev_ix, ev_rev, ev_sl, ev_ono, ev_call, ev_bi, ev_or1, ev_orS, ev_and1, ev_andS, ev_range, ev_val, getvS, getv0, ok_ret, ok_add, ok_sub, ok_mul, ok_fdiv, ok_mod, ok_int, ok_lt, ok_le, ok_gt, ok_ge, ok_eqI, ok_neI, ok_asB, ok_truB, asg_v, ok_setv, List.length_cons, List.length_nil, List.set_cons_succ, List.set_cons_zero, Nat.reduceAdd, Nat.reduceLT, true_and]
    rw [ok_ixL c.l (c.row hb)]
    try simp only [rv_cons, rv_nil, rv_pass, rv_asg, rv_ret, rv_expr, rv_aug, rv_ife, rv_fors, nxt_nx, nxt_rt, tur_nx, tur_rt, rtQ_rt, rtQ_nx, ev_non, ev_bl, ev_int, ev_str, ev_v, ev_bin, ev_cmp, ev_chain, ev_lst, ev_tup, ev_enil, ev_econs, ev_not, ev_neg, ev_ix, ev_rev, ev_sl, ev_ono, ev_call, ev_bi, ev_or1, ev_orS, ev_and1, ev_andS, ev_range, ev_val, getvS, getv0, ok_ret, ok_add, ok_sub, ok_mul, ok_fdiv, ok_mod, ok_int, ok_lt, ok_le, ok_gt, ok_ge, ok_eqI, ok_neI, ok_asB, ok_truB, asg_v, ok_setv, List.length_cons, List.length_nil, List.set_cons_succ, List.set_cons_zero, Nat.reduceAdd, Nat.reduceLT, true_and]
    rw [ok_len (c.r b hb)]
    try simp only [rv_cons, rv_nil, rv_pass, rv_asg, rv_ret, rv_expr, rv_aug, rv_ife, rv_fors, nxt_nx, nxt_rt, tur_nx, tur_rt, rtQ_rt, rtQ_nx, ev_non, ev_bl, ev_int, ev_str, ev_v, ev_bin, ev_cmp, ev_chain, ev_lst, ev_tup, ev_enil, ev_econs, ev_not, ev_neg, ev_ix, ev_rev, ev_sl, ev_ono, ev_call, ev_bi, ev_or1, ev_orS, ev_and1, ev_andS, ev_range, ev_val, getvS, getv0, ok_ret, ok_add, ok_sub, ok_mul, ok_fdiv, ok_mod, ok_int, ok_lt, ok_le, ok_gt, ok_ge, ok_eqI, ok_neI, ok_asB, ok_truB, asg_v, ok_setv, List.length_cons, List.length_nil, List.set_cons_succ, List.set_cons_zero, Nat.reduceAdd, Nat.reduceLT, true_and]
    rw [ok_rg2 (p := ((List.range p).map fun k => rdV (Y b k)).length - 1) (by rw [List.length_map, List.length_range]; have := c.p6; omega)]
    refine rv_for (fun i ρ h' => ∃ c5 : Option Val, ρ = [some (.ref s), some (bV (inn Y b (out Y b) i)), some (.int b), some (.ref (R b)), c5] ∧ h' = h1) ⟨c5, rfl, rfl⟩ (fun _ _ _ _ => rfl) ?_ ?_
    · rintro i v ρ h2 hi ⟨c5, rfl, rfl⟩
      obtain ⟨rfl, hi3⟩ := rgC_at hi
      rw [rv_wth, ok_nx]
      simp only [rv_cons, rv_nil, rv_pass, rv_asg, rv_ret, rv_expr, rv_aug, rv_ife, rv_fors, nxt_nx, nxt_rt, tur_nx, tur_rt, rtQ_rt, rtQ_nx, ev_non, ev_bl, ev_int, ev_str, ev_v, ev_bin, ev_cmp, ev_chain, ev_lst, ev_tup, ev_enil, ev_econs, ev_not, ev_neg, ev_ix, ev_rev, ev_sl, ev_ono, ev_call, ev_bi, ev_or1, ev_orS, ev_and1, ev_andS, ev_range, ev_val, getvS, getv0, ok_ret, ok_add, ok_sub, ok_mul, ok_fdiv, ok_mod, ok_int, ok_lt, ok_le, ok_gt, ok_ge, ok_eqI, ok_neI, ok_asB, ok_truB, asg_v, ok_setv, List.length_cons, List.length_nil, List.set_cons_succ, List.set_cons_zero, Nat.reduceAdd, Nat.reduceLT, true_and]
      refine turn1 hb hi3 c ?_
      first | exact ⟨_, rfl, trivial⟩ | exact ⟨_, rfl, rfl⟩
    · rintro ρ h2 ⟨c5, rfl, rfl⟩
      simp only [rv_cons, rv_nil, rv_pass, rv_asg, rv_ret, rv_expr, rv_aug, rv_ife, rv_fors, nxt_nx, nxt_rt, tur_nx, tur_rt, rtQ_rt, rtQ_nx, ev_non, ev_bl, ev_int, ev_str, ev_v, ev_bin, ev_cmp, ev_chain, ev_lst, ev_tup, ev_enil, ev_econs, ev_not, ev_neg, ev_ix, ev_rev, ev_sl, ev_ono, ev_call, ev_bi, ev_or1, ev_orS, ev_and1, ev_andS, ev_range, ev_val, getvS, getv0, ok_ret, ok_add, ok_sub, ok_mul, ok_fdiv, ok_mod, ok_int, ok_lt, ok_le, ok_gt, ok_ge, ok_eqI, ok_neI, ok_asB, ok_truB, asg_v, ok_setv, List.length_cons, List.length_nil, List.set_cons_succ, List.set_cons_zero, Nat.reduceAdd, Nat.reduceLT, true_and]
      first | exact ⟨_, _, _, rfl, trivial⟩ | exact ⟨_, _, _, rfl, rfl⟩
  · rintro ρ h1 ⟨c3, c4, c5, rfl, rfl⟩
    simp only [b1_0, rv_cons, rv_nil, rv_pass, rv_asg, rv_ret, rv_expr, rv_aug, rv_ife, rv_fors, nxt_nx, nxt_rt, tur_nx, tur_rt, rtQ_rt, rtQ_nx, ev_non, ev_bl, ev_int, ev_str, ev_v, ev_bin, ev_cmp, ev_chain, ev_lst, ev_tup, ev_enil, ev_econs, ev_not, ev_neg, ev_ix, ev_rev, ev_sl, ev_ono, ev_call, ev_bi, ev_or1, ev_orS, ev_and1, ev_andS, ev_range, ev_val, getvS, getv0, ok_ret, ok_add, ok_sub, ok_mul, ok_fdiv, ok_mod, ok_int, ok_lt, ok_le, ok_gt, ok_ge, ok_eqI, ok_neI, ok_asB, ok_truB, asg_v, ok_setv, List.length_cons, List.length_nil, List.set_cons_succ, List.set_cons_zero, Nat.reduceAdd, Nat.reduceLT, true_and]
    exact hq
/-! ### the law's own loops -/
theorem rd_hd0 : ∃ hd r, rdV x = .tup (.str hd :: r) ∧ ((isBk x ∧ hd = "blank") ∨ (¬ isBk x ∧ decide (hd = ("blank" : Str)) = false)) := by
  rcases rd_cases x with ⟨c, n, e⟩ | ⟨c, n, e⟩ | ⟨c, n, e⟩ | ⟨c, n, e⟩ | ⟨c, n, e⟩
  · exact ⟨_, _, e, .inl ⟨c, rfl⟩⟩
  · exact ⟨_, _, e, .inr ⟨c, s5⟩⟩
  · exact ⟨_, _, e, .inr ⟨c, s6⟩⟩
  · exact ⟨_, _, e, .inr ⟨c, s6⟩⟩
  · exact ⟨_, _, e, .inr ⟨c, s6⟩⟩
theorem at0 {v : Val} {r : List Val} : atI (v :: r) 0 = some v := atI_of (xs := v :: r) (i := 0) (j := 0) rfl (by simp)
theorem neb_ok {S : Val → Hs → Prop} (q : S (.bl (!decide (isBk x))) h) : Ok (ixV ro (rdV x) (.int 0) h) (fun v h' => Ok (cmpV ro .ne v (.str "blank") h') S X) X := by
  obtain ⟨hd, r, e, k⟩ := @rd_hd0 x
  rw [e, ok_ixT at0, ok_neS]
  rcases k with ⟨c, rfl⟩ | ⟨c, k⟩
  · rw [decide_eq_true c] at q
    simpa using q
  · rw [decide_eq_false c] at q
    rw [k]; exact q
theorem turn2 {c0 c1 c2 c7 c8 : Option Val} {b i : Nat} (hb : b < 3) (hi : i < 3) (c : Sc h s R Y p) {o : Option (Int × Int)} {S : Fl → Hs → Prop} {YY : Exc → MP.Env → Hs → Prop} {cl : CallF}
    (q : ∀ c7 c8, S (.nx [c0, c1, c2, some (.ref s), some (bV (stp o b (Y b (2 * i)) (Y b (2 * i + 1)))), some (.int b), some (.int (2 * i : Nat)), c7, c8]) h) :
    Rv (evSs (T ns) cl b4_3 [c0, c1, c2, some (.ref s), some (bV o), some (.int b), some (.int (2 * i : Nat)), c7, c8] h) S YY := by
  have hp := c.p6
  have a1 := c.at_ (b := b) (k := 2 * i) (by omega)
  have a2 := c.at_ (b := b) (k := 2 * i + 1) (by omega)
  have e2 : ((2 * i : Nat) : Int) + 1 = ((2 * i + 1 : Nat) : Int) := by omega
  generalize Y b (2 * i) = x at a1 q
  generalize Y b (2 * i + 1) = y at a2 q
  generalize hk : ((2 * i : Nat) : Int) = k at *
  simp only [b4_3, rv_cons, rv_nil, rv_pass, rv_asg, rv_ret, rv_expr, rv_aug, rv_ife, rv_fors, nxt_nx, nxt_rt, tur_nx, tur_rt, rtQ_rt, rtQ_nx, ev_non, ev_bl, ev_int, ev_str, ev_v, ev_bin, ev_cmp, ev_chain, ev_lst, ev_tup, ev_enil, ev_econs, ev_not, ev_neg, ev_ix, ev_rev, ev_sl, ev_ono, ev_call, ev_bi, ev_or1, ev_orS, ev_and1, ev_andS, ev_range, ev_val, getvS, getv0, ok_ret, ok_add, ok_sub, ok_mul, ok_fdiv, ok_mod, ok_int, ok_lt, ok_le, ok_gt, ok_ge, ok_eqI, ok_neI, ok_asB, ok_truB, asg_v, ok_setv, List.length_cons, List.length_nil, List.set_cons_succ, List.set_cons_zero, Nat.reduceAdd, Nat.reduceLT, true_and]
  rw [ok_ixL c.l (c.row hb)]
  try simp only [rv_cons, rv_nil, rv_pass, rv_asg, rv_ret, rv_expr, rv_aug, rv_ife, rv_fors, nxt_nx, nxt_rt, tur_nx, tur_rt, rtQ_rt, rtQ_nx, ev_non, ev_bl, ev_int, ev_str, ev_v, ev_bin, ev_cmp, ev_chain, ev_lst, ev_tup, ev_enil, ev_econs, ev_not, ev_neg, ev_ix, ev_rev, ev_sl, ev_ono, ev_call, ev_bi, ev_or1, ev_orS, ev_and1, ev_andS, ev_range, ev_val, getvS, getv0, ok_ret, ok_add, ok_sub, ok_mul, ok_fdiv, ok_mod, ok_int, ok_lt, ok_le, ok_gt, ok_ge, ok_eqI, ok_neI, ok_asB, ok_truB, asg_v, ok_setv, List.length_cons, List.length_nil, List.set_cons_succ, List.set_cons_zero, Nat.reduceAdd, Nat.reduceLT, true_and]
  rw [ok_ixL (c.r b hb) a1]
  try simp only [rv_cons, rv_nil, rv_pass, rv_asg, rv_ret, rv_expr, rv_aug, rv_ife, rv_fors, nxt_nx, nxt_rt, tur_nx, tur_rt, rtQ_rt, rtQ_nx, ev_non, ev_bl, ev_int, ev_str, ev_v, ev_bin, ev_cmp, ev_chain, ev_lst, ev_tup, ev_enil, ev_econs, ev_not, ev_neg, ev_ix, ev_rev, ev_sl, ev_ono, ev_call, ev_bi, ev_or1, ev_orS, ev_and1, ev_andS, ev_range, ev_val, getvS, getv0, ok_ret, ok_add, ok_sub, ok_mul, ok_fdiv, ok_mod, ok_int, ok_lt, ok_le, ok_gt, ok_ge, ok_eqI, ok_neI, ok_asB, ok_truB, asg_v, ok_setv, List.length_cons, List.length_nil, List.set_cons_succ, List.set_cons_zero, Nat.reduceAdd, Nat.reduceLT, true_and]
  -- not a root
  have no : ¬ isR x → ∀ v8, v8 = Val.bl false → Rv (evSs (T ns) cl b4_2 [c0, c1, c2, some (.ref s), some (bV o), some (.int b), some (.int k), some (rdV x), some v8] h) (nxt (evSs (T ns) cl .nil) S YY) YY := fun n v8 _ => by
    simp only [b4_2, rv_cons, rv_nil, rv_pass, rv_asg, rv_ret, rv_expr, rv_aug, rv_ife, rv_fors, nxt_nx, nxt_rt, tur_nx, tur_rt, rtQ_rt, rtQ_nx, ev_non, ev_bl, ev_int, ev_str, ev_v, ev_bin, ev_cmp, ev_chain, ev_lst, ev_tup, ev_enil, ev_econs, ev_not, ev_neg, ev_ix, ev_rev, ev_sl, ev_ono, ev_call, ev_bi, ev_or1, ev_orS, ev_and1, ev_andS, ev_range, ev_val, getvS, getv0, ok_ret, ok_add, ok_sub, ok_mul, ok_fdiv, ok_mod, ok_int, ok_lt, ok_le, ok_gt, ok_ge, ok_eqI, ok_neI, ok_asB, ok_truB, asg_v, ok_setv, List.length_cons, List.length_nil, List.set_cons_succ, List.set_cons_zero, Nat.reduceAdd, Nat.reduceLT, true_and]
    have := q (some (rdV x)) (some v8)
    unfold stp at this
    rw [if_neg (fun z => n z.1)] at this
    exact this
  by_cases cR : isR x
  · rw [rd_R cR, ok_ixT at0]
    simp only [ok_eqS, decide_true, if_true, rv_cons, rv_nil, rv_pass, rv_asg, rv_ret, rv_expr, rv_aug, rv_ife, rv_fors, nxt_nx, nxt_rt, tur_nx, tur_rt, rtQ_rt, rtQ_nx, ev_non, ev_bl, ev_int, ev_str, ev_v, ev_bin, ev_cmp, ev_chain, ev_lst, ev_tup, ev_enil, ev_econs, ev_not, ev_neg, ev_ix, ev_rev, ev_sl, ev_ono, ev_call, ev_bi, ev_or1, ev_orS, ev_and1, ev_andS, ev_range, ev_val, getvS, getv0, ok_ret, ok_add, ok_sub, ok_mul, ok_fdiv, ok_mod, ok_int, ok_lt, ok_le, ok_gt, ok_ge, ok_eqI, ok_neI, ok_asB, ok_truB, asg_v, ok_setv, List.length_cons, List.length_nil, List.set_cons_succ, List.set_cons_zero, Nat.reduceAdd, Nat.reduceLT, true_and]
    rw [ok_ixT (v := contV x) rfl]
    try simp only [rv_cons, rv_nil, rv_pass, rv_asg, rv_ret, rv_expr, rv_aug, rv_ife, rv_fors, nxt_nx, nxt_rt, tur_nx, tur_rt, rtQ_rt, rtQ_nx, ev_non, ev_bl, ev_int, ev_str, ev_v, ev_bin, ev_cmp, ev_chain, ev_lst, ev_tup, ev_enil, ev_econs, ev_not, ev_neg, ev_ix, ev_rev, ev_sl, ev_ono, ev_call, ev_bi, ev_or1, ev_orS, ev_and1, ev_andS, ev_range, ev_val, getvS, getv0, ok_ret, ok_add, ok_sub, ok_mul, ok_fdiv, ok_mod, ok_int, ok_lt, ok_le, ok_gt, ok_ge, ok_eqI, ok_neI, ok_asB, ok_truB, asg_v, ok_setv, List.length_cons, List.length_nil, List.set_cons_succ, List.set_cons_zero, Nat.reduceAdd, Nat.reduceLT, true_and]
    rw [contV, ok_ixT at0, ← contV]
    simp only [ok_eqS, decide_true, if_true, rv_cons, rv_nil, rv_pass, rv_asg, rv_ret, rv_expr, rv_aug, rv_ife, rv_fors, nxt_nx, nxt_rt, tur_nx, tur_rt, rtQ_rt, rtQ_nx, ev_non, ev_bl, ev_int, ev_str, ev_v, ev_bin, ev_cmp, ev_chain, ev_lst, ev_tup, ev_enil, ev_econs, ev_not, ev_neg, ev_ix, ev_rev, ev_sl, ev_ono, ev_call, ev_bi, ev_or1, ev_orS, ev_and1, ev_andS, ev_range, ev_val, getvS, getv0, ok_ret, ok_add, ok_sub, ok_mul, ok_fdiv, ok_mod, ok_int, ok_lt, ok_le, ok_gt, ok_ge, ok_eqI, ok_neI, ok_asB, ok_truB, asg_v, ok_setv, List.length_cons, List.length_nil, List.set_cons_succ, List.set_cons_zero, Nat.reduceAdd, Nat.reduceLT, true_and]
    rw [ok_ixL c.l (c.row hb)]
    try simp only [rv_cons, rv_nil, rv_pass, rv_asg, rv_ret, rv_expr, rv_aug, rv_ife, rv_fors, nxt_nx, nxt_rt, tur_nx, tur_rt, rtQ_rt, rtQ_nx, ev_non, ev_bl, ev_int, ev_str, ev_v, ev_bin, ev_cmp, ev_chain, ev_lst, ev_tup, ev_enil, ev_econs, ev_not, ev_neg, ev_ix, ev_rev, ev_sl, ev_ono, ev_call, ev_bi, ev_or1, ev_orS, ev_and1, ev_andS, ev_range, ev_val, getvS, getv0, ok_ret, ok_add, ok_sub, ok_mul, ok_fdiv, ok_mod, ok_int, ok_lt, ok_le, ok_gt, ok_ge, ok_eqI, ok_neI, ok_asB, ok_truB, asg_v, ok_setv, List.length_cons, List.length_nil, List.set_cons_succ, List.set_cons_zero, Nat.reduceAdd, Nat.reduceLT, true_and]
    rw [e2, ok_ixL (c.r b hb) a2]
    try simp only [rv_cons, rv_nil, rv_pass, rv_asg, rv_ret, rv_expr, rv_aug, rv_ife, rv_fors, nxt_nx, nxt_rt, tur_nx, tur_rt, rtQ_rt, rtQ_nx, ev_non, ev_bl, ev_int, ev_str, ev_v, ev_bin, ev_cmp, ev_chain, ev_lst, ev_tup, ev_enil, ev_econs, ev_not, ev_neg, ev_ix, ev_rev, ev_sl, ev_ono, ev_call, ev_bi, ev_or1, ev_orS, ev_and1, ev_andS, ev_range, ev_val, getvS, getv0, ok_ret, ok_add, ok_sub, ok_mul, ok_fdiv, ok_mod, ok_int, ok_lt, ok_le, ok_gt, ok_ge, ok_eqI, ok_neI, ok_asB, ok_truB, asg_v, ok_setv, List.length_cons, List.length_nil, List.set_cons_succ, List.set_cons_zero, Nat.reduceAdd, Nat.reduceLT, true_and]
    refine neb_ok ?_
    try simp only [rv_cons, rv_nil, rv_pass, rv_asg, rv_ret, rv_expr, rv_aug, rv_ife, rv_fors, nxt_nx, nxt_rt, tur_nx, tur_rt, rtQ_rt, rtQ_nx, ev_non, ev_bl, ev_int, ev_str, ev_v, ev_bin, ev_cmp, ev_chain, ev_lst, ev_tup, ev_enil, ev_econs, ev_not, ev_neg, ev_ix, ev_rev, ev_sl, ev_ono, ev_call, ev_bi, ev_or1, ev_orS, ev_and1, ev_andS, ev_range, ev_val, getvS, getv0, ok_ret, ok_add, ok_sub, ok_mul, ok_fdiv, ok_mod, ok_int, ok_lt, ok_le, ok_gt, ok_ge, ok_eqI, ok_neI, ok_asB, ok_truB, asg_v, ok_setv, List.length_cons, List.length_nil, List.set_cons_succ, List.set_cons_zero, Nat.reduceAdd, Nat.reduceLT, true_and]
    by_cases cB : isBk y
    · simp only [cB, decide_true, Bool.not_true, Bool.false_eq_true, if_false, b4_2, rv_cons, rv_nil, rv_pass, rv_asg, rv_ret, rv_expr, rv_aug, rv_ife, rv_fors, nxt_nx, nxt_rt, tur_nx, tur_rt, rtQ_rt, rtQ_nx, ev_non, ev_bl, ev_int, ev_str, ev_v, ev_bin, ev_cmp, ev_chain, ev_lst, ev_tup, ev_enil, ev_econs, ev_not, ev_neg, ev_ix, ev_rev, ev_sl, ev_ono, ev_call, ev_bi, ev_or1, ev_orS, ev_and1, ev_andS, ev_range, ev_val, getvS, getv0, ok_ret, ok_add, ok_sub, ok_mul, ok_fdiv, ok_mod, ok_int, ok_lt, ok_le, ok_gt, ok_ge, ok_eqI, ok_neI, ok_asB, ok_truB, asg_v, ok_setv, List.length_cons, List.length_nil, List.set_cons_succ, List.set_cons_zero, Nat.reduceAdd, Nat.reduceLT, true_and]
      have := q (some (.tup [.str "right", contV x])) (some (.bl false))
      unfold stp at this
      rw [if_neg (fun z => z.2.1 cB)] at this
      exact this
    · simp only [cB, decide_false, Bool.not_false, if_true, rv_cons, rv_nil, rv_pass, rv_asg, rv_ret, rv_expr, rv_aug, rv_ife, rv_fors, nxt_nx, nxt_rt, tur_nx, tur_rt, rtQ_rt, rtQ_nx, ev_non, ev_bl, ev_int, ev_str, ev_v, ev_bin, ev_cmp, ev_chain, ev_lst, ev_tup, ev_enil, ev_econs, ev_not, ev_neg, ev_ix, ev_rev, ev_sl, ev_ono, ev_call, ev_bi, ev_or1, ev_orS, ev_and1, ev_andS, ev_range, ev_val, getvS, getv0, ok_ret, ok_add, ok_sub, ok_mul, ok_fdiv, ok_mod, ok_int, ok_lt, ok_le, ok_gt, ok_ge, ok_eqI, ok_neI, ok_asB, ok_truB, asg_v, ok_setv, List.length_cons, List.length_nil, List.set_cons_succ, List.set_cons_zero, Nat.reduceAdd, Nat.reduceLT, true_and]
      cases o with
      | none =>
        simp only [bV, ok_isN, eq_self, decide_true, if_true, b4_1, rv_cons, rv_nil, rv_pass, rv_asg, rv_ret, rv_expr, rv_aug, rv_ife, rv_fors, nxt_nx, nxt_rt, tur_nx, tur_rt, rtQ_rt, rtQ_nx, ev_non, ev_bl, ev_int, ev_str, ev_v, ev_bin, ev_cmp, ev_chain, ev_lst, ev_tup, ev_enil, ev_econs, ev_not, ev_neg, ev_ix, ev_rev, ev_sl, ev_ono, ev_call, ev_bi, ev_or1, ev_orS, ev_and1, ev_andS, ev_range, ev_val, getvS, getv0, ok_ret, ok_add, ok_sub, ok_mul, ok_fdiv, ok_mod, ok_int, ok_lt, ok_le, ok_gt, ok_ge, ok_eqI, ok_neI, ok_asB, ok_truB, asg_v, ok_setv, List.length_cons, List.length_nil, List.set_cons_succ, List.set_cons_zero, Nat.reduceAdd, Nat.reduceLT, true_and]
        rw [ok_ixT (v := contV x) rfl]
        try simp only [rv_cons, rv_nil, rv_pass, rv_asg, rv_ret, rv_expr, rv_aug, rv_ife, rv_fors, nxt_nx, nxt_rt, tur_nx, tur_rt, rtQ_rt, rtQ_nx, ev_non, ev_bl, ev_int, ev_str, ev_v, ev_bin, ev_cmp, ev_chain, ev_lst, ev_tup, ev_enil, ev_econs, ev_not, ev_neg, ev_ix, ev_rev, ev_sl, ev_ono, ev_call, ev_bi, ev_or1, ev_orS, ev_and1, ev_andS, ev_range, ev_val, getvS, getv0, ok_ret, ok_add, ok_sub, ok_mul, ok_fdiv, ok_mod, ok_int, ok_lt, ok_le, ok_gt, ok_ge, ok_eqI, ok_neI, ok_asB, ok_truB, asg_v, ok_setv, List.length_cons, List.length_nil, List.set_cons_succ, List.set_cons_zero, Nat.reduceAdd, Nat.reduceLT, true_and]
        refine ⟨line_le (by decide), ?_⟩
        have := q (some (.tup [.str "right", contV x])) (some (.bl true))
        unfold stp at this
        rw [if_pos ⟨cR, cB, rfl⟩] at this
        exact this
      | some oz =>
        obtain ⟨z0, z⟩ := oz
        simp only [bV, ok_isN, reduceCtorEq, decide_false, Bool.false_eq_true, if_false, rv_cons, rv_nil, rv_pass, rv_asg, rv_ret, rv_expr, rv_aug, rv_ife, rv_fors, nxt_nx, nxt_rt, tur_nx, tur_rt, rtQ_rt, rtQ_nx, ev_non, ev_bl, ev_int, ev_str, ev_v, ev_bin, ev_cmp, ev_chain, ev_lst, ev_tup, ev_enil, ev_econs, ev_not, ev_neg, ev_ix, ev_rev, ev_sl, ev_ono, ev_call, ev_bi, ev_or1, ev_orS, ev_and1, ev_andS, ev_range, ev_val, getvS, getv0, ok_ret, ok_add, ok_sub, ok_mul, ok_fdiv, ok_mod, ok_int, ok_lt, ok_le, ok_gt, ok_ge, ok_eqI, ok_neI, ok_asB, ok_truB, asg_v, ok_setv, List.length_cons, List.length_nil, List.set_cons_succ, List.set_cons_zero, Nat.reduceAdd, Nat.reduceLT, true_and]
        rw [ok_ixB]
        try simp only [rv_cons, rv_nil, rv_pass, rv_asg, rv_ret, rv_expr, rv_aug, rv_ife, rv_fors, nxt_nx, nxt_rt, tur_nx, tur_rt, rtQ_rt, rtQ_nx, ev_non, ev_bl, ev_int, ev_str, ev_v, ev_bin, ev_cmp, ev_chain, ev_lst, ev_tup, ev_enil, ev_econs, ev_not, ev_neg, ev_ix, ev_rev, ev_sl, ev_ono, ev_call, ev_bi, ev_or1, ev_orS, ev_and1, ev_andS, ev_range, ev_val, getvS, getv0, ok_ret, ok_add, ok_sub, ok_mul, ok_fdiv, ok_mod, ok_int, ok_lt, ok_le, ok_gt, ok_ge, ok_eqI, ok_neI, ok_asB, ok_truB, asg_v, ok_setv, List.length_cons, List.length_nil, List.set_cons_succ, List.set_cons_zero, Nat.reduceAdd, Nat.reduceLT, true_and]
        rw [ok_ixC1]
        try simp only [rv_cons, rv_nil, rv_pass, rv_asg, rv_ret, rv_expr, rv_aug, rv_ife, rv_fors, nxt_nx, nxt_rt, tur_nx, tur_rt, rtQ_rt, rtQ_nx, ev_non, ev_bl, ev_int, ev_str, ev_v, ev_bin, ev_cmp, ev_chain, ev_lst, ev_tup, ev_enil, ev_econs, ev_not, ev_neg, ev_ix, ev_rev, ev_sl, ev_ono, ev_call, ev_bi, ev_or1, ev_orS, ev_and1, ev_andS, ev_range, ev_val, getvS, getv0, ok_ret, ok_add, ok_sub, ok_mul, ok_fdiv, ok_mod, ok_int, ok_lt, ok_le, ok_gt, ok_ge, ok_eqI, ok_neI, ok_asB, ok_truB, asg_v, ok_setv, List.length_cons, List.length_nil, List.set_cons_succ, List.set_cons_zero, Nat.reduceAdd, Nat.reduceLT, true_and]
        rw [ok_ixT (v := contV x) rfl]
        try simp only [rv_cons, rv_nil, rv_pass, rv_asg, rv_ret, rv_expr, rv_aug, rv_ife, rv_fors, nxt_nx, nxt_rt, tur_nx, tur_rt, rtQ_rt, rtQ_nx, ev_non, ev_bl, ev_int, ev_str, ev_v, ev_bin, ev_cmp, ev_chain, ev_lst, ev_tup, ev_enil, ev_econs, ev_not, ev_neg, ev_ix, ev_rev, ev_sl, ev_ono, ev_call, ev_bi, ev_or1, ev_orS, ev_and1, ev_andS, ev_range, ev_val, getvS, getv0, ok_ret, ok_add, ok_sub, ok_mul, ok_fdiv, ok_mod, ok_int, ok_lt, ok_le, ok_gt, ok_ge, ok_eqI, ok_neI, ok_asB, ok_truB, asg_v, ok_setv, List.length_cons, List.length_nil, List.set_cons_succ, List.set_cons_zero, Nat.reduceAdd, Nat.reduceLT, true_and]
        rw [ok_ixC1]
        try simp only [rv_cons, rv_nil, rv_pass, rv_asg, rv_ret, rv_expr, rv_aug, rv_ife, rv_fors, nxt_nx, nxt_rt, tur_nx, tur_rt, rtQ_rt, rtQ_nx, ev_non, ev_bl, ev_int, ev_str, ev_v, ev_bin, ev_cmp, ev_chain, ev_lst, ev_tup, ev_enil, ev_econs, ev_not, ev_neg, ev_ix, ev_rev, ev_sl, ev_ono, ev_call, ev_bi, ev_or1, ev_orS, ev_and1, ev_andS, ev_range, ev_val, getvS, getv0, ok_ret, ok_add, ok_sub, ok_mul, ok_fdiv, ok_mod, ok_int, ok_lt, ok_le, ok_gt, ok_ge, ok_eqI, ok_neI, ok_asB, ok_truB, asg_v, ok_setv, List.length_cons, List.length_nil, List.set_cons_succ, List.set_cons_zero, Nat.reduceAdd, Nat.reduceLT, true_and]
        by_cases cn : num z < num x
        · simp only [cn, decide_true, if_true, b4_1, rv_cons, rv_nil, rv_pass, rv_asg, rv_ret, rv_expr, rv_aug, rv_ife, rv_fors, nxt_nx, nxt_rt, tur_nx, tur_rt, rtQ_rt, rtQ_nx, ev_non, ev_bl, ev_int, ev_str, ev_v, ev_bin, ev_cmp, ev_chain, ev_lst, ev_tup, ev_enil, ev_econs, ev_not, ev_neg, ev_ix, ev_rev, ev_sl, ev_ono, ev_call, ev_bi, ev_or1, ev_orS, ev_and1, ev_andS, ev_range, ev_val, getvS, getv0, ok_ret, ok_add, ok_sub, ok_mul, ok_fdiv, ok_mod, ok_int, ok_lt, ok_le, ok_gt, ok_ge, ok_eqI, ok_neI, ok_asB, ok_truB, asg_v, ok_setv, List.length_cons, List.length_nil, List.set_cons_succ, List.set_cons_zero, Nat.reduceAdd, Nat.reduceLT, true_and]
          rw [ok_ixT (v := contV x) rfl]
          try simp only [rv_cons, rv_nil, rv_pass, rv_asg, rv_ret, rv_expr, rv_aug, rv_ife, rv_fors, nxt_nx, nxt_rt, tur_nx, tur_rt, rtQ_rt, rtQ_nx, ev_non, ev_bl, ev_int, ev_str, ev_v, ev_bin, ev_cmp, ev_chain, ev_lst, ev_tup, ev_enil, ev_econs, ev_not, ev_neg, ev_ix, ev_rev, ev_sl, ev_ono, ev_call, ev_bi, ev_or1, ev_orS, ev_and1, ev_andS, ev_range, ev_val, getvS, getv0, ok_ret, ok_add, ok_sub, ok_mul, ok_fdiv, ok_mod, ok_int, ok_lt, ok_le, ok_gt, ok_ge, ok_eqI, ok_neI, ok_asB, ok_truB, asg_v, ok_setv, List.length_cons, List.length_nil, List.set_cons_succ, List.set_cons_zero, Nat.reduceAdd, Nat.reduceLT, true_and]
          refine ⟨line_le (by decide), ?_⟩
          have := q (some (.tup [.str "right", contV x])) (some (.bl true))
          unfold stp at this
          rw [if_pos ⟨cR, cB, decide_eq_true cn⟩] at this
          exact this
        · simp only [cn, decide_false, Bool.false_eq_true, if_false, b4_2, rv_cons, rv_nil, rv_pass, rv_asg, rv_ret, rv_expr, rv_aug, rv_ife, rv_fors, nxt_nx, nxt_rt, tur_nx, tur_rt, rtQ_rt, rtQ_nx, ev_non, ev_bl, ev_int, ev_str, ev_v, ev_bin, ev_cmp, ev_chain, ev_lst, ev_tup, ev_enil, ev_econs, ev_not, ev_neg, ev_ix, ev_rev, ev_sl, ev_ono, ev_call, ev_bi, ev_or1, ev_orS, ev_and1, ev_andS, ev_range, ev_val, getvS, getv0, ok_ret, ok_add, ok_sub, ok_mul, ok_fdiv, ok_mod, ok_int, ok_lt, ok_le, ok_gt, ok_ge, ok_eqI, ok_neI, ok_asB, ok_truB, asg_v, ok_setv, List.length_cons, List.length_nil, List.set_cons_succ, List.set_cons_zero, Nat.reduceAdd, Nat.reduceLT, true_and]
          have := q (some (.tup [.str "right", contV x])) (some (.bl true))
          unfold stp at this
          rw [if_neg (fun w => cn (of_decide_eq_true w.2.2))] at this
          exact this
  · rcases rd_cases x with ⟨_, n, e⟩ | ⟨_, n, e⟩ | ⟨_, n, e⟩ | ⟨_, n, e⟩ | ⟨_, n, e⟩
    · have no' := no cR; rw [e] at no' ⊢
      rw [ok_ixT at0]
      simp only [ok_eqS, s1, Bool.false_eq_true, if_false, rv_cons, rv_nil, rv_pass, rv_asg, rv_ret, rv_expr, rv_aug, rv_ife, rv_fors, nxt_nx, nxt_rt, tur_nx, tur_rt, rtQ_rt, rtQ_nx, ev_non, ev_bl, ev_int, ev_str, ev_v, ev_bin, ev_cmp, ev_chain, ev_lst, ev_tup, ev_enil, ev_econs, ev_not, ev_neg, ev_ix, ev_rev, ev_sl, ev_ono, ev_call, ev_bi, ev_or1, ev_orS, ev_and1, ev_andS, ev_range, ev_val, getvS, getv0, ok_ret, ok_add, ok_sub, ok_mul, ok_fdiv, ok_mod, ok_int, ok_lt, ok_le, ok_gt, ok_ge, ok_eqI, ok_neI, ok_asB, ok_truB, asg_v, ok_setv, List.length_cons, List.length_nil, List.set_cons_succ, List.set_cons_zero, Nat.reduceAdd, Nat.reduceLT, true_and]
      exact no' _ rfl
    · have no' := no cR; rw [e] at no' ⊢
      rw [ok_ixT at0]
      simp only [ok_eqS, s2, Bool.false_eq_true, if_false, rv_cons, rv_nil, rv_pass, rv_asg, rv_ret, rv_expr, rv_aug, rv_ife, rv_fors, nxt_nx, nxt_rt, tur_nx, tur_rt, rtQ_rt, rtQ_nx, ev_non, ev_bl, ev_int, ev_str, ev_v, ev_bin, ev_cmp, ev_chain, ev_lst, ev_tup, ev_enil, ev_econs, ev_not, ev_neg, ev_ix, ev_rev, ev_sl, ev_ono, ev_call, ev_bi, ev_or1, ev_orS, ev_and1, ev_andS, ev_range, ev_val, getvS, getv0, ok_ret, ok_add, ok_sub, ok_mul, ok_fdiv, ok_mod, ok_int, ok_lt, ok_le, ok_gt, ok_ge, ok_eqI, ok_neI, ok_asB, ok_truB, asg_v, ok_setv, List.length_cons, List.length_nil, List.set_cons_succ, List.set_cons_zero, Nat.reduceAdd, Nat.reduceLT, true_and]
      exact no' _ rfl
    · have no' := no cR; rw [e] at no' ⊢
      rw [ok_ixT at0]
      simp only [ok_eqS, decide_true, if_true, rv_cons, rv_nil, rv_pass, rv_asg, rv_ret, rv_expr, rv_aug, rv_ife, rv_fors, nxt_nx, nxt_rt, tur_nx, tur_rt, rtQ_rt, rtQ_nx, ev_non, ev_bl, ev_int, ev_str, ev_v, ev_bin, ev_cmp, ev_chain, ev_lst, ev_tup, ev_enil, ev_econs, ev_not, ev_neg, ev_ix, ev_rev, ev_sl, ev_ono, ev_call, ev_bi, ev_or1, ev_orS, ev_and1, ev_andS, ev_range, ev_val, getvS, getv0, ok_ret, ok_add, ok_sub, ok_mul, ok_fdiv, ok_mod, ok_int, ok_lt, ok_le, ok_gt, ok_ge, ok_eqI, ok_neI, ok_asB, ok_truB, asg_v, ok_setv, List.length_cons, List.length_nil, List.set_cons_succ, List.set_cons_zero, Nat.reduceAdd, Nat.reduceLT, true_and]
      rw [ok_ixT (v := .tup [.str "mark", .int (x / 9 % 5)]) rfl]
      try simp only [rv_cons, rv_nil, rv_pass, rv_asg, rv_ret, rv_expr, rv_aug, rv_ife, rv_fors, nxt_nx, nxt_rt, tur_nx, tur_rt, rtQ_rt, rtQ_nx, ev_non, ev_bl, ev_int, ev_str, ev_v, ev_bin, ev_cmp, ev_chain, ev_lst, ev_tup, ev_enil, ev_econs, ev_not, ev_neg, ev_ix, ev_rev, ev_sl, ev_ono, ev_call, ev_bi, ev_or1, ev_orS, ev_and1, ev_andS, ev_range, ev_val, getvS, getv0, ok_ret, ok_add, ok_sub, ok_mul, ok_fdiv, ok_mod, ok_int, ok_lt, ok_le, ok_gt, ok_ge, ok_eqI, ok_neI, ok_asB, ok_truB, asg_v, ok_setv, List.length_cons, List.length_nil, List.set_cons_succ, List.set_cons_zero, Nat.reduceAdd, Nat.reduceLT, true_and]
      rw [ok_ixT at0]
      simp only [ok_eqS, s3, Bool.false_eq_true, if_false, rv_cons, rv_nil, rv_pass, rv_asg, rv_ret, rv_expr, rv_aug, rv_ife, rv_fors, nxt_nx, nxt_rt, tur_nx, tur_rt, rtQ_rt, rtQ_nx, ev_non, ev_bl, ev_int, ev_str, ev_v, ev_bin, ev_cmp, ev_chain, ev_lst, ev_tup, ev_enil, ev_econs, ev_not, ev_neg, ev_ix, ev_rev, ev_sl, ev_ono, ev_call, ev_bi, ev_or1, ev_orS, ev_and1, ev_andS, ev_range, ev_val, getvS, getv0, ok_ret, ok_add, ok_sub, ok_mul, ok_fdiv, ok_mod, ok_int, ok_lt, ok_le, ok_gt, ok_ge, ok_eqI, ok_neI, ok_asB, ok_truB, asg_v, ok_setv, List.length_cons, List.length_nil, List.set_cons_succ, List.set_cons_zero, Nat.reduceAdd, Nat.reduceLT, true_and]
      exact no' _ rfl
    · have no' := no cR; rw [e] at no' ⊢
      rw [ok_ixT at0]
      simp only [ok_eqS, decide_true, if_true, rv_cons, rv_nil, rv_pass, rv_asg, rv_ret, rv_expr, rv_aug, rv_ife, rv_fors, nxt_nx, nxt_rt, tur_nx, tur_rt, rtQ_rt, rtQ_nx, ev_non, ev_bl, ev_int, ev_str, ev_v, ev_bin, ev_cmp, ev_chain, ev_lst, ev_tup, ev_enil, ev_econs, ev_not, ev_neg, ev_ix, ev_rev, ev_sl, ev_ono, ev_call, ev_bi, ev_or1, ev_orS, ev_and1, ev_andS, ev_range, ev_val, getvS, getv0, ok_ret, ok_add, ok_sub, ok_mul, ok_fdiv, ok_mod, ok_int, ok_lt, ok_le, ok_gt, ok_ge, ok_eqI, ok_neI, ok_asB, ok_truB, asg_v, ok_setv, List.length_cons, List.length_nil, List.set_cons_succ, List.set_cons_zero, Nat.reduceAdd, Nat.reduceLT, true_and]
      rw [ok_ixT (v := .tup [.str "item", .int 1, .int 1, .bl true, .int 1, .non]) rfl]
      try simp only [rv_cons, rv_nil, rv_pass, rv_asg, rv_ret, rv_expr, rv_aug, rv_ife, rv_fors, nxt_nx, nxt_rt, tur_nx, tur_rt, rtQ_rt, rtQ_nx, ev_non, ev_bl, ev_int, ev_str, ev_v, ev_bin, ev_cmp, ev_chain, ev_lst, ev_tup, ev_enil, ev_econs, ev_not, ev_neg, ev_ix, ev_rev, ev_sl, ev_ono, ev_call, ev_bi, ev_or1, ev_orS, ev_and1, ev_andS, ev_range, ev_val, getvS, getv0, ok_ret, ok_add, ok_sub, ok_mul, ok_fdiv, ok_mod, ok_int, ok_lt, ok_le, ok_gt, ok_ge, ok_eqI, ok_neI, ok_asB, ok_truB, asg_v, ok_setv, List.length_cons, List.length_nil, List.set_cons_succ, List.set_cons_zero, Nat.reduceAdd, Nat.reduceLT, true_and]
      rw [ok_ixT at0]
      simp only [ok_eqS, s4, Bool.false_eq_true, if_false, rv_cons, rv_nil, rv_pass, rv_asg, rv_ret, rv_expr, rv_aug, rv_ife, rv_fors, nxt_nx, nxt_rt, tur_nx, tur_rt, rtQ_rt, rtQ_nx, ev_non, ev_bl, ev_int, ev_str, ev_v, ev_bin, ev_cmp, ev_chain, ev_lst, ev_tup, ev_enil, ev_econs, ev_not, ev_neg, ev_ix, ev_rev, ev_sl, ev_ono, ev_call, ev_bi, ev_or1, ev_orS, ev_and1, ev_andS, ev_range, ev_val, getvS, getv0, ok_ret, ok_add, ok_sub, ok_mul, ok_fdiv, ok_mod, ok_int, ok_lt, ok_le, ok_gt, ok_ge, ok_eqI, ok_neI, ok_asB, ok_truB, asg_v, ok_setv, List.length_cons, List.length_nil, List.set_cons_succ, List.set_cons_zero, Nat.reduceAdd, Nat.reduceLT, true_and]
      exact no' _ rfl
    · exact absurd n cR
theorem dat_bV {o : Option (Int × Int)} : ∃ e, Dat ro h 20 (bV o) e ∧ PyData.eqv e e = true := by
  cases o with
  | none => exact ⟨.none, rfl, rfl⟩
  | some z =>
    obtain ⟨b, x⟩ := z
    refine ⟨.tuple [.int b, .tuple [.str "root", .int (x / 9 % 5), .int (x / 45 % 3), .none, .tuple [.int 0, .int 1], .tuple [.int 1, .int 2], .tuple [.int 1, .int 1], .tuple []]], rfl, ?_⟩
    simp [PyData.eqv, PyData.eqvAll]
def yy (xs : List Int) (b k : Nat) : Int := xs.getD (7 * b + k) 0
theorem row_eq {xs : List Int} {b : Nat} : ((rng 0 p).map fun v => match v with | .int k => rdV (xs.getD (7 * b + k.toNat) 0) | v => v) = (List.range p).map fun k => rdV (yy xs b k) := by
  rw [rng, List.map_map]
  refine List.map_congr_left fun k _ => ?_
  show rdV (xs.getD (7 * b + (0 + (k : Int)).toNat) 0) = rdV (yy xs b k)
  rw [show (0 + (k : Int)).toNat = k by omega]
  rfl
theorem row_ok {c0 c3 c4 c6 c7 c8 : Option Val} {r b : Nat} {xs : List Int} (hob : h.ob r = .lst (xs.map Val.int)) (hlen : xs.length = 22) (hb : b < 3) (hp : p = 6 ∨ p = 7) (hq : Q (.ref h.sz) (h.new (.lst ((List.range p).map fun k => rdV (yy xs b k))))) :
    Ok (evE (T ns) (callD (T ns) (d + 1)) (.comp [6] (.call 3 (.cons (.ix (.v 1) (.bin .add (.bin .mul (.int 7) (.v 5)) (.v 6))) .nil)) (.v 6) (.range (.cons (.v 2) .nil)) (.none)) [c0, some (.ref r), some (.int p), c3, c4, some (.int b), c6, c7, c8] h) Q X := by
  rw [ev_comp]
  simp only [rv_cons, rv_nil, rv_pass, rv_asg, rv_ret, rv_expr, rv_aug, rv_ife, rv_fors, nxt_nx, nxt_rt, tur_nx, tur_rt, rtQ_rt, rtQ_nx, ev_non, ev_bl, ev_int, ev_str, ev_v, ev_bin, ev_cmp, ev_chain, ev_lst, ev_tup, ev_enil, ev_econs, ev_not, ev_neg, ev_ix, ev_rev, ev_sl, ev_ono, ev_call, ev_bi, ev_or1, ev_orS, ev_and1, ev_andS, ev_range, ev_val, getvS, getv0, ok_ret, ok_add, ok_sub, ok_mul, ok_fdiv, ok_mod, ok_int, ok_lt, ok_le, ok_gt, ok_ge, ok_eqI, ok_neI, ok_asB, ok_truB, asg_v, ok_setv, List.length_cons, List.length_nil, List.set_cons_succ, List.set_cons_zero, Nat.reduceAdd, Nat.reduceLT, true_and]
  rw [ok_range1 (inR_mk (by omega) (by omega))]
  refine ⟨by show (rng 0 (Int.toNat (p : Int))).length ≤ sizeLine; rw [rng_len]; exact line_le (by omega), ?_⟩
  refine ok_comp2 (fun v => match v with | .int k => rdV (xs.getD (7 * b + k.toNat) 0) | v => v) rfl ?_ ?_
  · intro v hv
    obtain ⟨i, hi⟩ := List.getElem?_of_mem hv
    obtain ⟨rfl, hin⟩ := rng_at hi
    have hin : i < p := by simpa using hin
    rw [ctur_none]
    simp only [wipe_cons, wipe_nil, rv_cons, rv_nil, rv_pass, rv_asg, rv_ret, rv_expr, rv_aug, rv_ife, rv_fors, nxt_nx, nxt_rt, tur_nx, tur_rt, rtQ_rt, rtQ_nx, ev_non, ev_bl, ev_int, ev_str, ev_v, ev_bin, ev_cmp, ev_chain, ev_lst, ev_tup, ev_enil, ev_econs, ev_not, ev_neg, ev_ix, ev_rev, ev_sl, ev_ono, ev_call, ev_bi, ev_or1, ev_orS, ev_and1, ev_andS, ev_range, ev_val, getvS, getv0, ok_ret, ok_add, ok_sub, ok_mul, ok_fdiv, ok_mod, ok_int, ok_lt, ok_le, ok_gt, ok_ge, ok_eqI, ok_neI, ok_asB, ok_truB, asg_v, ok_setv, List.length_cons, List.length_nil, List.set_cons_succ, List.set_cons_zero, Nat.reduceAdd, Nat.reduceLT, true_and]
    refine ⟨mulOk_l (by decide) (by decide), ?_⟩
    have hj : 7 * b + i < xs.length := by omega
    have e : 7 * (b : Int) + (0 + (i : Int)) = ((7 * b + i : Nat) : Int) := by omega
    rw [ok_ixL hob (v := .int (xs.getD (7 * b + i) 0)) (by rw [e, atI_of (j := 7 * b + i) rfl (by rw [List.length_map]; exact hj), List.getElem_map, List.getD_eq_getElem?_getD, List.getElem?_eq_getElem hj]; rfl)]
    try simp only [rv_cons, rv_nil, rv_pass, rv_asg, rv_ret, rv_expr, rv_aug, rv_ife, rv_fors, nxt_nx, nxt_rt, tur_nx, tur_rt, rtQ_rt, rtQ_nx, ev_non, ev_bl, ev_int, ev_str, ev_v, ev_bin, ev_cmp, ev_chain, ev_lst, ev_tup, ev_enil, ev_econs, ev_not, ev_neg, ev_ix, ev_rev, ev_sl, ev_ono, ev_call, ev_bi, ev_or1, ev_orS, ev_and1, ev_andS, ev_range, ev_val, getvS, getv0, ok_ret, ok_add, ok_sub, ok_mul, ok_fdiv, ok_mod, ok_int, ok_lt, ok_le, ok_gt, ok_ge, ok_eqI, ok_neI, ok_asB, ok_truB, asg_v, ok_setv, List.length_cons, List.length_nil, List.set_cons_succ, List.set_cons_zero, Nat.reduceAdd, Nat.reduceLT, true_and]
    refine rd_ok ⟨?_, rfl⟩
    show some (rdV _) = some (rdV (xs.getD (7 * b + (0 + (i : Int)).toNat) 0))
    rw [show (0 + (i : Int)).toNat = i by omega]
  · show Q (.ref h.sz) (h.new (.lst ((rng 0 (Int.toNat (p : Int))).map fun v => match v with | .int k => rdV (xs.getD (7 * b + k.toNat) 0) | v => v)))
    rw [Int.toNat_natCast, row_eq]
    exact hq
theorem scan_ok {c0 c3 c4 c5 c6 c7 c8 : Option Val} {r : Nat} {xs : List Int} (hob : h.ob r = .lst (xs.map Val.int)) (hlen : xs.length = 22) (hr : r < h.sz) (hp : p = 6 ∨ p = 7) (hq : ∀ h' s R, Keep h h' → s < h'.sz → Sc h' s R (yy xs) p → Q (.ref s) h') :
    Ok (evE (T ns) (callD (T ns) (d + 1)) (.comp [5] (.comp [6] (.call 3 (.cons (.ix (.v 1) (.bin .add (.bin .mul (.int 7) (.v 5)) (.v 6))) .nil)) (.v 6) (.range (.cons (.v 2) .nil)) (.none)) (.v 5) (.range (.cons (.int 3) .nil)) (.none)) [c0, some (.ref r), some (.int p), c3, c4, c5, c6, c7, c8] h) Q X := by
  rw [ev_comp]
  simp only [ev_range, ev_econs, ev_enil, ev_int]
  rw [ok_range1 (inR_mk (by decide) (by decide))]
  refine ⟨line_le (by decide), ?_⟩
  refine ok_comp (s := ⟨none, rng 0 (Int.toNat 3)⟩) (fun i acc h' => ∃ R : Nat → Nat, acc = (List.range i).map (fun b => Val.ref (R b)) ∧ (∀ b, b < i → R b < h'.sz ∧ h'.ob (R b) = .lst ((List.range p).map fun k => rdV (yy xs b k))) ∧ Keep h h') (fun _ _ _ _ => rfl) ?_ 3 0 [] h _ rfl (Nat.zero_le _) ⟨fun _ => 0, rfl, fun b hb => absurd hb (Nat.not_lt_zero b), Keep.refl⟩ ?_
  · rintro i v acc h1 hi ⟨R, rfl, hR, kp⟩
    obtain ⟨rfl, hin⟩ := rng_at hi
    have hin : i < 3 := hin
    rw [ctur_none]
    simp only [wipe_cons, wipe_nil, asg_v, ok_setv, List.length_cons, List.length_nil, List.set_cons_succ, List.set_cons_zero, Nat.reduceAdd, Nat.reduceLT, true_and, Int.zero_add]
    refine row_ok ((kp.ob r hr).trans hob) hlen hin hp ?_
    refine ⟨fun b => if b = i then h1.sz else R b, ?_, fun b hb => ?_, kp.trans Keep.new⟩
    · rw [List.range_succ, List.map_append]
      congr 1
      · refine List.map_congr_left fun b hb => ?_
        show Val.ref (R b) = Val.ref (if b = i then h1.sz else R b)
        rw [if_neg (Nat.ne_of_lt (List.mem_range.mp hb))]
      · show [Val.ref h1.sz] = [Val.ref (if i = i then h1.sz else R i)]
        rw [if_pos rfl]
    · dsimp only
      by_cases e : b = i
      · subst e
        rw [if_pos rfl]
        exact ⟨Nat.lt_succ_self _, new_at⟩
      · rw [if_neg e]
        obtain ⟨z1, z2⟩ := hR b (by omega)
        exact ⟨Nat.lt_succ_of_lt z1, by rw [new_lo z1]; exact z2⟩
  · rintro l h1 ⟨R, e, hR, kp⟩
    have e : l = [.ref (R 0), .ref (R 1), .ref (R 2)] := e
    subst e
    exact hq _ h1.sz R (kp.trans Keep.new) (Nat.lt_succ_self _) ⟨new_at, fun b hb => by
      obtain ⟨z1, z2⟩ := hR b hb
      rw [new_lo z1]; exact z2, hp⟩
end
theorem run_ok : ∀ ns : List Int, ns.length ≤ 63 → ∃ h', callD (T ns) DD 4 [.cst 0] h0 = .ok (.bl true) h' := by
  intro ns hl
  refine run_of ?_
  show Ok (callD (T ns) (2 + 1) 4 [.cst 0] h0) _ _
  refine ok_call (np := 1) (ns := 9) (B := body4) (ρ := [some (.cst 0), none, none, none, none, none, none, none, none]) rfl rfl (by decide) rfl ?_
  simp only [body4, rv_cons, rv_nil, rv_pass, rv_asg, rv_ret, rv_expr, rv_aug, rv_ife, rv_fors, nxt_nx, nxt_rt, tur_nx, tur_rt, rtQ_rt, rtQ_nx, ev_non, ev_bl, ev_int, ev_str, ev_v, ev_bin, ev_cmp, ev_chain, ev_lst, ev_tup, ev_enil, ev_econs, ev_not, ev_neg, ev_ix, ev_rev, ev_sl, ev_ono, ev_call, ev_bi, ev_or1, ev_orS, ev_and1, ev_andS, ev_range, ev_val, getvS, getv0, ok_ret, ok_add, ok_sub, ok_mul, ok_fdiv, ok_mod, ok_int, ok_lt, ok_le, ok_gt, ok_ge, ok_eqI, ok_neI, ok_asB, ok_truB, asg_v, ok_setv, List.length_cons, List.length_nil, List.set_cons_succ, List.set_cons_zero, Nat.reduceAdd, Nat.reduceLT, true_and]
  refine draws_ok (n := 22) (ns := ns) rfl rfl (by decide) fun xs h1 hlen hnn kp hsz hob => ?_
  obtain ⟨p, hp, hp6⟩ : ∃ p : Nat, 6 + xs.getD 21 0 % 2 = (p : Int) ∧ (p = 6 ∨ p = 7) := ⟨(6 + xs.getD 21 0 % 2).toNat, by omega, by omega⟩
  rw [ok_ixL hob (v := .int (xs.getD 21 0)) (by rw [atI_of (i := 21) (j := 21) rfl (by rw [List.length_map]; omega), List.getElem_map, List.getD_eq_getElem?_getD, List.getElem?_eq_getElem (by omega)]; rfl)]
  try simp only [rv_cons, rv_nil, rv_pass, rv_asg, rv_ret, rv_expr, rv_aug, rv_ife, rv_fors, nxt_nx, nxt_rt, tur_nx, tur_rt, rtQ_rt, rtQ_nx, ev_non, ev_bl, ev_int, ev_str, ev_v, ev_bin, ev_cmp, ev_chain, ev_lst, ev_tup, ev_enil, ev_econs, ev_not, ev_neg, ev_ix, ev_rev, ev_sl, ev_ono, ev_call, ev_bi, ev_or1, ev_orS, ev_and1, ev_andS, ev_range, ev_val, getvS, getv0, ok_ret, ok_add, ok_sub, ok_mul, ok_fdiv, ok_mod, ok_int, ok_lt, ok_le, ok_gt, ok_ge, ok_eqI, ok_neI, ok_asB, ok_truB, asg_v, ok_setv, List.length_cons, List.length_nil, List.set_cons_succ, List.set_cons_zero, Nat.reduceAdd, Nat.reduceLT, true_and]
  refine ⟨by decide, ?_⟩
  rw [hp]
  refine scan_ok hob hlen hsz hp6 fun h2 s R k2 hs c => ?_
  try simp only [rv_cons, rv_nil, rv_pass, rv_asg, rv_ret, rv_expr, rv_aug, rv_ife, rv_fors, nxt_nx, nxt_rt, tur_nx, tur_rt, rtQ_rt, rtQ_nx, ev_non, ev_bl, ev_int, ev_str, ev_v, ev_bin, ev_cmp, ev_chain, ev_lst, ev_tup, ev_enil, ev_econs, ev_not, ev_neg, ev_ix, ev_rev, ev_sl, ev_ono, ev_call, ev_bi, ev_or1, ev_orS, ev_and1, ev_andS, ev_range, ev_val, getvS, getv0, ok_ret, ok_add, ok_sub, ok_mul, ok_fdiv, ok_mod, ok_int, ok_lt, ok_le, ok_gt, ok_ge, ok_eqI, ok_neI, ok_asB, ok_truB, asg_v, ok_setv, List.length_cons, List.length_nil, List.set_cons_succ, List.set_cons_zero, Nat.reduceAdd, Nat.reduceLT, true_and]
  rw [ok_range1 (inR_mk (by decide) (by decide))]
  refine rv_for (fun b ρ h' => ∃ c5 c6 c7 c8 : Option Val, ρ = [some (.cst 0), some (.ref h0.sz), some (.int p), some (.ref s), some (bV (out (yy xs) b)), c5, c6, c7, c8] ∧ h' = h2) ⟨none, none, none, none, rfl, rfl⟩ (fun _ _ _ _ => rfl) ?_ ?_
  · rintro b v ρ h3 hi ⟨c5, c6, c7, c8, rfl, rfl⟩
    obtain ⟨rfl, hb⟩ := rng_at hi
    have hb : b < 3 := hb
    rw [rv_wth, ok_nx]
    simp only [b4_4, Int.zero_add, rv_cons, rv_nil, rv_pass, rv_asg, rv_ret, rv_expr, rv_aug, rv_ife, rv_fors, nxt_nx, nxt_rt, tur_nx, tur_rt, rtQ_rt, rtQ_nx, ev_non, ev_bl, ev_int, ev_str, ev_v, ev_bin, ev_cmp, ev_chain, ev_lst, ev_tup, ev_enil, ev_econs, ev_not, ev_neg, ev_ix, ev_rev, ev_sl, ev_ono, ev_call, ev_bi, ev_or1, ev_orS, ev_and1, ev_andS, ev_range, ev_val, getvS, getv0, ok_ret, ok_add, ok_sub, ok_mul, ok_fdiv, ok_mod, ok_int, ok_lt, ok_le, ok_gt, ok_ge, ok_eqI, ok_neI, ok_asB, ok_truB, asg_v, ok_setv, List.length_cons, List.length_nil, List.set_cons_succ, List.set_cons_zero, Nat.reduceAdd, Nat.reduceLT, true_and]
    rw [ok_rg2 (p := (p : Int) - 1) (by omega)]
    refine rv_for (fun i ρ h' => ∃ c6 c7 c8 : Option Val, ρ = [some (.cst 0), some (.ref h0.sz), some (.int p), some (.ref s), some (bV (inn (yy xs) b (out (yy xs) b) i)), some (.int b), c6, c7, c8] ∧ h' = h3) ⟨c6, c7, c8, rfl, rfl⟩ (fun _ _ _ _ => rfl) ?_ ?_
    · rintro i v ρ h4 hi ⟨c6, c7, c8, rfl, rfl⟩
      obtain ⟨rfl, hi3⟩ := rgC_at hi
      rw [rv_wth, ok_nx]
      simp only [rv_cons, rv_nil, rv_pass, rv_asg, rv_ret, rv_expr, rv_aug, rv_ife, rv_fors, nxt_nx, nxt_rt, tur_nx, tur_rt, rtQ_rt, rtQ_nx, ev_non, ev_bl, ev_int, ev_str, ev_v, ev_bin, ev_cmp, ev_chain, ev_lst, ev_tup, ev_enil, ev_econs, ev_not, ev_neg, ev_ix, ev_rev, ev_sl, ev_ono, ev_call, ev_bi, ev_or1, ev_orS, ev_and1, ev_andS, ev_range, ev_val, getvS, getv0, ok_ret, ok_add, ok_sub, ok_mul, ok_fdiv, ok_mod, ok_int, ok_lt, ok_le, ok_gt, ok_ge, ok_eqI, ok_neI, ok_asB, ok_truB, asg_v, ok_setv, List.length_cons, List.length_nil, List.set_cons_succ, List.set_cons_zero, Nat.reduceAdd, Nat.reduceLT, true_and]
      refine turn2 hb hi3 c fun c7 c8 => ?_
      first | exact ⟨_, _, _, rfl, trivial⟩ | exact ⟨_, _, _, rfl, rfl⟩
    · rintro ρ h4 ⟨c6, c7, c8, rfl, rfl⟩
      simp only [rv_cons, rv_nil, rv_pass, rv_asg, rv_ret, rv_expr, rv_aug, rv_ife, rv_fors, nxt_nx, nxt_rt, tur_nx, tur_rt, rtQ_rt, rtQ_nx, ev_non, ev_bl, ev_int, ev_str, ev_v, ev_bin, ev_cmp, ev_chain, ev_lst, ev_tup, ev_enil, ev_econs, ev_not, ev_neg, ev_ix, ev_rev, ev_sl, ev_ono, ev_call, ev_bi, ev_or1, ev_orS, ev_and1, ev_andS, ev_range, ev_val, getvS, getv0, ok_ret, ok_add, ok_sub, ok_mul, ok_fdiv, ok_mod, ok_int, ok_lt, ok_le, ok_gt, ok_ge, ok_eqI, ok_neI, ok_asB, ok_truB, asg_v, ok_setv, List.length_cons, List.length_nil, List.set_cons_succ, List.set_cons_zero, Nat.reduceAdd, Nat.reduceLT, true_and]
      first | exact ⟨_, _, _, _, rfl, trivial⟩ | exact ⟨_, _, _, _, rfl, rfl⟩
  · rintro ρ h3 ⟨c5, c6, c7, c8, rfl, rfl⟩
    simp only [b4_0, rv_cons, rv_nil, rv_pass, rv_asg, rv_ret, rv_expr, rv_aug, rv_ife, rv_fors, nxt_nx, nxt_rt, tur_nx, tur_rt, rtQ_rt, rtQ_nx, ev_non, ev_bl, ev_int, ev_str, ev_v, ev_bin, ev_cmp, ev_chain, ev_lst, ev_tup, ev_enil, ev_econs, ev_not, ev_neg, ev_ix, ev_rev, ev_sl, ev_ono, ev_call, ev_bi, ev_or1, ev_orS, ev_and1, ev_andS, ev_range, ev_val, getvS, getv0, ok_ret, ok_add, ok_sub, ok_mul, ok_fdiv, ok_mod, ok_int, ok_lt, ok_le, ok_gt, ok_ge, ok_eqI, ok_neI, ok_asB, ok_truB, asg_v, ok_setv, List.length_cons, List.length_nil, List.set_cons_succ, List.set_cons_zero, Nat.reduceAdd, Nat.reduceLT, true_and]
    refine stand_ok (d := 0) c ?_
    try simp only [rv_cons, rv_nil, rv_pass, rv_asg, rv_ret, rv_expr, rv_aug, rv_ife, rv_fors, nxt_nx, nxt_rt, tur_nx, tur_rt, rtQ_rt, rtQ_nx, ev_non, ev_bl, ev_int, ev_str, ev_v, ev_bin, ev_cmp, ev_chain, ev_lst, ev_tup, ev_enil, ev_econs, ev_not, ev_neg, ev_ix, ev_rev, ev_sl, ev_ono, ev_call, ev_bi, ev_or1, ev_orS, ev_and1, ev_andS, ev_range, ev_val, getvS, getv0, ok_ret, ok_add, ok_sub, ok_mul, ok_fdiv, ok_mod, ok_int, ok_lt, ok_le, ok_gt, ok_ge, ok_eqI, ok_neI, ok_asB, ok_truB, asg_v, ok_setv, List.length_cons, List.length_nil, List.set_cons_succ, List.set_cons_zero, Nat.reduceAdd, Nat.reduceLT, true_and]
    obtain ⟨e, he, hv⟩ := @dat_bV h3 (T ns).ro (out (yy xs) 3)
    have he2 : Dat (T ns).ro h3 20 (bV (out (yy xs) (rng 0 (Int.toNat 3)).length)) e := he
    rw [ok_eq2 he he2, hv]

section
theorem all_mk {l : PySem.W.OpenLaw} {w : World} {K : PySem.W.Frag} {h : Heap} {mg : Str → Option Value} {fa f0 f1 f2 f3 f4 : Addr} (X : K.In h) (G : h.Ns mainGlobals mg) (hfa : mg "law" = some (.ref fa))
    {od0 an0 od1 an1 od2 an2 od3 an3 od4 an4 : Option Addr} {sl0 sl1 sl2 sl3 sl4 : Array (Option Value)} {oc0 kV0 dc0 pm0 cd0 ct0 oc1 kV1 dc1 pm1 cd1 ct1 oc2 kV2 dc2 pm2 cd2 ct2 oc3 kV3 dc3 pm3 cd3 ct3 oc4 kV4 dc4 pm4 cd4 ct4 : Value}
    (a0 : PySem.W.nsIn K mainGlobals "is_root" = some (some (.ref f0)))
    (l0 : K.lookup f0 = some ⟨oc0, od0, .func (PySem.W.fnOf "is_root" "is_root" (defArgs st0) (defBody st0) (defScope st0) .none kV0 dc0 pm0 an0 cd0 ct0), sl0⟩)
    (c0 : PySem.W.codeIn K cd0 "is_root" = true)
    (k0 : PySem.W.keepIn K (.ref f0) = true)
    (a1 : PySem.W.nsIn K mainGlobals "standing_root" = some (some (.ref f1)))
    (l1 : K.lookup f1 = some ⟨oc1, od1, .func (PySem.W.fnOf "standing_root" "standing_root" (defArgs st1) (defBody st1) (defScope st1) .none kV1 dc1 pm1 an1 cd1 ct1), sl1⟩)
    (c1 : PySem.W.codeIn K cd1 "standing_root" = true)
    (k1 : PySem.W.keepIn K (.ref f1) = true)
    (a2 : PySem.W.nsIn K mainGlobals "_law_draws" = some (some (.ref f2)))
    (l2 : K.lookup f2 = some ⟨oc2, od2, .func (PySem.W.fnOf "_law_draws" "_law_draws" (defArgs st2) (defBody st2) (defScope st2) .none kV2 dc2 pm2 an2 cd2 ct2), sl2⟩)
    (c2 : PySem.W.codeIn K cd2 "_law_draws" = true)
    (k2 : PySem.W.keepIn K (.ref f2) = true)
    (a3 : PySem.W.nsIn K mainGlobals "_law_reading" = some (some (.ref f3)))
    (l3 : K.lookup f3 = some ⟨oc3, od3, .func (PySem.W.fnOf "_law_reading" "_law_reading" (defArgs st3) (defBody st3) (defScope st3) .none kV3 dc3 pm3 an3 cd3 ct3), sl3⟩)
    (c3 : PySem.W.codeIn K cd3 "_law_reading" = true)
    (k3 : PySem.W.keepIn K (.ref f3) = true)
    (a4 : PySem.W.nsIn K mainGlobals "law" = some (some (.ref f4)))
    (l4 : K.lookup f4 = some ⟨oc4, od4, .func (PySem.W.fnOf "law" "law" (defArgs st4) (defBody st4) (defScope st4) .none kV4 dc4 pm4 an4 cd4 ct4), sl4⟩)
    (c4 : PySem.W.codeIn K cd4 "law" = true)
    (k4 : PySem.W.keepIn K (.ref f4) = true)
    (z_int : PySem.W.nsIn K mainGlobals "int" = some none)
    (z_len : PySem.W.nsIn K mainGlobals "len" = some none)
    (z_range : PySem.W.nsIn K mainGlobals "range" = some none)
    : ∃ fd : FuncData, (∀ (s : Shared) (v : Value), BindsTo s fd ⟨[v], []⟩ [("_law_script", v)]) ∧ ∀ base : Heap, K.In base → base.Ns mainGlobals mg → FnOk l.prog w K mg base (L2.CX l.prog w) (2 * DD + 1) fa fd ["_law_script"] (spLaw K) := by
  have e := hfa.symm.trans (PySem.W.mg_of X G a4)
  have e2 : f4 = fa := by cases e; rfl
  subst e2
  have F0 := fun_mk (st := st0) l0 c0 k0
  have F1 := fun_mk (st := st1) l1 c1 k1
  have F2 := fun_mk (st := st2) l2 c2 k2
  have F3 := fun_mk (st := st3) l3 c3 k3
  have F4 := fun_mk (st := st4) l4 c4 k4
  have b0 := F0.binds (ps := ["reading"]) fun _ _ _ _ _ _ us hl => match us, hl with | [_], _ => rfl
  have b1 := F1.binds (ps := ["scan"]) fun _ _ _ _ _ _ us hl => match us, hl with | [_], _ => rfl
  have b2 := F2.binds (ps := ["_law_script", "_law_count"]) fun _ _ _ _ _ _ us hl => match us, hl with | [_, _], _ => rfl
  have b3 := F3.binds (ps := ["_law_draw"]) fun _ _ _ _ _ _ us hl => match us, hl with | [_], _ => rfl
  have b4 := F4.binds (ps := ["_law_script"]) fun _ _ _ _ _ _ us hl => match us, hl with | [_], _ => rfl
  let A : Fa := ⟨fun f => match f with | 0 => f0 | 1 => f1 | 2 => f2 | 3 => f3 | 4 => f4 | _ => 0, fun f => match f with | 0 => PySem.W.fnOf "is_root" "is_root" (defArgs st0) (defBody st0) (defScope st0) .none kV0 dc0 pm0 an0 cd0 ct0 | 1 => PySem.W.fnOf "standing_root" "standing_root" (defArgs st1) (defBody st1) (defScope st1) .none kV1 dc1 pm1 an1 cd1 ct1 | 2 => PySem.W.fnOf "_law_draws" "_law_draws" (defArgs st2) (defBody st2) (defScope st2) .none kV2 dc2 pm2 an2 cd2 ct2 | 3 => PySem.W.fnOf "_law_reading" "_law_reading" (defArgs st3) (defBody st3) (defScope st3) .none kV3 dc3 pm3 an3 cd3 ct3 | 4 => PySem.W.fnOf "law" "law" (defArgs st4) (defBody st4) (defScope st4) .none kV4 dc4 pm4 an4 cd4 ct4 | _ => PySem.W.fnOf "is_root" "is_root" (defArgs st0) (defBody st0) (defScope st0) .none kV0 dc0 pm0 an0 cd0 ct0, fun f => match f with | 0 => ["reading"] | 1 => ["scan"] | 2 => ["_law_script", "_law_count"] | 3 => ["_law_draw"] | 4 => ["_law_script"] | _ => []⟩
  let LL : Addr → Ln := fun a => ⟨K, fun _ => 0, C.fN, fun c => match c with | 0 => a  | _ => 0, nmF_inj (l := fnl) (by decide +kernel) (by decide +kernel)⟩
  refine ⟨PySem.W.fnOf "law" "law" (defArgs st4) (defBody st4) (defScope st4) .none kV4 dc4 pm4 an4 cd4 ct4, fun s v => .of_eq rfl, fun base _ _ => ?_⟩
  have B : ∀ ns a, Lk (T ns) C (LL a) A l.prog w mg base 0 := fun ns a => by
    refine ⟨rfl, fun f F hf => ok0, fun f F hf => ?_, fun f F hf => ?_, fun f hf => ?_, fun c m f hf => ?_, fun c f hf => ?_, fun c hc => ?_, fun g v hg => ?_, fun x hx => ?_, fun a b k h => ?_, fun c hc => ?_⟩
    · match f, hf with
      | 0, h => exact b0
      | 1, h => exact b1
      | 2, h => exact b2
      | 3, h => exact b3
      | 4, h => exact b4
      | n + 5, h => exact absurd h (by intro z; cases z)
    · match f, hf with
      | 0, h => exact k0
      | 1, h => exact k1
      | 2, h => exact k2
      | 3, h => exact k3
      | 4, h => exact k4
      | n + 5, h => exact absurd h (by intro z; cases z)
    · match f, hf with
      | 0, h => exact ⟨D0.F, rfl, PySem.W.mg_of X G a0⟩
      | 1, h => exact ⟨D1.F, rfl, PySem.W.mg_of X G a1⟩
      | 2, h => exact ⟨D2.F, rfl, PySem.W.mg_of X G a2⟩
      | 3, h => exact ⟨D3.F, rfl, PySem.W.mg_of X G a3⟩
      | 4, h => exact ⟨D4.F, rfl, PySem.W.mg_of X G a4⟩
      | n + 5, h => exact absurd h (by simp [C])
    · exact absurd hf (by intro z; cases z)
    · exact absurd hf (by intro z; cases z)
    · exact absurd hc (by simp [C])
    · match g, hg with
      | n + 0, h => exact absurd h (by intro z; cases z)
    · simp only [C, List.mem_cons, List.not_mem_nil, or_false] at hx
      rcases hx with rfl | rfl | rfl
      · exact PySem.W.mg_none_of X G z_int
      · exact PySem.W.mg_none_of X G z_len
      · exact PySem.W.mg_none_of X G z_range
    · exact absurd h (by intro z; cases z)
    · exact absurd hc (by intro z; cases z)
  have hF : ∀ f D, Ds f = some D → ∃ x qual, Fun K x qual D.st (A.fA f) (A.fd f) := fun f D h => by
    match f, h with
      | 0, h => cases h; exact ⟨_, _, F0⟩
      | 1, h => cases h; exact ⟨_, _, F1⟩
      | 2, h => cases h; exact ⟨_, _, F2⟩
      | 3, h => cases h; exact ⟨_, _, F3⟩
      | 4, h => cases h; exact ⟨_, _, F4⟩
      | n + 5, h => exact absurd h (by intro z; cases z)
  have hP : ∀ f D, Ds f = some D → A.ps f = D.ps := fun f D h => by
    match f, h with
      | 0, h => cases h; rfl
      | 1, h => cases h; rfl
      | 2, h => cases h; rfl
      | 3, h => cases h; rfl
      | 4, h => cases h; rfl
      | n + 5, h => exact absurd h (by intro z; cases z)
  have hC : ∀ f D, Ds f = some D → D.ck C = true := fun f D h => by
    match f, h with
      | 0, h => cases h; exact ck0
      | 1, h => cases h; exact ck1
      | 2, h => cases h; exact ck2
      | 3, h => cases h; exact ck3
      | 4, h => cases h; exact ck4
      | n + 5, h => exact absurd h (by intro z; cases z)
  refine law_ok (TT := T) (LL := LL) (f := 4) rfl (fun _ => rfl) (fun _ => rfl) (fun _ => rfl) (fun ns a c hc b xs h => ?_) (fun ns a => (lk_all (Ds := Ds) (B ns a) (fun _ => rfl) hF hP hC DD).ok 4 D4.F rfl) run_ok
  match c, hc, h with
    | 0, hc, _ => exact absurd rfl hc
    | n + 1, _, h => exact absurd h (by intro z; cases z)
end
end Z
open PySem PySem.W PyProof.Rows in
set_option maxRecDepth 100000 in
set_option maxHeartbeats 0 in
theorem PySem.Challenge.cw_tidemark_k24_standing_roots_holds : PySem.Challenge.rw_tidemark_k24_standing_roots.Holds := by
  w_on; o_law; k_head; (case hw => w_witness2)
  k_fill
  refine MP.walkMP (D := Z.DD) (x := "_law_script") (l := PySem.Challenge.rw_tidemark_k24_standing_roots) rfl rfl ⟨rfl, by decide, by decide⟩ (fun w h Y => PySem.W.kIn_of Y) ?F
  case F =>
    intro w mg fa h KX G hmg
    refine' Z.all_mk KX G hmg ?a0 ?l0 ?c0 ?k0 ?a1 ?l1 ?c1 ?k1 ?a2 ?l2 ?c2 ?k2 ?a3 ?l3 ?c3 ?k3 ?a4 ?l4 ?c4 ?k4 ?z_int ?z_len ?z_range
    (case a0 => k_is)
    (case l0 => k_is)
    (case c0 => k_is)
    (case k0 => k_is)
    (case a1 => k_is)
    (case l1 => k_is)
    (case c1 => k_is)
    (case k1 => k_is)
    (case a2 => k_is)
    (case l2 => k_is)
    (case c2 => k_is)
    (case k2 => k_is)
    (case a3 => k_is)
    (case l3 => k_is)
    (case c3 => k_is)
    (case k3 => k_is)
    (case a4 => k_is)
    (case l4 => k_is)
    (case c4 => k_is)
    (case k4 => k_is)
    (case z_int => k_is)
    (case z_len => k_is)
    (case z_range => k_is)
