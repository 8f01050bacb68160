import PyProof.Rows.All
import Wide.All
import OpenK.AllK
import Wide.FinOn
import PySem.Syntax
import HandS.ForSpec
import HandS.Comp
import HandS.Flow
import HandS.Lambda
import HandS.TupSets
import HandS.Set
import HandS.Dict
import KE.KDictKeyed
import KE.KeyNested
import HandS.TupAny
import HandS.TupLe
import HandS.Deep
import HandS.Style
import HandS.IsInst
import HandS.TupLen
import PyProof.SetRoads
import KE.LtSeq
import PyProof.P3Eq
import PyProof.P3In
import HandS.DictTup
import KE.SortKeyHeap
import HandS.SortKw
import KE.KDictCopyH
import KE.KDictSum
import HandS.ExcValue
import HandS.Iter
import HandS.Conv
import HandS.SetBool
import PyProof.FactsAll.list_0
import PyProof.FactsAll.list_3
import HandS.Defaults
import HandS.WordsExc
import HandS.Head0
import HandS.Head1
import HandS.Head2
import HandS.HeadEnd
import HandS.HeadHook1
import HandS.HeadHook2
import KE.KStateDown
import Lean
import PySem.Challenge.RW_earway_k19_where_one_may_be
section
set_option autoImplicit false
/-! A small language of plain data: values D, a store of cells, expressions E, statements S, what they come to. -/
namespace Pd
open PySem

abbrev LIM : Nat := 16777216

inductive D where
  | non | bl (b : Bool) | int (i : Int) | str (s : Str) | tup (ds : List D) | frz (ds : List D) | ref (n : Nat)
  deriving Inhabited

inductive Cell where
  | lst (ds : List D)
  | dct (kvs : List (D × D))
  | set (ds : List D)
  | ins (c : Nat) (fs : List (Str × D))
  deriving Inhabited
abbrev Store := List Cell
abbrev Env := List (Option D)

/-! ### equality of data -/
mutual
/-- the same thing -/
def D.same : D → D → Bool
  | .non, .non => true
  | .bl a, .bl b => a == b
  | .int a, .int b => decide (a = b)
  | .str a, .str b => decide (a = b)
  | .tup a, .tup b => sames a b
  | .frz a, .frz b => sames a b
  | .ref a, .ref b => decide (a = b)
  | _, _ => false
def sames : List D → List D → Bool
  | [], [] => true
  | x :: xs, y :: ys => D.same x y && sames xs ys
  | _, _ => false
end
mutual
/-- as == tells, of what has no cells -/
def D.eq : D → D → Bool
  | .non, .non => true
  | .bl a, .bl b => a == b
  | .bl a, .int j => (if a then 1 else 0) == j
  | .int i, .bl b => i == (if b then 1 else 0)
  | .int a, .int b => a == b
  | .str a, .str b => a == b
  | .tup a, .tup b => eqs a b
  | .frz a, .frz b => eqs a b
  | _, _ => false
def eqs : List D → List D → Bool
  | [], [] => true
  | x :: xs, y :: ys => D.eq x y && eqs xs ys
  | _, _ => false
end
mutual
/-- no cells, texts of signs, at most so deep -/
def D.fit : D → Nat → Bool
  | .non, _ => true
  | .bl _, _ => true
  | .int _, _ => true
  | .str s, _ => s.cps.all (· < 0x110000)
  | .tup ds, k => match k with
    | 0 => false
    | k + 1 => fits ds k
  | .frz ds, k => match k with
    | 0 => false
    | k + 1 => fits ds k
  | .ref _, _ => false
def fits : List D → Nat → Bool
  | [], _ => true
  | d :: ds, k => D.fit d k && fits ds k
end
mutual
/-- all cells that it names stand below n -/
def D.under : D → Nat → Bool
  | .tup ds, n => unders ds n
  | .frz ds, n => unders ds n
  | .ref m, n => decide (m < n)
  | _, _ => true
def unders : List D → Nat → Bool
  | [], _ => true
  | d :: ds, n => D.under d n && unders ds n
end
mutual
/-- x < y, where it is told -/
def D.lt : D → D → Option Bool
  | .int a, .int b => some (decide (a < b))
  | .str a, .str b => some (decide (a.cps.toList < b.cps.toList))
  | .tup a, .tup b => lts a b
  | _, _ => none
def lts : List D → List D → Option Bool
  | [], [] => some false
  | [], _ :: _ => some true
  | _ :: _, [] => some false
  | x :: xs, y :: ys => if D.eq x y then lts xs ys else D.lt x y
end
def Cell.under : Cell → Nat → Bool
  | .lst ds, n => unders ds n
  | .dct kvs, n => kvs.all fun p => p.1.under n && p.2.under n
  | .set ds, n => unders ds n
  | .ins _ fs, n => fs.all fun p => p.2.under n
def Cell.same : Cell → Cell → Bool
  | .lst a, .lst b => sames a b
  | .dct a, .dct b => sames (a.map (·.1)) (b.map (·.1)) && sames (a.map (·.2)) (b.map (·.2))
  | .set a, .set b => sames a b
  | .ins c a, .ins d b => decide (c = d) && decide (a.map (·.1) = b.map (·.1)) && sames (a.map (·.2)) (b.map (·.2))
  | _, _ => false

/-! ### what comes of it -/
inductive R (α : Type) where
  | ok (a : α) (st : Store) | exc (c : Nat) (d : D) (st : Store) | err
def R.bind {α β : Type} (r : R α) (f : α → Store → R β) : R β := match r with
  | .ok a st => f a st
  | .exc c d st => .exc c d st
  | .err => .err
@[simp] theorem R.bind_ok {α β : Type} (a : α) (st : Store) (f : α → Store → R β) : (R.ok a st).bind f = f a st := Eq.trans rfl rfl
@[simp] theorem R.bind_exc {α β : Type} (c : Nat) (d : D) (st : Store) (f : α → Store → R β) : (R.exc c d st : R α).bind f = .exc c d st := Eq.trans rfl rfl
@[simp] theorem R.bind_err {α β : Type} (f : α → Store → R β) : (R.err : R α).bind f = .err := Eq.trans rfl rfl
/-- what is raised is not told -/
def R.still {α : Type} (r : R α) : R α := match r with
  | .ok a st => .ok a st
  | _ => .err
@[simp] theorem R.still_ok {α : Type} (a : α) (st : Store) : (R.ok a st).still = .ok a st := Eq.trans rfl rfl
def R.of {α : Type} (o : Option α) (st : Store) : R α := match o with
  | some a => .ok a st
  | none => .err
@[simp] theorem R.of_some {α : Type} (a : α) (st : Store) : R.of (some a) st = .ok a st := Eq.trans rfl rfl
@[simp] theorem R.of_none {α : Type} (st : Store) : (R.of none st : R α) = .err := Eq.trans rfl rfl

/-- the cells ahead of n are as they were, or name nothing from n on -/
def older (n : Nat) : Store → Store → Bool
  | [], _ => true
  | c :: cs, c' :: cs' => (c'.same c || c'.under n) && older n cs cs'
  | _ :: _, [] => false
/-- behind a call: what was made and is not handed back is forgotten -/
def gc (st : Store) (d : D) (st' : Store) : R D :=
  if older st.length st st' then
    if d.under st.length then .ok d (st'.take st.length)
    else match d with
      | .ref m => match st'[m]? with
        | some c => if c.under st.length then .ok (.ref st.length) (st'.take st.length ++ [c]) else .ok d st'
        | none => .ok d st'
      | _ => .ok d st'
  else .ok d st'

/-! ### keys of dicts, members of sets -/
def D.scal : D → Bool
  | .int _ => true
  | .str _ => true
  | _ => false
mutual
/-- a key at most so deep -/
def D.kok : D → Nat → Bool
  | .non, _ => true
  | .bl _, _ => true
  | .int _, _ => true
  | .str _, _ => true
  | .tup ds, k => match k with
    | 0 => false
    | k + 1 => koks ds k
  | .frz _, _ => false
  | .ref _, _ => false
def koks : List D → Nat → Bool
  | [], _ => true
  | d :: ds, k => D.kok d k && koks ds k
end
def D.tupK : D → Bool
  | .tup ds => koks ds 7
  | _ => false
/-- such a key goes with these -/
def likeK (ks : List D) (k : D) : Bool := (k.scal && ks.all D.scal) || (k.tupK && ks.all D.tupK)
def dlook (kvs : List (D × D)) (k : D) : Option D := (kvs.find? fun p => p.1.eq k).map (·.2)
def dput (kvs : List (D × D)) (k v : D) : List (D × D) := if (kvs.any fun p => p.1.eq k) = true then kvs.map (fun p => if p.1.eq k = true then (p.1, v) else p) else kvs ++ [(k, v)]
def dhas (st : Store) (n : Nat) (k : D) : Option (List (D × D)) := match st[n]? with
  | some (.dct kvs) => if likeK (kvs.map (·.1)) k then some kvs else none
  | _ => none

/-- one element more in a set -/
def saddD (ds : List D) (d : D) : Option (List D) := if likeK ds d && (d.scal && decide (ds.length < 4000) || decide (ds.length < 62)) then some (if (ds.any fun e => e.eq d) = true then ds else ds ++ [d]) else none
def setOfL : List D → List D → Option (List D)
  | acc, [] => some acc
  | acc, d :: ds => (saddD acc d).bind fun acc => setOfL acc ds

/-! ### operations -/
def truth : D → Store → Option Bool
  | .non, _ => some false
  | .bl b, _ => some b
  | .int i, _ => some (i != 0)
  | .str s, _ => if s.cps.size ≤ LIM then some ((s.cps.size : Int) != 0) else none
  | .tup ds, _ => some (!ds.isEmpty)
  | .frz ds, _ => some (!ds.isEmpty)
  | .ref n, st => match st[n]? with
    | some (.lst ds) => some (!ds.isEmpty)
    | _ => none

inductive BOp where
  | add | sub | mul | fdiv | mod | pow
  deriving DecidableEq
/-- a list cell -/
def lstAt (st : Store) (n : Nat) : Option (List D) := match st[n]? with
  | some (.lst ds) => some ds
  | _ => none
def alloc (c : Cell) (st : Store) : R D := .ok (.ref st.length) (st ++ [c])
def bop : BOp → D → D → Store → R D
  | .add, .int a, .int b, st => .ok (.int (a + b)) st
  | .sub, .int a, .int b, st => .ok (.int (a - b)) st
  | .mul, .int a, .int b, st => if (-(2 ^ 64) < a ∧ a < 2 ^ 64) ∨ (-(2 ^ 64) < b ∧ b < 2 ^ 64) then .ok (.int (a * b)) st else .err
  | .fdiv, .int a, .int b, st => if 0 < b ∧ b < 1073741824 then .ok (.int (a / b)) st else .err
  | .mod, .int a, .int b, st => if 0 < b then .ok (.int (a % b)) st else .err
  | .pow, .int a, .int b, st => if 0 ≤ b ∧ b ≤ 1000000 ∧ a.natAbs < 2 ^ 64 then .ok (.int (a ^ b.toNat)) st else .err
  | .add, .str a, .str b, st => if a.cps.size + b.cps.size ≤ LIM then .ok (.str ⟨a.cps ++ b.cps⟩) st else .err
  | .add, .tup a, .tup b, st => if a.length + b.length ≤ LIM then .ok (.tup (a ++ b)) st else .err
  | .add, .ref m, .ref n, st => match lstAt st m, lstAt st n with
    | some a, some b => if a.length + b.length ≤ LIM then alloc (.lst (a ++ b)) st else .err
    | _, _ => .err
  | .mul, .ref m, .int k, st => match lstAt st m with
    | some a => if -(2 ^ 63) ≤ k ∧ k < 2 ^ 63 ∧ a.length * k.toNat ≤ LIM then alloc (.lst (List.replicate k.toNat a).flatten) st else .err
    | none => .err
  | _, _, _, _ => .err

inductive COp where
  | eq | ne | lt | le | gt | ge | is | isnot | mem | notmem
  deriving DecidableEq
/-- data of a thing: a cell's list is taken as it stands -/
def eqD (st : Store) (a b : D) : Option Bool :=
  match a, b with
  | .ref m, .ref n => match lstAt st m, lstAt st n with
    | some x, some y => if fits x 60 && fits y 60 then some (eqs x y) else none
    | _, _ => none
  | _, _ => if a.fit 60 && b.fit 60 then some (a.eq b) else none
/-- flat: for in -/
def D.flat : D → Bool
  | .non => true
  | .bl _ => true
  | .int _ => true
  | .str _ => true
  | _ => false
def D.isNon : D → Bool
  | .non => true
  | _ => false
def D.isB (b : Bool) : D → Bool
  | .bl c => c == b
  | _ => false
def memD (st : Store) (a b : D) : Option Bool :=
  match b with
  | .tup ds => if a.fit 60 && fits ds 60 then some (ds.any fun d => d.eq a) else none
  | .frz ds => if a.fit 60 && fits ds 60 then some (ds.any fun d => d.eq a) else none
  | .ref n => match st[n]? with
    | some (.lst ds) => if a.fit 60 && fits ds 60 then some (ds.any fun d => d.eq a) else none
    | some (.dct kvs) => if likeK (kvs.map (·.1)) a then some (dlook kvs a).isSome else none
    | some (.set ds) => if likeK ds a then some (ds.any fun d => d.eq a) else none
    | _ => none
  | _ => none
def ltD (a b : D) : Option Bool := if a.fit 60 && b.fit 60 then a.lt b else none
def cop : COp → D → D → Store → Option Bool
  | .eq, a, b, st => eqD st a b
  | .ne, a, b, st => (eqD st a b).map (!·)
  | .lt, a, b, _ => ltD a b
  | .le, .int a, .int b, _ => some (decide (a ≤ b))
  | .le, .str a, .str b, _ => some (!decide (b.cps.toList < a.cps.toList))
  | .gt, .int a, .int b, _ => some (decide (b < a))
  | .ge, .int a, .int b, _ => some (decide (b ≤ a))
  | .is, a, .non, _ => some a.isNon
  | .is, a, .bl b, _ => some (a.isB b)
  | .isnot, a, .non, _ => some (!a.isNon)
  | .mem, a, b, st => memD st a b
  | .notmem, a, b, st => (memD st a b).map (!·)
  | _, _, _, _ => none

def ixN (n : Nat) (i : Int) : Option Nat := if 0 ≤ i then (if i < n then some i.toNat else none) else if -(n : Int) ≤ i then some (i + n).toNat else none
def atI {α : Type} (xs : List α) (i : Int) : Option α := (ixN xs.length i).bind fun j => xs[j]?
def sIx (n d : Nat) : Option Int → Nat
  | none => d
  | some v => if v < 0 then (v + (n : Int)).toNat else min v.toNat n
def cut {α : Type} (xs : List α) (lo hi : Option Int) : List α := (xs.drop (sIx xs.length 0 lo)).take (sIx xs.length xs.length hi - sIx xs.length 0 lo)

def idx (a i : D) (st : Store) : R D := match a, i with
  | .tup ds, .int k => R.of (atI ds k) st
  | .frz ds, .int k => R.of (atI ds k) st
  | .ref n, k => match st[n]? with
    | some (.lst ds) => match k with
      | .int k => R.of (atI ds k) st
      | _ => .err
    | some (.dct kvs) => if likeK (kvs.map (·.1)) k then R.of (dlook kvs k) st else .err
    | _ => .err
  | _, _ => .err
def slice (a : D) (lo hi : Option Int) (st : Store) : R D := match a with
  | .tup ds => .ok (.tup (cut ds lo hi)) st
  | .ref n => match lstAt st n with
    | some ds => alloc (.lst (cut ds lo hi)) st
    | none => .err
  | _ => .err

inductive Ty where
  | int | bool | str | list | tuple
  deriving DecidableEq
def tyB : D → Ty → Bool
  | .bl _, .int => true
  | .int _, .int => true
  | .bl _, .bool => true
  | .str _, .str => true
  | .tup _, .tuple => true
  | .frz _, .list => true
  | _, _ => false
def isTy (d : D) (st : Store) (t : Ty) : Option Bool := match d with
  | .ref n => match st[n]? with
    | some (.lst _) => some (match t with
      | .list => true
      | _ => false)
    | _ => none
  | d => some (tyB d t)

/-! sorting, stable -/
mutual
/-- the two may be compared, place by place -/
def D.alike : D → D → Bool
  | .non, .non => true
  | .int _, .int _ => true
  | .str _, .str _ => true
  | .tup xs, .tup ys => alikes xs ys
  | _, _ => false
def alikes : List D → List D → Bool
  | x :: xs, y :: ys => D.alike x y && alikes xs ys
  | [], _ => true
  | _ :: _, [] => true
end
def leK (p q : D × D) : Bool := !((D.lt q.1 p.1).getD false)
def D.isRow : D → Bool
  | .tup (_ :: _) => true
  | _ => false
def D.isAtom : D → Bool
  | .int _ => true
  | .str _ => true
  | _ => false
def sortable (ks : List D) : Bool := (ks.all D.isRow || ks.all D.isAtom) && ks.all fun a => a.fit 60 && ks.all fun b => a.alike b
def sortK (ks ds : List D) : List D := ((ks.zip ds).mergeSort leK).map (·.2)

inductive Bif where
  | len | tuple | list | int | all | any | sorted | sum | max | min | abs | str | set
  deriving DecidableEq
def seqOf (d : D) (st : Store) : Option (List D) := match d with
  | .tup ds => some ds
  | .frz ds => some ds
  | .ref n => lstAt st n
  | _ => none
/-- the items of a list -/
def lstOf (d : D) (st : Store) : Option (List D) := match d with
  | .frz ds => some ds
  | .ref n => lstAt st n
  | _ => none
/-- what sorted takes -/
def collOf (d : D) (st : Store) : Option (List D) := match d with
  | .frz ds => some ds
  | .ref n => match st[n]? with
    | some (.lst ds) => some ds
    | some (.set ds) => some ds
    | some (.dct kvs) => if kvs.length ≤ LIM then some (kvs.map (·.1)) else none
    | _ => none
  | _ => none
/-- what sorted with a key takes -/
def rowsOf (d : D) (st : Store) : Option (List D) := match d with
  | .frz ds => some ds
  | .ref n => match st[n]? with
    | some (.lst ds) => some ds
    | some (.dct kvs) => if kvs.length ≤ LIM then some (kvs.map (·.1)) else none
    | _ => none
  | _ => none
def blsOf : List D → Option (List Bool)
  | [] => some []
  | .bl b :: ds => (blsOf ds).map (b :: ·)
  | _ => none
def intsOf : List D → Option (List Int)
  | [] => some []
  | .int b :: ds => (intsOf ds).map (b :: ·)
  | _ => none
def bfn1 (b : Bif) (d : D) (st : Store) : R D := match b with
  | .len => match d with
    | .str s => if s.cps.size ≤ LIM then .ok (.int s.cps.size) st else .err
    | .ref n => match st[n]? with
      | some (.lst ds) => .ok (.int ds.length) st
      | some (.set ds) => .ok (.int ds.length) st
      | some (.dct kvs) => if kvs.length ≤ LIM then .ok (.int kvs.length) st else .err
      | _ => .err
    | d => match seqOf d st with
      | some ds => .ok (.int ds.length) st
      | none => .err
  | .tuple => match seqOf d st with
    | some ds => .ok (.tup ds) st
    | none => .err
  | .list => match seqOf d st with
    | some ds => alloc (.lst ds) st
    | none => .err
  | .int => match d with
    | .int i => .ok (.int i) st
    | _ => .err
  | .all => match d with
    | .ref n => match (lstAt st n).bind blsOf with
      | some bs => .ok (.bl (bs.all id)) st
      | none => .err
    | _ => .err
  | .any => match d with
    | .ref n => match (lstAt st n).bind blsOf with
      | some bs => .ok (.bl (bs.any id)) st
      | none => .err
    | _ => .err
  | .sorted => match collOf d st with
    | some ds => if sortable ds then alloc (.lst (sortK ds ds)) st else .err
    | none => .err
  | .set => match (lstOf d st).bind (setOfL []) with
    | some es => alloc (.set es) st
    | none => .err
  | _ => .err
def bfn (b : Bif) (ds : List D) (st : Store) : R D := match ds with
  | [d] => bfn1 b d st
  | _ => .err

/-! ### the language -/
inductive Tg where
  | one (i : Nat) | many (is : List Nat)
mutual
inductive E where
  | slot (i : Nat)
  | cint (i : Int) | cstr (s : Str) | cbl (b : Bool) | cnon | con (d : D)
  | tup (es : Es) | lst (es : Es)
  | bin (op : BOp) (a b : E)
  | neg (a : E)
  | not (a : E)
  | cmp (op : COp) (a b : E)
  | chain (o1 o2 : COp) (a b c : E)
  | band (es : Es) | bor (es : Es)
  | ite (c a b : E)
  | idx (a i : E)
  | slice (a : E) (lo hi : Eo)
  | call (f : Nat) (es : Es)
  | bfn (b : Bif) (es : Es)
  | isi (a : E) (one : Bool) (ts : List Ty)
  | sortk (a : E) (f : Nat)
  | comp (elt : E) (tg : Tg) (it : It) (cond : Eo) (own : List Nat)
  | dnew | fld (c : Nat) (a : E) (f : Str) | mk (c f : Nat) (es : Es) | meth (c : Nat) (a : E) (m : Str) (f : Nat) (es : Es) | lrng (it : It)
  | snew | scomp (elt : E) (tg : Tg) (it : It) (cond : Eo) (own : List Nat)
  | comp2 (elt : E) (tg : Tg) (it : It) (tg2 : Tg) (it2 : It) (own vs : List Nat)
inductive Es where
  | nil | cons (e : E) (es : Es)
inductive Eo where
  | none | some (e : E)
inductive It where
  | seq (e : E) | rng1 (e : E) | rng2 (a b : E)
end

/-! ### what an expression comes to -/
abbrev Fn := Nat → List D → Store → R D
def set1 (env : Env) (i : Nat) (d : D) : Env := env.set i (some d)
def setMany (env : Env) : List Nat → List D → Option Env
  | [], [] => some env
  | i :: is, d :: ds => setMany (set1 env i d) is ds
  | _, _ => none
def assignTg (env : Env) (tg : Tg) (d : D) : Option Env := match tg with
  | .one i => some (set1 env i d)
  | .many is => match d with
    | .tup ds => setMany env is ds
    | _ => none
def wipeE (env : Env) : List Nat → Env
  | [] => env
  | v :: vs => (wipeE env vs).set v none

/-- the items that are walked; where they stand in a cell, it is looked at in each turn -/
structure Items where
  ds : List D
  src : Option Nat
def srcOk (st : Store) (w : Items) : Bool := match w.src with
  | none => true
  | some n => match st[n]? with
    | some (.lst ds) => sames ds w.ds
    | _ => false
def itemsOf (d : D) (st : Store) : Option Items := match d with
  | .tup ds => some ⟨ds, none⟩
  | .frz ds => some ⟨ds, none⟩
  | .ref n => (lstAt st n).map fun ds => ⟨ds, some n⟩
  | .str x => some ⟨x.cps.toList.map fun c => .str ⟨#[c]⟩, none⟩
  | _ => none
def rngItems (lo hi : Int) : Option Items :=
  if -(2 ^ 62) ≤ lo ∧ lo < 2 ^ 62 ∧ -(2 ^ 62) ≤ hi ∧ hi < 2 ^ 62 then some ⟨(List.range (hi - lo).toNat).map fun k => .int (lo + (k : Nat)), none⟩ else none

/-- st' begins as st -/
def sameOn : Store → Store → Bool
  | [], _ => true
  | c :: cs, c' :: cs' => c'.same c && sameOn cs cs'
  | _ :: _, [] => false
/-- the keys of a list; each call leaves the cells as they stand -/
def keysBy (f : D → Store → R D) (st : Store) : List D → R (List D)
  | [] => .ok [] st
  | d :: ds => (f d st).bind fun k st' => if sameOn st st' && k.under 0 then (keysBy f st ds).bind fun ks st => .ok (k :: ks) st else .err

def compLoop (env : Env) (tg : Tg) (w : Items) (cond : Env → Store → R Bool) (elt : Env → Store → R D) : List D → List D → Store → R D
  | [], acc, st => if srcOk st w then alloc (.lst acc) st else .err
  | d :: ds, acc, st => if srcOk st w then
      match assignTg env tg d with
      | none => .err
      | some env' => (cond env' st).bind fun b st => if b = true then
          (elt env' st).bind fun y st => if acc.length < LIM then compLoop env tg w cond elt ds (acc ++ [y]) st else .err
        else compLoop env tg w cond elt ds acc st
    else .err

def compLoopS (env : Env) (tg : Tg) (w : Items) (cond : Env → Store → R Bool) (elt : Env → Store → R D) : List D → List D → Store → R D
  | [], acc, st => if srcOk st w then alloc (.set acc) st else .err
  | d :: ds, acc, st => if srcOk st w then
      match assignTg env tg d with
      | none => .err
      | some env' => (cond env' st).bind fun b st => if b = true then
          (elt env' st).bind fun y st => match saddD acc y with
            | some acc => compLoopS env tg w cond elt ds acc st
            | none => .err
        else compLoopS env tg w cond elt ds acc st
    else .err

/-! ### instances -/
def lookF (f : Str) : List (Str × D) → Option D
  | [] => none
  | (g, x) :: r => if g = f then some x else lookF f r
def putFD (f : Str) (v : D) : List (Str × D) → List (Str × D)
  | [] => [(f, v)]
  | (g, x) :: r => if g = f then (g, v) :: r else (g, x) :: putFD f v r
/-- the attributes of an instance of this class -/
def insOf (c : Nat) (x : D) (st : Store) : Option (List (Str × D)) := match x with
  | .ref n => match st[n]? with
    | some (.ins c' fs) => if c' = c then some fs else none
    | _ => none
  | _ => none
def noneF (f : Str) (fs : List (Str × D)) : Bool := match lookF f fs with
  | none => true
  | some _ => false
/-- a row of rows -/
def compLoop2 (env : Env) (tg : Tg) (w : Items) (inner : Env → List D → Store → R (List D)) : List D → List D → Store → R D
  | [], acc, st => if srcOk st w then alloc (.lst acc) st else .err
  | d :: ds, acc, st => if srcOk st w then
      match assignTg env tg d with
      | none => .err
      | some env' => (inner env' acc st).bind fun acc st => compLoop2 env tg w inner ds acc st
    else .err
def compIn (env : Env) (tg : Tg) (w : Items) (elt : Env → Store → R D) : List D → List D → Store → R (List D)
  | [], acc, st => if srcOk st w then .ok acc st else .err
  | d :: ds, acc, st => if srcOk st w then
      match assignTg env tg d with
      | none => .err
      | some env' => (elt env' st).bind fun y st => if acc.length < LIM then compIn env tg w elt ds (acc ++ [y]) st else .err
    else .err

section
variable (cl : Fn)
mutual
def den : E → Env → Store → R D
  | .slot i, env, st => match env[i]? with
    | some (some d) => .ok d st
    | _ => .err
  | .cint i, _, st => .ok (.int i) st
  | .cstr s, _, st => .ok (.str s) st
  | .cbl b, _, st => .ok (.bl b) st
  | .cnon, _, st => .ok .non st
  | .con d, _, st => .ok d st
  | .tup es, env, st => (dens es env st).bind fun ds st => if ds.length ≤ LIM then .ok (.tup ds) st else .err
  | .lst es, env, st => (dens es env st).bind fun ds st => if ds.length ≤ LIM then alloc (.lst ds) st else .err
  | .bin op a b, env, st => (den a env st).bind fun x st => (den b env st).bind fun y st => bop op x y st
  | .neg a, env, st => (den a env st).bind fun x st => match x with
    | .int i => .ok (.int (-i)) st
    | _ => .err
  | .not a, env, st => (den a env st).bind fun x st => (R.of (truth x st) st).bind fun b st => .ok (.bl (!b)) st
  | .cmp op a b, env, st => (den a env st).bind fun x st => (den b env st).bind fun y st => (R.of (cop op x y st) st).bind fun k st => .ok (.bl k) st
  | .chain o1 o2 a b c, env, st => (den a env st).bind fun x st => (den b env st).bind fun y st => (R.of (cop o1 x y st) st).bind fun k st =>
      if k = true then (den c env st).bind fun z st => (R.of (cop o2 y z st) st).bind fun k st => .ok (.bl k) st else .ok (.bl false) st
  | .band es, env, st => denAnd es env st
  | .bor es, env, st => denOr es env st
  | .ite c a b, env, st => (den c env st).bind fun x st => (R.of (truth x st) st).bind fun k st => if k = true then den a env st else den b env st
  | .idx a i, env, st => (den a env st).bind fun x st => (den i env st).bind fun k st => idx x k st
  | .slice a lo hi, env, st => (den a env st).bind fun x st => (denPart lo env st).bind fun l st => (denPart hi env st).bind fun h st => slice x l h st
  | .call f es, env, st => (dens es env st).bind fun ds st1 => (cl f ds st1).bind fun d st2 => gc st d st2
  | .bfn b es, env, st => (dens es env st).bind fun ds st1 => (bfn b ds st1).bind fun d st2 => gc st d st2
  | .isi a _ ts, env, st => (den a env st).bind fun x st => (R.of ((ts.mapM fun t => isTy x st t)) st).bind fun bs st => .ok (.bl (bs.any id)) st
  | .sortk a f, env, st => (den a env st).bind fun x st1 => (R.of (rowsOf x st1) st1).bind fun ds st1 => (keysBy (fun d st => cl f [d] st) st1 ds).still.bind fun ks st1 =>
      if sortable ks then (alloc (.lst (sortK ks ds)) st1).bind fun d st2 => gc st d st2 else .err
  | .comp elt tg it cond own, env, st => (denIt it env st).bind fun w st => compLoop (wipeE env own) tg w (fun env st => (denCond cond env st).still) (fun env st => (den elt env st).still) w.ds [] st
  | .dnew, _, st => alloc (.dct []) st
  | .fld c a f, env, st => (den a env st).bind fun x st => R.of ((insOf c x st).bind fun fs => lookF f fs) st
  | .mk c f es, env, st => (dens es env st).bind fun ds st1 => (cl f (.ref st1.length :: ds) (st1 ++ [.ins c []])).still.bind fun r st2 => match r with
    | .non => gc st (.ref st1.length) st2
    | _ => .err
  | .meth c a m f es, env, st => (den a env st).bind fun x st1 => (R.of (insOf c x st1) st1).bind fun fs st1 => if noneF m fs then (dens es env st1).bind fun ds st2 => (cl f (x :: ds) st2).still.bind fun d st3 => gc st d st3 else .err
  | .lrng it, env, st => (denIt it env st).bind fun w st => if w.ds.length ≤ LIM then alloc (.lst w.ds) st else .err
  | .snew, _, st => alloc (.set []) st
  | .scomp elt tg it cond own, env, st => (denIt it env st).bind fun w st => compLoopS (wipeE env own) tg w (fun env st => (denCond cond env st).still) (fun env st => (den elt env st).still) w.ds [] st
  | .comp2 elt tg it tg2 it2 own vs, env, st => (denIt it env st).bind fun w st => compLoop2 (wipeE env own) tg w (fun env acc st => ((denIt it2 env st).still).bind fun w2 st => compIn (wipeE env vs) tg2 w2 (fun env st => (den elt env st).still) w2.ds acc st) w.ds [] st
def dens : Es → Env → Store → R (List D)
  | .nil, _, st => .ok [] st
  | .cons e es, env, st => (den e env st).bind fun d st => (dens es env st).bind fun ds st => .ok (d :: ds) st
def denAnd : Es → Env → Store → R D
  | .nil, _, _ => .err
  | .cons e es, env, st => match es with
    | .nil => den e env st
    | .cons _ _ => (den e env st).bind fun x st => (R.of (truth x st) st).bind fun k st => if k = true then denAnd es env st else .ok x st
def denOr : Es → Env → Store → R D
  | .nil, _, _ => .err
  | .cons e es, env, st => match es with
    | .nil => den e env st
    | .cons _ _ => (den e env st).bind fun x st => (R.of (truth x st) st).bind fun k st => if k = true then .ok x st else denOr es env st
def denPart : Eo → Env → Store → R (Option Int)
  | .none, _, st => .ok none st
  | .some e, env, st => (den e env st).bind fun x st => match x with
    | .int i => .ok (some i) st
    | _ => .err
def denCond : Eo → Env → Store → R Bool
  | .none, _, st => .ok true st
  | .some e, env, st => (den e env st).bind fun x st => R.of (truth x st) st
def denIt : It → Env → Store → R Items
  | .seq e, env, st => (den e env st).bind fun x st => R.of (itemsOf x st) st
  | .rng1 e, env, st => (den e env st).bind fun x st => match x with
    | .int j => R.of (rngItems 0 j) st
    | _ => .err
  | .rng2 a b, env, st => (den a env st).bind fun x st => (den b env st).bind fun y st => match x, y with
    | .int i, .int j => R.of (rngItems i j) st
    | _, _ => .err
end
end

/-! ### statements -/
mutual
inductive S where
  | set (i : Nat) (e : E)
  | unp (is : List Nat) (e : E)
  | par (i j : Nat) (a b : E)
  | sub (a i e : E)
  | setf (c : Nat) (a : E) (f : Str) (e : E)
  | aug (i : Nat) (op : BOp) (e : E)
  | app (a e : E)
  | sadd (a e : E)
  | drop (e : E)
  | iff (c : E) (a b : Ss)
  | ret (e : E)
  | retN
  | brk | cont | pass | never
  | loop (tg : Tg) (it : It) (body : Ss) (fg : List Nat)
  | whil (c : E) (body : Ss) (fg : List Nat)
  | raise1 (c : Nat) (e : E)
  | raise0 (c : Nat)
inductive Ss where
  | nil | cons (s : S) (ss : Ss)
end
inductive RS where
  | nx (env : Env) (st : Store) | ret (d : D) (st : Store) | brk (env : Env) (st : Store) | cnt (env : Env) (st : Store) | exc (c : Nat) (d : D) (env : Env) (st : Store) | err
def RS.ofE (env : Env) {α : Type} (r : R α) (f : α → Store → RS) : RS := match r with
  | .ok a st => f a st
  | .exc c d st => .exc c d env st
  | .err => .err
@[simp] theorem RS.ofE_ok (env : Env) {α : Type} (a : α) (st : Store) (f : α → Store → RS) : RS.ofE env (R.ok a st) f = f a st := Eq.trans rfl rfl
@[simp] theorem RS.ofE_exc (env : Env) {α : Type} (c : Nat) (d : D) (st : Store) (f : α → Store → RS) : RS.ofE env (R.exc c d st : R α) f = .exc c d env st := Eq.trans rfl rfl
@[simp] theorem RS.ofE_err (env : Env) {α : Type} (f : α → Store → RS) : RS.ofE env (R.err : R α) f = .err := Eq.trans rfl rfl
def RS.andThen (r : RS) (f : Env → Store → RS) : RS := match r with
  | .nx env st => f env st
  | r => r
/-- one turn of a loop: what comes next -/
def RS.turn (r : RS) (again : Env → Store → RS) : RS := match r with
  | .nx env st => again env st
  | .cnt env st => again env st
  | .brk env st => .nx env st
  | r => r
/-- names that are not read before they are stored again are forgotten -/
def RS.forget (r : RS) (fg : List Nat) : RS := match r with
  | .nx env st => .nx (wipeE env fg) st
  | r => r
def forLoop (tg : Tg) (w : Items) (body : Env → Store → RS) (fg : List Nat) : List D → Env → Store → RS
  | [], env, st => if srcOk st w then .nx (wipeE env fg) st else .err
  | d :: ds, env, st => if srcOk st w then
      match assignTg (wipeE env fg) tg d with
      | none => .err
      | some env' => match body env' st with
        | .nx env st => forLoop tg w body fg ds env st
        | .cnt env st => forLoop tg w body fg ds env st
        | .brk env st => .nx (wipeE env fg) st
        | r => r
    else .err
def whileLoop (c : Env → Store → R Bool) (body : Env → Store → RS) (fg : List Nat) : Nat → Env → Store → RS
  | 0, _, _ => .err
  | n + 1, env, st => RS.ofE env (c env st) fun k st => if k = true then
      match body (wipeE env fg) st with
      | .nx env st => whileLoop c body fg n env st
      | .cnt env st => whileLoop c body fg n env st
      | .brk env st => .nx (wipeE env fg) st
      | r => r
    else .nx (wipeE env fg) st
/-- a[i] = v -/
def putD (env : Env) (d x k : D) (st : Store) : RS := match x with
  | .ref n => match st[n]? with
    | some (.lst ds) => match k with
      | .int k => match ixN ds.length k with
        | some j => .nx env (st.set n (.lst (ds.set j d)))
        | none => .err
      | _ => .err
    | some (.dct kvs) => if likeK (kvs.map (·.1)) k && decide (kvs.length < LIM) then .nx env (st.set n (.dct (dput kvs k d))) else .err
    | _ => .err
  | _ => .err
def subF (Fv Fa Fi : Env → Store → R D) (env : Env) (st : Store) : RS := RS.ofE env (Fv env st) fun d st => RS.ofE env (Fa env st) fun x st => RS.ofE env (Fi env st) fun k st => putD env d x k st
def setfD (env : Env) (c : Nat) (f : Str) (d x : D) (st : Store) : RS := match x with
  | .ref n => match st[n]? with
    | some (.ins c' fs) => if c' = c ∧ fs.length < 1000 then .nx env (st.set n (.ins c (putFD f d fs))) else .err
    | _ => .err
  | _ => .err
def augD (op : BOp) (x y : D) : Option D := match op, x, y with
  | .add, .int a, .int b => some (.int (a + b))
  | .sub, .int a, .int b => some (.int (a - b))
  | _, _, _ => none
def augF (i : Nat) (op : BOp) (Fe : Env → Store → R D) (env : Env) (st : Store) : RS := match env[i]? with
  | some (some x) => RS.ofE env (Fe env st) fun y st => match augD op x y with
    | some z => .nx (set1 env i z) st
    | none => .err
  | _ => .err
def appD (env : Env) (n : Nat) (d : D) (st : Store) : RS := match lstAt st n with
  | some ds => if ds.length < LIM then .nx env (st.set n (.lst (ds ++ [d]))) else .err
  | none => .err
def saddF (Fa Fe : Env → Store → R D) (env : Env) (st : Store) : RS := RS.ofE env (Fa env st) fun x st => match x with
  | .ref n => match st[n]? with
    | some (.set _) => RS.ofE env (Fe env st) fun d st => match st[n]? with
      | some (.set ds) => match saddD ds d with
        | some es => .nx env (st.set n (.set es))
        | none => .err
      | _ => .err
    | _ => .err
  | _ => .err
def appF (Fa Fe : Env → Store → R D) (env : Env) (st : Store) : RS := RS.ofE env (Fa env st) fun x st => match x with
  | .ref n => if (lstAt st n).isSome then RS.ofE env (Fe env st) fun d st => appD env n d st else .err
  | _ => .err
section
variable (cl : Fn) (fuel : Nat)
mutual
def denS : S → Env → Store → RS
  | .set i e, env, st => RS.ofE env (den cl e env st) fun d st => .nx (set1 env i d) st
  | .unp is e, env, st => RS.ofE env (den cl e env st) fun d st => match assignTg env (.many is) d with
    | some env => .nx env st
    | none => .err
  | .par i j a b, env, st => RS.ofE env (den cl a env st) fun x st => RS.ofE env (den cl b env st) fun y st => .nx (set1 (set1 env i x) j y) st
  | .sub a i e, env, st => subF (den cl e) (den cl a) (den cl i) env st
  | .setf c a f e, env, st => RS.ofE env (den cl e env st) fun d st => RS.ofE env (den cl a env st) fun x st => setfD env c f d x st
  | .aug i op e, env, st => augF i op (den cl e) env st
  | .app a e, env, st => appF (den cl a) (den cl e) env st
  | .sadd a e, env, st => saddF (den cl a) (den cl e) env st
  | .drop e, env, st => RS.ofE env (den cl e env st) fun _ st => .nx env st
  | .iff c a b, env, st => RS.ofE env ((den cl c env st).bind fun x st => R.of (truth x st) st) fun k st => if k = true then denSs a env st else denSs b env st
  | .ret e, env, st => RS.ofE env (den cl e env st) fun d st => .ret d st
  | .retN, _, st => .ret .non st
  | .brk, env, st => .brk env st
  | .cont, env, st => .cnt env st
  | .pass, env, st => .nx env st
  | .never, _, _ => .err
  | .loop tg it body fg, env, st => RS.ofE env (denIt cl it env st) fun w st => forLoop tg w (fun env st => denSs body env st) fg w.ds env st
  | .whil c body fg, env, st => whileLoop (fun env st => (den cl c env st).bind fun x st => R.of (truth x st) st) (fun env st => denSs body env st) fg fuel env st
  | .raise1 c e, env, st => RS.ofE env (den cl e env st) fun d st => .exc c d env st
  | .raise0 c, env, st => .exc c .non env st
def denSs : Ss → Env → Store → RS
  | .nil, env, st => .nx env st
  | .cons s ss, env, st => match denS s env st with
    | .nx env st => denSs ss env st
    | r => r
end
end

/-- a def: how many names it has, its parameters, its body -/
structure Fd where
  names : Nat
  ps : Nat
  body : Ss
def startE (n : Nat) (ds : List D) : Env := ds.map some ++ List.replicate (n - ds.length) none
def runFd (cl : Fn) (fuel : Nat) (f : Fd) (ds : List D) (st : Store) : R D :=
  if ds.length = f.ps then
    match denSs cl fuel f.body (startE f.names ds) st with
    | .nx _ st => .ok .non st
    | .ret d st => .ok d st
    | .exc c d _ st => .exc c d st
    | _ => .err
  else .err
/-- a call within so many levels of calls -/
def run (fs : List Fd) (fuel : Nat) : Nat → Fn
  | 0 => fun _ _ _ => .err
  | n + 1 => fun k ds st => match fs[k]? with
    | some f => runFd (run fs fuel n) fuel f ds st
    | none => .err
end Pd
end
section
set_option Elab.async false
set_option linter.all false
set_option maxRecDepth 100000
set_option autoImplicit false
/-! What stands for the plain data in the abstract heap. -/
namespace Pd
open PySem PySem.Spec PyProof.Rows L2

/-- a list that is locked (the script), or one of the written part -/
def FzL (K : PySem.W.Frag) (H : Hp) (a : Addr) (xs : List V) : Prop :=
  (∃ o, H a = some (.frz o (.lst xs))) ∨
    ∃ (o : Obj) (its : Array Value) (n : Nat), K.lookup a = some o ∧ o.cls = .type "list" ∧ o.dict = none ∧ o.data = .seq its n ∧ its.size ≤ sizeLine ∧ Vals xs its.toList
theorem FzL.sq {K : PySem.W.Frag} {H : Hp} {a : Addr} {xs : List V} (h : FzL K H a xs) : SqL K H a xs := by
  rcases h with ⟨o, h⟩ | h
  · exact .inl (.inr ⟨o, h⟩)
  · exact .inr h

theorem ix_one {α : Type} {N : List α} (hN : N.Nodup) {i j : Nat} {x : α} (a : N[i]? = some x) (b : N[j]? = some x) : i = j := by
  obtain ⟨h1, e1⟩ := List.getElem?_eq_some_iff.mp a
  obtain ⟨h2, e2⟩ := List.getElem?_eq_some_iff.mp b
  exact (List.getElem_inj hN).mp (e1.trans e2.symm)
mutual
inductive VR (K : PySem.W.Frag) (ρ : List Addr) (H : Hp) : V → D → Prop
  | non : VR K ρ H .non .non
  | bl (b : Bool) : VR K ρ H (.bl b) (.bl b)
  | int (i : Int) : VR K ρ H (.int i) (.int i)
  | str (x : Str) : VR K ρ H (.str x) (.str x)
  | tup {a : Addr} {xs : List V} {ds : List D} : SqT K H a xs → VRs K ρ H xs ds → VR K ρ H (.ref a) (.tup ds)
  | frz {a : Addr} {xs : List V} {ds : List D} : FzL K H a xs → VRs K ρ H xs ds → VR K ρ H (.ref a) (.frz ds)
  | ref {n : Nat} {a : Addr} : ρ[n]? = some a → VR K ρ H (.ref a) (.ref n)
inductive VRs (K : PySem.W.Frag) (ρ : List Addr) (H : Hp) : List V → List D → Prop
  | nil : VRs K ρ H [] []
  | cons {v : V} {vs : List V} {d : D} {ds : List D} : VR K ρ H v d → VRs K ρ H vs ds → VRs K ρ H (v :: vs) (d :: ds)
end

/-! ### keys -/
mutual
/-- as a key of a dict, a member of a set -/
def D.key : D → Option NestedKey
  | .non => some .none
  | .bl b => some (.num (if b = true then 1 else 0))
  | .int i => some (.num i)
  | .str s => some (.text s)
  | .tup ds => (keysD ds).map .tup
  | .frz _ => none
  | .ref _ => none
def keysD : List D → Option (List NestedKey)
  | [] => some []
  | d :: ds => match D.key d, keysD ds with
    | some k, some ks => some (k :: ks)
    | _, _ => none
end
/-- what stands behind the whole run: the tables, the program, the classes -/
structure Tb where
  tabs : List (Addr × Str)
  P : Program
  w : World
  cls : Nat → Addr
/-- a dict with tuples as keys -/
def DctO (T : Tb) (a : Addr) (xs : List (NestedKey × Addr × Value)) : HO := .ext fun h => ∃ o es ep, h.get? a = some o ∧ o.ExactDict ∧ o.data = .dict es ep ∧ es.toList = xs.map (entryOfKey (nestedKind T.P T.w))
def nkey : Key → NestedKey
  | .inl i => .num i
  | .inr x => .text x
/-- what is known of a set's table -/
structure SetF (w : World) (L : List (Value × NestedKey)) (es : Array (Int × Value)) (t : SetTable) : Prop where
  rows : es.toList = L.map fun p => (p.2.hash w, p.1)
  nd : (L.map (·.2)).Nodup
  fits : t.fits es.size = true
  ris : Ris t.place.toList
  led : w.params.followText "set-order" = true ∨ t.led = true
  few : L.length < scanBound
  knd : (L ≠ [] ∧ ∀ p ∈ L, ∃ q : Key, p.2 = nkey q ∧ keyIs q p.1 = true) ∨ ((∀ p ∈ L, ∃ a, p.1 = .ref a) ∧ TabOk t (L.map fun p => p.2.hash w) ∧ L.length * 5 < t.mask * 3 ∧ L.length < 64)
def SetA (w : World) (h : Heap) (a : Addr) (L : List (Value × NestedKey)) : Prop := ∃ o es ep t, h.get? a = some o ∧ o.ExactSet ∧ o.data = .set es ep t ∧ SetF w L es t
def SetO (T : Tb) (a : Addr) (L : List (Value × NestedKey)) : HO := .ext fun h => SetA T.w h a L
section
variable (K : PySem.W.Frag) (ρ : List Addr) (H : Hp)
def KeyR (x : Key × V) (p : D × D) : Prop := VR K ρ H (kV x.1) p.1 ∧ VR K ρ H x.2 p.2
def EntR (x : NestedKey × Addr × Value) (p : D × D) : Prop := p.1.key = some x.1 ∧ x.1.depth ≤ 8 ∧ VR K ρ H (.ref x.2.1) p.1 ∧ ∃ v, RelV v x.2.2 ∧ VR K ρ H v p.2
def FldR (x : Str × V) (p : Str × D) : Prop := x.1 = p.1 ∧ VR K ρ H x.2 p.2
def ElR (x : Value × NestedKey) (d : D) : Prop := d.key = some x.2 ∧ x.2.depth ≤ 8 ∧ ∃ v, RelV v x.1 ∧ VR K ρ H v d
end
def CellR (K : PySem.W.Frag) (T : Tb) (ρ : List Addr) (H : Hp) (a : Addr) : Cell → Prop
  | .lst ds => ∃ xs, H a = some (.lst xs) ∧ VRs K ρ H xs ds
  | .dct kvs => (∃ xs, H a = some (.dK xs) ∧ Paired (KeyR K ρ H) xs kvs) ∨ (((a == sysModules) = false ∧ kvs ≠ []) ∧ ∃ xs, H a = some (DctO T a xs) ∧ (xs.map (·.1)).Nodup ∧ Paired (EntR K ρ H) xs kvs)
  | .set ds => ∃ L es, H a = some (SetO T a L) ∧ es.Perm ds ∧ Paired (ElR K ρ H) L es
  | .ins c fs => ∃ dx xs, H a = some (.ins (T.cls c) dx xs) ∧ H dx = some (.own a) ∧ Paired (FldR K ρ H) xs fs

/-- the tables of code objects stand, apart from the cells -/
def TabN (T : Tb) (ρ : List Addr) (H : Hp) : Prop := ∀ p ∈ T.tabs, p.1 ∉ ρ ∧ ∃ ps : Array Value, H p.1 = some (.tbl ps) ∧ TriplesOk ps.toList ∧
  ∀ (pos : Pos) (cv : Value), codeAmong pos ps.toList = some cv → ∃ c, cv = .ref c ∧ c ∉ ρ ∧ H c = some (LamX.CodeO c p.2)

structure Rep (K : PySem.W.Frag) (T : Tb) (ρ : List Addr) (st : Store) (H : Hp) : Prop where
  nd : ρ.Nodup
  len : ρ.length = st.length
  cell : ∀ (n : Nat) (a : Addr) (c : Cell), ρ[n]? = some a → st[n]? = some c → CellR K T ρ H a c
  tab : TabN T ρ H
structure Ext (ρ : List Addr) (H : Hp) (ρ' : List Addr) (H' : Hp) : Prop where
  pre : ∃ l, ρ' = ρ ++ l ∧ ∀ a ∈ l, H a = none
  dom : ∀ a, H' a = none → H a = none
  keep : ∀ a o, H a = some o → a ∉ ρ → (∀ ps, o ≠ .tbl ps) → H' a = some o
  tup : ∀ a xs, H a = some (.tup xs) → H' a = some (.tup xs)
  frz : ∀ a o u, H a = some (.frz o u) → H' a = some (.frz o u)
  own : ∀ a x, H a = some (.own x) → H' a = some (.own x)
/-- all that is no cell stays, tables too -/
def KeepA (ρ : List Addr) (H H' : Hp) : Prop := ∀ a o, H a = some o → a ∉ ρ → H' a = some o

section
variable {K : PySem.W.Frag} {T : Tb} {ρ ρ' ρ1 ρ2 l : List Addr} {H H' H1 H2 : Hp} {st st' : Store} {v : V} {d : D} {vs xs : List V} {ds : List D} {a p : Addr} {n : Nat} {c : Cell} {o : HO}

theorem Ext.refl (ρ : List Addr) (H : Hp) : Ext ρ H ρ H := ⟨⟨[], by simp, by simp⟩, fun _ h => h, fun _ _ h _ _ => h, fun _ _ h => h, fun _ _ _ h => h, fun _ _ h => h⟩
theorem Ext.trans (a : Ext ρ H ρ1 H1) (b : Ext ρ1 H1 ρ2 H2) : Ext ρ H ρ2 H2 := by
  obtain ⟨l, e, f⟩ := a.pre
  obtain ⟨m, e', f'⟩ := b.pre
  refine ⟨⟨l ++ m, by rw [e', e, List.append_assoc], fun c hc => ?_⟩, fun c h => a.dom c (b.dom c h), fun c o h hc ht => ?_, fun c xs h => b.tup c xs (a.tup c xs h), fun c o u h => b.frz c o u (a.frz c o u h), fun c x h => b.own c x (a.own c x h)⟩
  · rcases List.mem_append.mp hc with hc | hc
    · exact f c hc
    · exact a.dom c (f' c hc)
  · refine b.keep c o (a.keep c o h hc ht) (fun z => ?_) ht
    rw [e] at z
    rcases List.mem_append.mp z with z | z
    · exact hc z
    · rw [f c z] at h
      cases h
theorem Ext.sqT (e : Ext ρ H ρ' H') (h : SqT K H a xs) : SqT K H' a xs := by
  rcases h with (h | ⟨o, h⟩) | h
  · exact .inl (.inl (e.tup _ _ h))
  · exact .inl (.inr ⟨o, e.frz _ _ _ h⟩)
  · exact .inr h
theorem Ext.fzL (e : Ext ρ H ρ' H') (h : FzL K H a xs) : FzL K H' a xs := by
  rcases h with ⟨o, h⟩ | h
  · exact .inl ⟨o, e.frz _ _ _ h⟩
  · exact .inr h
theorem Ext.ix (e : Ext ρ H ρ' H') (h : ρ[n]? = some a) : ρ'[n]? = some a := by
  obtain ⟨l, e, _⟩ := e.pre
  rw [e, List.getElem?_append_left (List.getElem?_eq_some_iff.mp h).1]
  exact h
mutual
theorem VR.ext (e : Ext ρ H ρ' H') : ∀ {v : V} {d : D}, VR K ρ H v d → VR K ρ' H' v d
  | _, _, .non => .non
  | _, _, .bl b => .bl b
  | _, _, .int i => .int i
  | _, _, .str x => .str x
  | _, _, .tup h hs => .tup (e.sqT h) (VRs.ext e hs)
  | _, _, .frz h hs => .frz (e.fzL h) (VRs.ext e hs)
  | _, _, .ref h => .ref (e.ix h)
theorem VRs.ext (e : Ext ρ H ρ' H') : ∀ {vs : List V} {ds : List D}, VRs K ρ H vs ds → VRs K ρ' H' vs ds
  | _, _, .nil => .nil
  | _, _, .cons h hs => .cons (VR.ext e h) (VRs.ext e hs)
end
mutual
theorem VR.under : ∀ {v : V} {d : D}, VR K ρ H v d → d.under ρ.length = true
  | _, _, .non => rfl
  | _, _, .bl b => rfl
  | _, _, .int i => rfl
  | _, _, .str x => rfl
  | _, _, .tup h hs => VRs.unders hs
  | _, _, .frz h hs => VRs.unders hs
  | _, _, .ref h => decide_eq_true (List.getElem?_eq_some_iff.mp h).1
theorem VRs.unders : ∀ {vs : List V} {ds : List D}, VRs K ρ H vs ds → unders ds ρ.length = true
  | _, _, .nil => rfl
  | _, _, .cons h hs => by
    show (D.under _ _ && Pd.unders _ _) = true
    rw [VR.under h, VRs.unders hs]
    rfl
end
mutual
theorem VR.cut : ∀ {v : V} {d : D}, VR K (ρ ++ l) H v d → d.under ρ.length = true → VR K ρ H v d
  | _, _, .non, _ => .non
  | _, _, .bl b, _ => .bl b
  | _, _, .int i, _ => .int i
  | _, _, .str x, _ => .str x
  | _, _, .tup h hs, u => .tup h (VRs.cut hs u)
  | _, _, .frz h hs, u => .frz h (VRs.cut hs u)
  | _, _, .ref h, u => .ref (by rw [← List.getElem?_append_left (of_decide_eq_true u)]; exact h)
theorem VRs.cut : ∀ {vs : List V} {ds : List D}, VRs K (ρ ++ l) H vs ds → unders ds ρ.length = true → VRs K ρ H vs ds
  | _, _, .nil, _ => .nil
  | _, _, .cons (d := d) (ds := ds) h hs, u => by
    have u' : (d.under ρ.length && unders ds ρ.length) = true := u
    rw [Bool.and_eq_true] at u'
    exact .cons (VR.cut h u'.1) (VRs.cut hs u'.2)
end
mutual
theorem VR.grow : ∀ {v : V} {d : D}, VR K ρ H v d → VR K (ρ ++ l) H v d
  | _, _, .non => .non
  | _, _, .bl b => .bl b
  | _, _, .int i => .int i
  | _, _, .str x => .str x
  | _, _, .tup h hs => .tup h (VRs.grow hs)
  | _, _, .frz h hs => .frz h (VRs.grow hs)
  | _, _, .ref h => .ref (by rw [List.getElem?_append_left (List.getElem?_eq_some_iff.mp h).1]; exact h)
theorem VRs.grow : ∀ {vs : List V} {ds : List D}, VRs K ρ H vs ds → VRs K (ρ ++ l) H vs ds
  | _, _, .nil => .nil
  | _, _, .cons h hs => .cons (VR.grow h) (VRs.grow hs)
end
theorem VRs.length : ∀ {vs : List V} {ds : List D}, VRs K ρ H vs ds → vs.length = ds.length
  | _, _, .nil => rfl
  | _, _, .cons _ hs => by rw [List.length_cons, List.length_cons, VRs.length hs]
theorem VRs.get : ∀ {vs : List V} {ds : List D} {i : Nat} {d : D}, VRs K ρ H vs ds → ds[i]? = some d → ∃ v, vs[i]? = some v ∧ VR K ρ H v d
  | _, _, _, _, .nil, h => by simp at h
  | _, _, 0, _, .cons h hs, e => by
    simp at e
    subst e
    exact ⟨_, rfl, h⟩
  | _, _, i + 1, _, .cons h hs, e => by
    obtain ⟨v, h1, h2⟩ := VRs.get (i := i) hs (by simpa using e)
    exact ⟨v, by simpa using h1, h2⟩
theorem VRs.getV : ∀ {vs : List V} {ds : List D} {i : Nat} {v : V}, VRs K ρ H vs ds → vs[i]? = some v → ∃ d, ds[i]? = some d ∧ VR K ρ H v d
  | _, _, _, _, .nil, h => by simp at h
  | _, _, 0, _, .cons h hs, e => by
    simp at e
    subst e
    exact ⟨_, rfl, h⟩
  | _, _, i + 1, _, .cons h hs, e => by
    obtain ⟨v, h1, h2⟩ := VRs.getV (i := i) hs (by simpa using e)
    exact ⟨v, by simpa using h1, h2⟩
theorem VRs.append : ∀ {vs ws : List V} {ds es : List D}, VRs K ρ H vs ds → VRs K ρ H ws es → VRs K ρ H (vs ++ ws) (ds ++ es)
  | _, _, _, _, .nil, h => h
  | _, _, _, _, .cons h hs, h' => .cons h (VRs.append hs h')
theorem VRs.take (k : Nat) : ∀ {vs : List V} {ds : List D}, VRs K ρ H vs ds → VRs K ρ H (vs.take k) (ds.take k) := by
  induction k with
  | zero => intro vs ds h; exact .nil
  | succ k ih =>
    intro vs ds h
    cases h with
    | nil => exact .nil
    | cons h hs => exact .cons h (ih hs)
theorem VRs.drop (k : Nat) : ∀ {vs : List V} {ds : List D}, VRs K ρ H vs ds → VRs K ρ H (vs.drop k) (ds.drop k) := by
  induction k with
  | zero => intro vs ds h; exact h
  | succ k ih =>
    intro vs ds h
    cases h with
    | nil => exact .nil
    | cons h hs => exact ih hs
theorem VRs.set {x : V} {y : D} (r : VR K ρ H x y) : ∀ (k : Nat) {vs : List V} {ds : List D}, VRs K ρ H vs ds → VRs K ρ H (vs.set k x) (ds.set k y)
  | _, _, _, .nil => .nil
  | 0, _, _, .cons h hs => .cons r hs
  | k + 1, _, _, .cons h hs => .cons h (VRs.set r k hs)
theorem VRs.flat (k : Nat) (h : VRs K ρ H vs ds) : VRs K ρ H (List.replicate k vs).flatten (List.replicate k ds).flatten := by
  induction k with
  | zero => exact .nil
  | succ k ih =>
    rw [List.replicate_succ, List.replicate_succ, List.flatten_cons, List.flatten_cons]
    exact VRs.append h ih
theorem VRs.map_ints : ∀ {ns : List Int}, VRs K ρ H (ns.map V.int) (ns.map D.int)
  | [] => .nil
  | _ :: _ => .cons (.int _) VRs.map_ints

theorem pmap {α β : Type} {F G : α → β → Prop} : ∀ {l₁ : List α} {l₂ : List β}, Paired F l₁ l₂ → (∀ a b, b ∈ l₂ → F a b → G a b) → Paired G l₁ l₂
  | _, _, .nil, _ => .nil
  | _, _, .cons r t, f => .cons (f _ _ List.mem_cons_self r) (pmap t fun a b h => f a b (List.mem_cons_of_mem _ h))
theorem pall {α β : Type} {F : α → β → Prop} {p : β → Bool} : ∀ {l₁ : List α} {l₂ : List β}, Paired F l₁ l₂ → (∀ a b, F a b → p b = true) → l₂.all p = true
  | _, _, .nil, _ => rfl
  | _, _, .cons r t, f => by
    rw [List.all_cons, f _ _ r, pall t f]
    rfl
theorem unders_all : ∀ {ds : List D} {n : Nat}, unders ds n = ds.all fun d => d.under n
  | [], _ => rfl
  | d :: ds, n => by
    show (d.under n && unders ds n) = _
    rw [List.all_cons, unders_all]
theorem KeyR.ext (e : Ext ρ H ρ' H') {x : Key × V} {q : D × D} (h : KeyR K ρ H x q) : KeyR K ρ' H' x q := ⟨h.1.ext e, h.2.ext e⟩
theorem EntR.ext (e : Ext ρ H ρ' H') {x : NestedKey × Addr × Value} {q : D × D} (h : EntR K ρ H x q) : EntR K ρ' H' x q := by
  obtain ⟨h1, h2, h3, v, h4, h5⟩ := h
  exact ⟨h1, h2, h3.ext e, v, h4, h5.ext e⟩
theorem FldR.ext (e : Ext ρ H ρ' H') {x : Str × V} {q : Str × D} (h : FldR K ρ H x q) : FldR K ρ' H' x q := ⟨h.1, h.2.ext e⟩
theorem ElR.ext (e : Ext ρ H ρ' H') {x : Value × NestedKey} {q : D} (h : ElR K ρ H x q) : ElR K ρ' H' x q := by
  obtain ⟨h1, h2, v, h3, h4⟩ := h
  exact ⟨h1, h2, v, h3, h4.ext e⟩
theorem CellR.there (h : CellR K T ρ H a c) : ∃ o, H a = some o ∧ Mut (some o) := by
  cases c with
  | lst ds =>
    obtain ⟨xs, h, _⟩ := h
    exact ⟨_, h, trivial⟩
  | dct kvs =>
    rcases h with ⟨xs, h, _⟩ | ⟨_, xs, h, _⟩
    · exact ⟨_, h, trivial⟩
    · exact ⟨_, h, trivial⟩
  | set ds =>
    obtain ⟨L, es, h, _⟩ := h
    exact ⟨_, h, trivial⟩
  | ins c fs =>
    obtain ⟨dx, xs, h, _⟩ := h
    exact ⟨_, h, trivial⟩
theorem CellR.ext (e : Ext ρ H ρ' H') (k : H' a = H a) (h : CellR K T ρ H a c) : CellR K T ρ' H' a c := by
  cases c with
  | lst ds =>
    obtain ⟨xs, h, r⟩ := h
    exact ⟨xs, k.trans h, VRs.ext e r⟩
  | dct kvs =>
    rcases h with ⟨xs, h, r⟩ | ⟨z, xs, h, nd, r⟩
    · exact .inl ⟨xs, k.trans h, L2.Paired.mapP r fun _ _ q => q.ext e⟩
    · exact .inr ⟨z, xs, k.trans h, nd, L2.Paired.mapP r fun _ _ q => q.ext e⟩
  | set ds =>
    obtain ⟨L, es, h, pm, r⟩ := h
    exact ⟨L, es, k.trans h, pm, L2.Paired.mapP r fun _ _ q => q.ext e⟩
  | ins c fs =>
    obtain ⟨dx, xs, h, hd, r⟩ := h
    exact ⟨dx, xs, k.trans h, e.own _ _ hd, L2.Paired.mapP r fun _ _ q => q.ext e⟩
theorem CellR.under (h : CellR K T ρ H a c) : c.under ρ.length = true := by
  cases c with
  | lst ds =>
    obtain ⟨xs, h, r⟩ := h
    exact VRs.unders r
  | dct kvs =>
    rcases h with ⟨xs, h, r⟩ | ⟨z, xs, h, nd, r⟩
    · refine pall r fun x q h => ?_
      rw [Bool.and_eq_true]
      exact ⟨h.1.under, h.2.under⟩
    · refine pall r fun x q h => ?_
      obtain ⟨_, _, h3, v, _, h5⟩ := h
      rw [Bool.and_eq_true]
      exact ⟨h3.under, h5.under⟩
  | set ds =>
    obtain ⟨L, es, h, pm, r⟩ := h
    show unders ds _ = true
    rw [unders_all, List.all_eq_true]
    intro d hd
    have q := pall (p := fun d => d.under ρ.length) r fun x q h => by
      obtain ⟨_, _, v, _, h4⟩ := h
      exact h4.under
    exact List.all_eq_true.mp q d (pm.mem_iff.mpr hd)
  | ins c fs =>
    obtain ⟨dx, xs, h, hd, r⟩ := h
    exact pall r fun x q h => h.2.under
theorem CellR.cut (h : CellR K T (ρ ++ l) H a c) (u : c.under ρ.length = true) : CellR K T ρ H a c := by
  cases c with
  | lst ds =>
    obtain ⟨xs, h, r⟩ := h
    exact ⟨xs, h, VRs.cut r u⟩
  | dct kvs =>
    have u : (kvs.all fun p => p.1.under ρ.length && p.2.under ρ.length) = true := u
    have u1 : ∀ q ∈ kvs, q.1.under ρ.length = true ∧ q.2.under ρ.length = true := fun q hq => by
      have := List.all_eq_true.mp u q hq
      rwa [Bool.and_eq_true] at this
    rcases h with ⟨xs, h, r⟩ | ⟨z, xs, h, nd, r⟩
    · exact .inl ⟨xs, h, pmap r fun x q hq y => ⟨y.1.cut (u1 q hq).1, y.2.cut (u1 q hq).2⟩⟩
    · refine .inr ⟨z, xs, h, nd, pmap r fun x q hq y => ?_⟩
      obtain ⟨h1, h2, h3, v, h4, h5⟩ := y
      exact ⟨h1, h2, h3.cut (u1 q hq).1, v, h4, h5.cut (u1 q hq).2⟩
  | set ds =>
    obtain ⟨L, es, h, pm, r⟩ := h
    have u : unders ds ρ.length = true := u
    rw [unders_all, List.all_eq_true] at u
    refine ⟨L, es, h, pm, pmap r fun x d hd y => ?_⟩
    obtain ⟨h1, h2, v, h3, h4⟩ := y
    exact ⟨h1, h2, v, h3, h4.cut (u d (pm.mem_iff.mp hd))⟩
  | ins c fs =>
    obtain ⟨dx, xs, h, hd, r⟩ := h
    have u : (fs.all fun p => p.2.under ρ.length) = true := u
    exact ⟨dx, xs, h, hd, pmap r fun x q hq y => ⟨y.1, y.2.cut (List.all_eq_true.mp u q hq)⟩⟩
theorem CellR.grow (h : CellR K T ρ H a c) : CellR K T (ρ ++ l) H a c := by
  cases c with
  | lst ds =>
    obtain ⟨xs, h, r⟩ := h
    exact ⟨xs, h, VRs.grow r⟩
  | dct kvs =>
    rcases h with ⟨xs, h, r⟩ | ⟨z, xs, h, nd, r⟩
    · exact .inl ⟨xs, h, L2.Paired.mapP r fun x q y => ⟨y.1.grow, y.2.grow⟩⟩
    · refine .inr ⟨z, xs, h, nd, L2.Paired.mapP r fun x q y => ?_⟩
      obtain ⟨h1, h2, h3, v, h4, h5⟩ := y
      exact ⟨h1, h2, h3.grow, v, h4, h5.grow⟩
  | set ds =>
    obtain ⟨L, es, h, pm, r⟩ := h
    refine ⟨L, es, h, pm, L2.Paired.mapP r fun x d y => ?_⟩
    obtain ⟨h1, h2, v, h3, h4⟩ := y
    exact ⟨h1, h2, v, h3, h4.grow⟩
  | ins c fs =>
    obtain ⟨dx, xs, h, hd, r⟩ := h
    exact ⟨dx, xs, h, hd, L2.Paired.mapP r fun x q y => ⟨y.1, y.2.grow⟩⟩
theorem Rep.at (R : Rep K T ρ st H) (h : ρ[n]? = some a) : ∃ c, st[n]? = some c ∧ CellR K T ρ H a c := by
  have hn : n < st.length := by rw [← R.len]; exact (List.getElem?_eq_some_iff.mp h).1
  exact ⟨_, List.getElem?_eq_getElem hn, R.cell n a _ h (List.getElem?_eq_getElem hn)⟩
theorem Rep.mem (R : Rep K T ρ st H) (h : a ∈ ρ) : ∃ o, H a = some o ∧ Mut (some o) := by
  obtain ⟨n, hn, e⟩ := List.getElem_of_mem h
  obtain ⟨c, _, hc⟩ := R.at (n := n) (a := a) (by rw [List.getElem?_eq_getElem hn, e])
  exact hc.there
theorem Rep.no (R : Rep K T ρ st H) (h : H a = none) : a ∉ ρ := fun z => by
  obtain ⟨o, e, _⟩ := R.mem z
  rw [h] at e
  cases e
theorem Rep.noM (R : Rep K T ρ st H) (h : H a = some o) (m : ¬ Mut (some o)) : a ∉ ρ := fun z => by
  obtain ⟨o', e, m'⟩ := R.mem z
  rw [h] at e
  cases e
  exact m m'
theorem Rep.lst {m : Nat} (R : Rep K T ρ st H) (h : ρ[m]? = some a) (e : lstAt st m = some ds) : ∃ xs, H a = some (.lst xs) ∧ VRs K ρ H xs ds := by
  unfold lstAt at e
  obtain ⟨c, hc, r⟩ := R.at h
  rw [hc] at e
  cases c with
  | lst ds' =>
    cases e
    exact r
  | _ => cases e
theorem lstAt_some {m : Nat} (e : lstAt st m = some ds) : st[m]? = some (.lst ds) := by
  unfold lstAt at e
  split at e
  · cases e
    assumption
  · cases e

theorem TabN.keep (t : TabN T ρ H) (k : KeepA ρ H H') (f : ∀ a ∈ l, H a = none) : TabN T (ρ ++ l) H' := fun p hp => by
  obtain ⟨h1, ps, h2, h3, h4⟩ := t p hp
  refine ⟨fun z => ?_, ps, k _ _ h2 h1, h3, fun pos cv hc => ?_⟩
  · rcases List.mem_append.mp z with z | z
    · exact h1 z
    · rw [f _ z] at h2
      cases h2
  · obtain ⟨c, e1, e2, e3⟩ := h4 pos cv hc
    refine ⟨c, e1, fun z => ?_, k _ _ e3 e2⟩
    rcases List.mem_append.mp z with z | z
    · exact e2 z
    · rw [f _ z] at e3
      cases e3
/-- a new object that is no cell -/
theorem Ext.new (h : H p = none) : Ext ρ H ρ (upd H p o) := by
  have ne : ∀ {b u}, H b = some u → b ≠ p := fun e => ne_of_none e h
  refine ⟨⟨[], by simp, by simp⟩, fun b hb => ?_, fun b u e _ _ => by rw [upd_ne (ne e)]; exact e, fun b u e => by rw [upd_ne (ne e)]; exact e, fun b u w e => by rw [upd_ne (ne e)]; exact e, fun b u e => by rw [upd_ne (ne e)]; exact e⟩
  cases q : H b with
  | none => rfl
  | some u =>
    rw [upd_ne (ne q), q] at hb
    cases hb
theorem KeepA.new (h : H p = none) : KeepA ρ H (upd H p o) := fun b u e _ => by rw [upd_ne (ne_of_none e h)]; exact e
theorem Rep.new (R : Rep K T ρ st H) (h : H p = none) : Rep K T ρ st (upd H p o) := by
  have e : Ext ρ H ρ (upd H p o) := Ext.new h
  refine ⟨R.nd, R.len, fun n a c h1 h2 => ?_, ?_⟩
  · have r := R.cell n a c h1 h2
    obtain ⟨u, hu, _⟩ := r.there
    exact r.ext e (upd_ne (ne_of_none hu h))
  · have := R.tab.keep (l := []) (KeepA.new (o := o) h) (by simp)
    simpa using this
/-- a new cell -/
theorem Ext.alloc (h : H p = none) : Ext ρ H (ρ ++ [p]) (upd H p o) := by
  have e : Ext ρ H ρ (upd H p o) := Ext.new h
  exact ⟨⟨[p], rfl, by simpa using h⟩, e.dom, e.keep, e.tup, e.frz, e.own⟩
theorem Rep.alloc (R : Rep K T ρ st H) (h : H p = none) (r : CellR K T (ρ ++ [p]) (upd H p o) p c) : Rep K T (ρ ++ [p]) (st ++ [c]) (upd H p o) := by
  have e : Ext ρ H (ρ ++ [p]) (upd H p o) := Ext.alloc h
  have np := R.no h
  refine ⟨?_, by rw [List.length_append, List.length_append, R.len]; rfl, fun n a c' h1 h2 => ?_, R.tab.keep (KeepA.new h) (by simpa using h)⟩
  · rw [List.nodup_append]
    refine ⟨R.nd, by simp, fun x hx y hy e => ?_⟩
    rw [List.mem_singleton] at hy
    rw [hy] at e
    rw [e] at hx
    exact np hx
  · by_cases hn : n < ρ.length
    · rw [List.getElem?_append_left hn] at h1
      rw [List.getElem?_append_left (by rw [← R.len]; exact hn)] at h2
      have r' := R.cell n a c' h1 h2
      obtain ⟨u, hu, _⟩ := r'.there
      exact r'.ext e (upd_ne (ne_of_none hu h))
    · rw [List.getElem?_append_right (by omega)] at h1
      rw [List.getElem?_append_right (by rw [← R.len]; omega), ← R.len] at h2
      have h0 : n - ρ.length = 0 := by
        have := (List.getElem?_eq_some_iff.mp h1).1
        simp at this
        omega
      rw [h0] at h1 h2
      simp at h1 h2
      subst h1 h2
      exact r
/-- a cell is written -/
theorem Ext.write (R : Rep K T ρ st H) (h : a ∈ ρ) : Ext ρ H ρ (upd H a o) := by
  obtain ⟨u, hu, m⟩ := R.mem h
  refine ⟨⟨[], by simp, by simp⟩, fun b hb => ?_, fun b w e hb _ => ?_, fun b xs e => ?_, fun b w z e => ?_, fun b x e => ?_⟩
  · by_cases q : b = a
    · rw [q, upd_same] at hb
      cases hb
    · rw [upd_ne q] at hb
      exact hb
  · rw [upd_ne (fun q => hb (by rw [q]; exact h))]
    exact e
  · rw [upd_ne (fun q => by rw [q, hu] at e; cases e; exact m)]
    exact e
  · rw [upd_ne (fun q => by rw [q, hu] at e; cases e; exact m)]
    exact e
  · rw [upd_ne (fun q => by rw [q, hu] at e; cases e; exact m)]
    exact e
theorem Rep.write (R : Rep K T ρ st H) (h : ρ[n]? = some a) (r : CellR K T ρ (upd H a o) a c) : Rep K T ρ (st.set n c) (upd H a o) := by
  have ha : a ∈ ρ := List.mem_of_getElem? h
  have e : Ext ρ H ρ (upd H a o) := Ext.write R ha
  refine ⟨R.nd, by rw [List.length_set]; exact R.len, fun m b c' h1 h2 => ?_, ?_⟩
  · by_cases q : m = n
    · subst q
      rw [h] at h1
      cases h1
      rw [List.getElem?_set_self (by rw [← R.len]; exact (List.getElem?_eq_some_iff.mp h).1)] at h2
      cases h2
      exact r
    · rw [List.getElem?_set_ne (Ne.symm q)] at h2
      have nb : b ≠ a := fun z => by
        subst z
        exact q (ix_one R.nd h1 h)
      exact (R.cell m b c' h1 h2).ext e (upd_ne nb)
  · have k : KeepA ρ H (upd H a o) := fun b u e hb => by
      rw [upd_ne (fun z => hb (by rw [z]; exact ha))]
      exact e
    simpa using R.tab.keep (l := []) k (by simp)
end

/-! ### the same -/
mutual
theorem D.same_eq : ∀ a b : D, a.same b = true → a = b
  | .non, b, h => by cases b <;> first | rfl | cases h
  | .bl a, b, h => by
    cases b with
    | bl b =>
      have e : (a == b) = true := h
      rw [eq_of_beq e]
    | _ => cases h
  | .int a, b, h => by
    cases b with
    | int b => rw [of_decide_eq_true h]
    | _ => cases h
  | .str a, b, h => by
    cases b with
    | str b => rw [of_decide_eq_true h]
    | _ => cases h
  | .tup a, b, h => by
    cases b with
    | tup b => rw [sames_eq a b h]
    | _ => cases h
  | .frz a, b, h => by
    cases b with
    | frz b => rw [sames_eq a b h]
    | _ => cases h
  | .ref a, b, h => by
    cases b with
    | ref b => rw [of_decide_eq_true h]
    | _ => cases h
theorem sames_eq : ∀ a b : List D, sames a b = true → a = b
  | [], b, h => by cases b <;> first | rfl | cases h
  | x :: xs, b, h => by
    cases b with
    | nil => cases h
    | cons y ys =>
      have h' : (x.same y && sames xs ys) = true := h
      rw [Bool.and_eq_true] at h'
      rw [D.same_eq x y h'.1, sames_eq xs ys h'.2]
end
mutual
theorem D.same_refl : ∀ a : D, a.same a = true
  | .non => rfl
  | .bl a => by simp [D.same]
  | .int a => by simp [D.same]
  | .str a => by simp [D.same]
  | .tup a => sames_refl a
  | .frz a => sames_refl a
  | .ref a => by simp [D.same]
theorem sames_refl : ∀ a : List D, sames a a = true
  | [] => rfl
  | x :: xs => by
    show (x.same x && sames xs xs) = true
    rw [D.same_refl x, sames_refl xs]
    rfl
end
theorem pairs_eq {α : Type} : ∀ {a b : List (α × D)}, a.map (·.1) = b.map (·.1) → a.map (·.2) = b.map (·.2) → a = b
  | [], b, h, _ => by
    cases b with
    | nil => rfl
    | cons _ _ => simp at h
  | (x, y) :: a, b, h1, h2 => by
    cases b with
    | nil => simp at h1
    | cons z b =>
      obtain ⟨u, w⟩ := z
      simp at h1 h2
      rw [h1.1, h2.1, pairs_eq h1.2 h2.2]
theorem Cell.same_eq {a b : Cell} (h : a.same b = true) : a = b := by
  cases a with
  | lst a =>
    cases b with
    | lst b => rw [sames_eq a b h]
    | _ => cases h
  | dct a =>
    cases b with
    | dct b =>
      have h' : (sames (a.map (·.1)) (b.map (·.1)) && sames (a.map (·.2)) (b.map (·.2))) = true := h
      rw [Bool.and_eq_true] at h'
      rw [pairs_eq (sames_eq _ _ h'.1) (sames_eq _ _ h'.2)]
    | _ => cases h
  | set a =>
    cases b with
    | set b => rw [sames_eq a b h]
    | _ => cases h
  | ins c a =>
    cases b with
    | ins d b =>
      have h' : (decide (c = d) && decide (a.map (·.1) = b.map (·.1)) && sames (a.map (·.2)) (b.map (·.2))) = true := h
      rw [Bool.and_eq_true, Bool.and_eq_true, decide_eq_true_eq, decide_eq_true_eq] at h'
      rw [h'.1.1, pairs_eq h'.1.2 (sames_eq _ _ h'.2)]
    | _ => cases h
theorem Cell.same_refl : ∀ c : Cell, c.same c = true
  | .lst a => sames_refl a
  | .dct a => by
    show (sames _ _ && sames _ _) = true
    rw [sames_refl, sames_refl]
    rfl
  | .set a => sames_refl a
  | .ins c a => by
    show (decide _ && decide _ && sames _ _) = true
    rw [sames_refl, decide_eq_true rfl, decide_eq_true rfl]
    rfl

/-! ### what is forgotten -/
section
variable {K : PySem.W.Frag} {T : Tb} {ρ ρ' ρ1 ρ2 l : List Addr} {H H' H1 H2 : Hp} {st st' : Store} {v : V} {d : D} {vs xs : List V} {ds : List D} {a p : Addr} {n : Nat} {c : Cell} {o : HO}
theorem older_at {k : Nat} : ∀ {xs ys : Store}, older k xs ys = true → ∀ (n : Nat) (c c' : Cell), xs[n]? = some c → ys[n]? = some c' → c' = c ∨ c'.under k = true
  | [], _, _, _, _, _, h, _ => by simp at h
  | x :: xs, [], h, _, _, _, _, _ => by cases h
  | x :: xs, y :: ys, h, n, c, c', h1, h2 => by
    have h' : ((y.same x || y.under k) && older k xs ys) = true := h
    rw [Bool.and_eq_true, Bool.or_eq_true] at h'
    cases n with
    | zero =>
      simp at h1 h2
      subst h1 h2
      exact h'.1.imp (fun z => Cell.same_eq z) id
    | succ n => exact older_at h'.2 n c c' (by simpa using h1) (by simpa using h2)
theorem TabN.cut (t : TabN T (ρ ++ l) H) : TabN T ρ H := fun p hp => by
  obtain ⟨h1, ps, h2, h3, h4⟩ := t p hp
  refine ⟨fun z => h1 (List.mem_append_left _ z), ps, h2, h3, fun pos cv hc => ?_⟩
  obtain ⟨c, e1, e2, e3⟩ := h4 pos cv hc
  exact ⟨c, e1, fun z => e2 (List.mem_append_left _ z), e3⟩
theorem Rep.cutTo (R : Rep K T ρ st H) (R' : Rep K T (ρ ++ l) st' H') (o : older st.length st st' = true) : Rep K T ρ (st'.take st.length) H' := by
  have hl : st.length ≤ st'.length := by
    have := R'.len
    rw [List.length_append, R.len] at this
    omega
  refine ⟨(List.nodup_append.mp R'.nd).1, by rw [R.len, List.length_take, Nat.min_eq_left hl], fun n a c h1 h2 => ?_, R'.tab.cut⟩
  have hn : n < st.length := by rw [← R.len]; exact (List.getElem?_eq_some_iff.mp h1).1
  rw [List.getElem?_take_of_lt hn] at h2
  have r' := R'.cell n a c (by rw [List.getElem?_append_left (List.getElem?_eq_some_iff.mp h1).1]; exact h1) h2
  refine r'.cut ?_
  obtain ⟨c0, h0, r0⟩ := R.at h1
  rcases older_at o n c0 c h0 h2 with e | e
  · subst e
    exact r0.under
  · rw [R.len]
    exact e
theorem Ext.cutTo (e : Ext ρ H (ρ ++ l) H') : Ext ρ H ρ H' := ⟨⟨[], by simp, by simp⟩, e.dom, e.keep, e.tup, e.frz, e.own⟩
theorem Rep.moved {m : Nat} {c : Cell} (R : Rep K T ρ st H) (R' : Rep K T (ρ ++ l) st' H') (o : older st.length st st' = true) (hm : (ρ ++ l)[m]? = some a) (hc : st'[m]? = some c) (u : c.under st.length = true) (na : a ∉ ρ) :
    Rep K T (ρ ++ [a]) (st'.take st.length ++ [c]) H' := by
  have R0 := R.cutTo R' o
  have al : a ∈ l := by
    rcases List.mem_append.mp (List.mem_of_getElem? hm) with z | z
    · exact absurd z na
    · exact z
  refine ⟨?_, by rw [List.length_append, List.length_append, R0.len]; rfl, fun n b c' h1 h2 => ?_, fun p hp => ?_⟩
  · rw [List.nodup_append]
    refine ⟨R0.nd, by simp, fun x hx y hy e => ?_⟩
    rw [List.mem_singleton] at hy
    rw [hy] at e
    rw [e] at hx
    exact na hx
  · by_cases hn : n < ρ.length
    · rw [List.getElem?_append_left hn] at h1
      rw [List.getElem?_append_left (by rw [← R0.len]; exact hn)] at h2
      exact (R0.cell n b c' h1 h2).grow
    · rw [List.getElem?_append_right (by omega)] at h1
      rw [List.getElem?_append_right (by rw [← R0.len]; omega), ← R0.len] at h2
      have h0 : n - ρ.length = 0 := by
        have := (List.getElem?_eq_some_iff.mp h1).1
        simp at this
        omega
      rw [h0] at h1 h2
      simp at h1 h2
      subst h1 h2
      exact ((R'.cell m a c hm hc).cut (by rw [R.len]; exact u)).grow
  · obtain ⟨h1, ps, h2, h3, h4⟩ := R'.tab p hp
    have sub : ∀ b, b ∈ ρ ++ [a] → b ∈ ρ ++ l := fun b hb => by
      rcases List.mem_append.mp hb with z | z
      · exact List.mem_append_left _ z
      · rw [List.mem_singleton.mp z]
        exact List.mem_append_right _ al
    refine ⟨fun z => h1 (sub _ z), ps, h2, h3, fun pos cv hc => ?_⟩
    obtain ⟨c, e1, e2, e3⟩ := h4 pos cv hc
    exact ⟨c, e1, fun z => e2 (sub _ z), e3⟩
theorem Ext.moved (e : Ext ρ H (ρ ++ l) H') (al : a ∈ l) : Ext ρ H (ρ ++ [a]) H' := by
  obtain ⟨l', e1, e2⟩ := e.pre
  have : l = l' := List.append_cancel_left e1
  subst this
  exact ⟨⟨[a], rfl, fun b hb => by rw [List.mem_singleton.mp hb]; exact e2 a al⟩, e.dom, e.keep, e.tup, e.frz, e.own⟩
/-- behind a call, what is not handed back forgotten -/
theorem gc_ok {st₁ : Store} {d' : D} {H0 : Hp} {ρ0 : List Addr} (R : Rep K T ρ st H) (e : Ext ρ H ρ' H') (R' : Rep K T ρ' st' H') (r : VR K ρ' H' v d) (h : gc st d st' = .ok d' st₁) :
    ∃ ρ1, Ext ρ H ρ1 H' ∧ Rep K T ρ1 st₁ H' ∧ VR K ρ1 H' v d' := by
  obtain ⟨l, e1, f⟩ := id e.pre
  subst e1
  unfold gc at h
  by_cases ho : older st.length st st' = true
  · rw [if_pos ho] at h
    by_cases hu : d.under st.length = true
    · rw [if_pos hu] at h
      cases h
      exact ⟨ρ, e.cutTo, R.cutTo R' ho, r.cut (by rw [R.len]; exact hu)⟩
    · rw [if_neg hu] at h
      cases d with
      | ref m =>
        cases r with
        | ref hm =>
          rename_i a
          obtain ⟨c, hc, _⟩ := R'.at hm
          simp only [hc] at h
          by_cases hcu : c.under st.length = true
          · rw [if_pos hcu] at h
            cases h
            have hmlt : ρ.length ≤ m := by
              have : ¬ m < st.length := fun z => hu (decide_eq_true z)
              rw [R.len]
              omega
            have hm' : l[m - ρ.length]? = some a := by
              rw [List.getElem?_append_right hmlt] at hm
              exact hm
            have al : a ∈ l := List.mem_of_getElem? hm'
            have na : a ∉ ρ := R.no (f a al)
            refine ⟨ρ ++ [a], e.moved al, R.moved R' ho hm hc hcu na, .ref ?_⟩
            rw [← R.len, List.getElem?_append_right (Nat.le_refl _), Nat.sub_self]
            rfl
          · rw [if_neg hcu] at h
            cases h
            exact ⟨_, e, R', .ref hm⟩
      | _ =>
        cases h
        exact ⟨_, e, R', r⟩
  · rw [if_neg ho] at h
    cases h
    exact ⟨_, e, R', r⟩
theorem gc_is (st : Store) (d : D) (st' : Store) : ∃ d' st₁, gc st d st' = .ok d' st₁ := by
  unfold gc
  split
  · split
    · exact ⟨_, _, rfl⟩
    · split
      · split
        · split <;> exact ⟨_, _, rfl⟩
        · exact ⟨_, _, rfl⟩
      · exact ⟨_, _, rfl⟩
  · exact ⟨_, _, rfl⟩
end

/-! ### the slots -/
def EnvR (K : PySem.W.Frag) (ρ : List Addr) (H : Hp) (σ : L2.St) (env : Env) : Prop := σ.length = env.length ∧ ∀ (i : Nat) (d : D), env[i]? = some (some d) → ∃ v, σ[i]? = some (some v) ∧ VR K ρ H v d
section
variable {K : PySem.W.Frag} {T : Tb} {ρ ρ' : List Addr} {H H' : Hp} {st : Store} {σ : L2.St} {env : Env} {v : V} {d : D}
theorem EnvR.ext (e : Ext ρ H ρ' H') (h : EnvR K ρ H σ env) : EnvR K ρ' H' σ env := ⟨h.1, fun i d hi => by
  obtain ⟨v, h1, h2⟩ := h.2 i d hi
  exact ⟨v, h1, h2.ext e⟩⟩
theorem EnvR.set (h : EnvR K ρ H σ env) (i : Nat) (r : VR K ρ H v d) : EnvR K ρ H (σ.set i (some v)) (set1 env i d) := by
  refine ⟨by unfold set1; rw [List.length_set, List.length_set]; exact h.1, fun j d' hj => ?_⟩
  unfold set1 at hj
  by_cases hij : i = j
  · subst hij
    by_cases hl : i < env.length
    · rw [List.getElem?_set_self hl] at hj
      cases hj
      exact ⟨v, by rw [List.getElem?_set_self (by rw [h.1]; exact hl)], r⟩
    · rw [List.getElem?_eq_none (by rw [List.length_set]; omega)] at hj
      cases hj
  · rw [List.getElem?_set_ne hij] at hj
    rw [List.getElem?_set_ne hij]
    exact h.2 j d' hj
theorem wipeE_get {i : Nat} : ∀ {vs : List Nat} {env : Env}, (wipeE env vs)[i]? = some (some d) → env[i]? = some (some d) ∧ i ∉ vs
  | [], env, h => ⟨h, by simp⟩
  | v :: vs, env, h => by
    unfold wipeE at h
    by_cases hi : v = i
    · subst hi
      by_cases hl : v < (wipeE env vs).length
      · rw [List.getElem?_set_self hl] at h
        cases h
      · rw [List.getElem?_eq_none (by rw [List.length_set]; omega)] at h
        cases h
    · rw [List.getElem?_set_ne hi] at h
      obtain ⟨h1, h2⟩ := wipeE_get h
      exact ⟨h1, by simp only [List.mem_cons, not_or]; exact ⟨fun z => hi z.symm, h2⟩⟩
theorem wipeE_len (env : Env) : ∀ vs : List Nat, (wipeE env vs).length = env.length
  | [] => rfl
  | v :: vs => by
    show ((wipeE env vs).set v none).length = env.length
    rw [List.length_set, wipeE_len env vs]
theorem EnvR.forget (h : EnvR K ρ H σ env) (vs : List Nat) : EnvR K ρ H σ (wipeE env vs) := ⟨by rw [wipeE_len]; exact h.1, fun i d hi => h.2 i d (wipeE_get hi).1⟩
theorem EnvR.wipe (h : EnvR K ρ H σ env) (vs : List Nat) : EnvR K ρ H (L2.wipe σ vs) (wipeE env vs) := by
  refine ⟨by rw [wipeE_len, wipe_length]; exact h.1, fun i d hi => ?_⟩
  obtain ⟨h1, h2⟩ := wipeE_get hi
  obtain ⟨v, e, r⟩ := h.2 i d h1
  exact ⟨v, by rw [wipe_out h2]; exact e, r⟩
theorem EnvR.start {vs : List V} {ds : List D} {N : List Str} (h : VRs K ρ H vs ds) : EnvR K ρ H (L2.start N vs) (startE N.length ds) := by
  have hl := h.length
  refine ⟨by unfold L2.start startE; simp [hl], fun i d hi => ?_⟩
  unfold startE at hi
  unfold L2.start
  by_cases hlt : i < ds.length
  · rw [List.getElem?_append_left (by simpa using hlt), List.getElem?_map] at hi
    cases q : ds[i]? with
    | none =>
      rw [q] at hi
      cases hi
    | some x =>
      rw [q] at hi
      cases hi
      obtain ⟨v, e, r⟩ := h.get q
      refine ⟨v, ?_, r⟩
      rw [List.getElem?_append_left (by simpa [hl] using hlt), List.getElem?_map, e]
      rfl
  · rw [List.getElem?_append_right (by simpa using hlt)] at hi
    have := List.mem_of_getElem? hi
    rw [List.mem_replicate] at this
    cases this.2
end

/-! ### what is asked of a reading -/
/-- the own exceptions: class by class where the class stands, the name of the one attribute -/
structure Sig where
  T : Tb
  exc : Nat → Option (Addr × Option Str)
  names : List (Str × Nat × Nat)
  free : List Str
  consts : List (Str × D)
  clsN : List (Str × Nat)
  mks : List (Nat × Nat × Nat)
  meths : List (Nat × Str × Nat × Nat)
  flds : List (Nat × Str)
def XR (K : PySem.W.Frag) (g : Sig) (ρ : List Addr) (H : Hp) (c : Nat) (d : D) (cls : Value) (dx : Option Addr) : Prop :=
  ∃ C fo, g.exc c = some (C, fo) ∧ cls = .ref C ∧ match fo with
    | none => dx = none
    | some f => ∃ x v, dx = some x ∧ H x = some (.xd [(f, v)]) ∧ VR K ρ H v d
section
variable (K : PySem.W.Frag) (g : Sig)
def Post {α β : Type} (rel : List Addr → Hp → β → α → Prop) (ρ : List Addr) (H : Hp) (E : XK) (Q : β → Hp → Prop) : R α → Prop
  | .ok a st' => ∀ (b : β) (H' : Hp) (ρ' : List Addr), Ext ρ H ρ' H' → Rep K g.T ρ' st' H' → rel ρ' H' b a → Q b H'
  | .exc c d st' => ∀ (cls : Value) (dx : Option Addr) (H' : Hp) (ρ' : List Addr), Ext ρ H ρ' H' → Rep K g.T ρ' st' H' → XR K g ρ' H' c d cls dx → E cls dx H'
  | .err => False
abbrev relD : List Addr → Hp → V → D → Prop := fun ρ H v d => VR K ρ H v d
abbrev relDs : List Addr → Hp → List V → List D → Prop := fun ρ H v d => VRs K ρ H v d
abbrev relE {α : Type} : List Addr → Hp → α → α → Prop := fun _ _ a b => a = b
def tX {α β : Type} (rel : List Addr → Hp → β → α → Prop) (W : WX) (F : Env → Store → R α) : L2.St → Hp → (β → Hp → Prop) → Prop := fun σ H Q =>
  ∃ ρ env st, Rep K g.T ρ st H ∧ EnvR K ρ H σ env ∧ Post K g rel ρ H (fun cls dx H' => W cls dx σ H') Q (F env st)
abbrev tE (W : WX) (F : Env → Store → R D) : TE := tX K g (relD K) W F
abbrev tT (W : WX) (F : Env → Store → R Bool) : TT := tX K g relE W F
abbrev tA (W : WX) (F : Env → Store → R (List D)) : TA := tX K g (relDs K) W F
end
section
variable {K : PySem.W.Frag} {g : Sig} {α β γ δ : Type} {rel : List Addr → Hp → β → α → Prop} {rel' : List Addr → Hp → δ → γ → Prop} {ρ ρ' : List Addr} {H H' : Hp} {E : XK} {W : WX} {σ : L2.St} {env : Env} {st st' : Store}
theorem Post.ext {Q : β → Hp → Prop} {r : R α} (e : Ext ρ H ρ' H') (h : Post K g rel ρ H E Q r) : Post K g rel ρ' H' E Q r := by
  cases r with
  | ok a s => exact fun b H2 ρ2 e2 => h b H2 ρ2 (e.trans e2)
  | exc c d s => exact fun cls dx H2 ρ2 e2 => h cls dx H2 ρ2 (e.trans e2)
  | err => exact h
/-- one thing behind another: the first one's reading with what the second one's asks -/
theorem Post.bind {Q : δ → Hp → Prop} {r : R α} {f : α → Store → R γ} (h : Post K g rel' ρ H E Q (r.bind f)) :
    Post K g rel ρ H E (fun b H1 => ∃ a st1 ρ1, r = .ok a st1 ∧ Ext ρ H ρ1 H1 ∧ Rep K g.T ρ1 st1 H1 ∧ rel ρ1 H1 b a ∧ Post K g rel' ρ1 H1 E Q (f a st1)) r := by
  cases r with
  | ok a s => exact fun b H1 ρ1 e R r => ⟨a, s, ρ1, rfl, e, R, r, Post.ext e h⟩
  | exc c d s => exact h
  | err => exact h
theorem Post.ok {Q : β → Hp → Prop} {a : α} {b : β} (h : Post K g rel ρ H E Q (.ok a st)) (R : Rep K g.T ρ st H) (r : rel ρ H b a) : Q b H := h b H ρ (Ext.refl _ _) R r
theorem Post.of {Q : β → Hp → Prop} {o : Option α} (h : Post K g rel ρ H E Q (R.of o st)) : ∃ a, o = some a ∧ Post K g rel ρ H E Q (.ok a st) := by
  cases o with
  | none => exact h.elim
  | some a => exact ⟨a, rfl, h⟩
end
end Pd
end
section
set_option Elab.async false
set_option linter.all false
set_option maxRecDepth 100000
set_option autoImplicit false
/-! The operations over plain data: what the layer's rules give. -/
namespace Pd
open PySem PySem.Spec PyProof.Rows L2

/-! ### plain data as PyData -/
mutual
def toPy : D → PyData
  | .non => .none
  | .bl b => .bool b
  | .int i => .int i
  | .str s => .str s
  | .tup ds => .tuple (toPys ds)
  | .frz ds => .list (toPys ds)
  | .ref _ => .none
def toPys : List D → List PyData
  | [] => []
  | d :: ds => toPy d :: toPys ds
end
theorem fits_cons {d : D} {ds : List D} {k : Nat} (h : fits (d :: ds) k = true) : d.fit k = true ∧ fits ds k = true := by
  have h' : (d.fit k && fits ds k) = true := h
  rwa [Bool.and_eq_true] at h'
mutual
theorem lay_of : ∀ (d : D) (k : Nat), d.fit k = true → (toPy d).canLay0 = true ∧ (toPy d).depth ≤ k
  | .non, k, _ => ⟨by simp [toPy, PyData.canLay0], by simp [toPy, PyData.depth]⟩
  | .bl _, k, _ => ⟨by simp [toPy, PyData.canLay0], by simp [toPy, PyData.depth]⟩
  | .int _, k, _ => ⟨by simp [toPy, PyData.canLay0], by simp [toPy, PyData.depth]⟩
  | .str s, k, h => ⟨by simp only [toPy, PyData.canLay0]; exact h, by simp [toPy, PyData.depth]⟩
  | .tup ds, 0, h => by cases h
  | .tup ds, k + 1, h => by
    obtain ⟨a, b⟩ := lays_of ds k h
    exact ⟨by simp only [toPy, PyData.canLay0]; exact a, by simp only [toPy, PyData.depth]; omega⟩
  | .frz ds, 0, h => by cases h
  | .frz ds, k + 1, h => by
    obtain ⟨a, b⟩ := lays_of ds k h
    exact ⟨by simp only [toPy, PyData.canLay0]; exact a, by simp only [toPy, PyData.depth]; omega⟩
  | .ref _, k, h => by cases h
theorem lays_of : ∀ (ds : List D) (k : Nat), fits ds k = true → PyData.canLayAll0 (toPys ds) = true ∧ PyData.depthAll (toPys ds) ≤ k
  | [], k, _ => ⟨by simp [toPys, PyData.canLayAll0], by simp [toPys, PyData.depthAll]⟩
  | d :: ds, k, h => by
    obtain ⟨h1, h2⟩ := fits_cons h
    obtain ⟨a1, b1⟩ := lay_of d k h1
    obtain ⟨a2, b2⟩ := lays_of ds k h2
    refine ⟨?_, ?_⟩
    · simp only [toPys, PyData.canLayAll0, Bool.and_eq_true]
      exact ⟨a1, a2⟩
    · simp only [toPys, PyData.depthAll]
      omega
end
theorem shaped_of {d : D} {k : Nat} (h : d.fit k = true) (hk : k ≤ 64) : SeqAt.shaped (toPy d) = true := by
  obtain ⟨a, b⟩ := lay_of d k h
  unfold SeqAt.shaped
  rw [a, Bool.true_and]
  exact decide_eq_true (by omega)
mutual
theorem eq_of : ∀ (a b : D) (k l : Nat), a.fit k = true → b.fit l = true → PyData.eqv (toPy a) (toPy b) = a.eq b
  | .non, b, k, l, ha, hb => by cases b <;> first | (simp [toPy, PyData.eqv, D.eq]; done) | cases hb
  | .bl x, b, k, l, ha, hb => by cases b <;> first | (simp [toPy, PyData.eqv, D.eq]; done) | cases hb
  | .int x, b, k, l, ha, hb => by cases b <;> first | (simp [toPy, PyData.eqv, D.eq]; done) | cases hb
  | .str x, b, k, l, ha, hb => by cases b <;> first | (simp [toPy, PyData.eqv, D.eq]; done) | cases hb
  | .tup xs, b, 0, l, ha, hb => by cases ha
  | .tup xs, b, k + 1, l, ha, hb => by
    cases b with
    | tup ys =>
      cases l with
      | zero => cases hb
      | succ l =>
        simp only [toPy, PyData.eqv, D.eq]
        exact eqs_of xs ys k l ha hb
    | ref _ => cases hb
    | _ => simp [toPy, PyData.eqv, D.eq]
  | .frz xs, b, 0, l, ha, hb => by cases ha
  | .frz xs, b, k + 1, l, ha, hb => by
    cases b with
    | frz ys =>
      cases l with
      | zero => cases hb
      | succ l =>
        simp only [toPy, PyData.eqv, D.eq]
        exact eqs_of xs ys k l ha hb
    | ref _ => cases hb
    | _ => simp [toPy, PyData.eqv, D.eq]
  | .ref _, b, k, l, ha, hb => by cases ha
theorem eqs_of : ∀ (a b : List D) (k l : Nat), fits a k = true → fits b l = true → PyData.eqvAll (toPys a) (toPys b) = eqs a b
  | [], b, k, l, ha, hb => by cases b <;> simp [toPys, PyData.eqvAll, eqs]
  | x :: xs, [], k, l, ha, hb => by simp [toPys, PyData.eqvAll, eqs]
  | x :: xs, y :: ys, k, l, ha, hb => by
    obtain ⟨h1, h2⟩ := fits_cons ha
    obtain ⟨h3, h4⟩ := fits_cons hb
    simp only [toPys, PyData.eqvAll, eqs]
    rw [eq_of x y k l h1 h3, eqs_of xs ys k l h2 h4]
end
section
variable {K : PySem.W.Frag} {ρ : List Addr} {H : Hp}
mutual
theorem VR.dp : ∀ {v : V} {d : D} {k : Nat}, VR K ρ H v d → d.fit k = true → Dp K H v (toPy d)
  | _, _, _, .non, _ => .non
  | _, _, _, .bl b, _ => .bl b
  | _, _, _, .int i, _ => .int i
  | _, _, _, .str x, _ => .str x
  | _, _, 0, .tup h hs, u => by cases u
  | _, _, k + 1, .tup h hs, u => .tup h (VRs.dps (k := k) hs u)
  | _, _, 0, .frz h hs, u => by cases u
  | _, _, k + 1, .frz h hs, u => .lst h.sq (VRs.dps (k := k) hs u)
  | _, _, _, .ref h, u => by cases u
theorem VRs.dps : ∀ {vs : List V} {ds : List D} {k : Nat}, VRs K ρ H vs ds → fits ds k = true → DpAll K H vs (toPys ds)
  | _, _, _, .nil, _ => .nil
  | _, _, k, .cons h hs, u => .cons (VR.dp (k := k) h (fits_cons u).1) (VRs.dps hs (fits_cons u).2)
end
end
theorem LIM_eq : LIM = sizeLine := sizeLine_eq.symm

section
variable {K : PySem.W.Frag} {g : Sig} {ρ : List Addr} {H : Hp} {E : XK} {Q : VK} {st : Store} {p : Addr} {xs : List V} {ds : List D} {W : WX}
theorem Post.newL (q : Post K g (relD K) ρ H E Q (alloc (.lst ds) st)) (R : Rep K g.T ρ st H) (hp : H p = none) (r : VRs K ρ H xs ds) : Q (.ref p) (upd H p (.lst xs)) := by
  have e : Ext ρ H (ρ ++ [p]) (upd H p (.lst xs)) := Ext.alloc hp
  exact q (.ref p) _ (ρ ++ [p]) e (R.alloc hp ⟨xs, upd_same, VRs.ext e r⟩) (.ref (by rw [← R.len, List.getElem?_append_right (Nat.le_refl _), Nat.sub_self]; rfl))
theorem Post.newT (q : Post K g (relD K) ρ H E Q (.ok (.tup ds) st)) (R : Rep K g.T ρ st H) (hp : H p = none) (r : VRs K ρ H xs ds) : Q (.ref p) (upd H p (.tup xs)) := by
  have e : Ext ρ H ρ (upd H p (.tup xs)) := Ext.new hp
  exact q (.ref p) _ ρ e (R.new hp) (.tup (SqT.of upd_same) (VRs.ext e r))
theorem Post.here {d : D} {v : V} (q : Post K g (relD K) ρ H E Q (.ok d st)) (R : Rep K g.T ρ st H) (r : VR K ρ H v d) : Q v H := q v H ρ (Ext.refl _ _) R r
theorem Post.ite {α β : Type} {rel : List Addr → Hp → β → α → Prop} {c : Prop} [Decidable c] {Q : β → Hp → Prop} {r : R α} (q : Post K g rel ρ H E Q (if c then r else .err)) : c ∧ Post K g rel ρ H E Q r := by
  by_cases h : c
  · rw [if_pos h] at q
    exact ⟨h, q⟩
  · rw [if_neg h] at q
    exact q.elim

/-! ### two-place operations -/
def rB (K : PySem.W.Frag) (g : Sig) (F : D → D → Store → R D) : R2 := fun x y H Q => ∃ ρ st d e E, Rep K g.T ρ st H ∧ VR K ρ H x d ∧ VR K ρ H y e ∧ Post K g (relD K) ρ H E Q (F d e st)
def pyB : BOp → Operator
  | .add => .Add | .sub => .Sub | .mul => .Mult | .fdiv => .FloorDiv | .mod => .Mod | .pow => .Pow
theorem str_app (a b : Str) : (⟨a.cps ++ b.cps⟩ : Str) = a ++ b := rfl
theorem op_bop {X : Cx} (op : BOp) : OpR X (binaryOp (pyB op)) (rB X.K g (bop op)) := by
  intro pins s σ H x y v u Q I rx ry h
  obtain ⟨ρ, st, d, e, E, R, hx, hy, q⟩ := h
  cases op with
  | add =>
    cases hx with
    | int i =>
      cases hy with
      | int j => exact op_add pins s σ H _ _ v u Q I rx ry ⟨i, j, rfl, rfl, q.here R (.int _)⟩
      | _ => exact (show False from q).elim
    | str i =>
      cases hy with
      | str j =>
        obtain ⟨hc, q⟩ := Post.ite q
        exact op_add_str pins s σ H _ _ v u Q I rx ry ⟨i, j, rfl, rfl, by rw [← LIM_eq]; exact hc, q.here R (.str _)⟩
      | _ => exact (show False from q).elim
    | tup ha hs =>
      cases hy with
      | tup hb ht =>
        obtain ⟨hc, q⟩ := Post.ite q
        refine op_catA pins s σ H _ _ v u Q I rx ry ⟨_, _, _, _, rfl, rfl, ha, hb, by rw [hs.length, ht.length, ← LIM_eq]; exact hc, fun z => ?_, fun _ z => ?_, fun _ _ p hp => q.newT R hp (hs.append ht)⟩
        · have e1 : (_ : List D) = [] := List.eq_nil_of_length_eq_zero (by rw [← hs.length, z]; rfl)
          rw [e1, List.nil_append] at q
          exact q.here R (.tup hb ht)
        · have e1 : (_ : List D) = [] := List.eq_nil_of_length_eq_zero (by rw [← ht.length, z]; rfl)
          rw [e1, List.append_nil] at q
          exact q.here R (.tup ha hs)
      | _ => exact (show False from q).elim
    | ref ha =>
      cases hy with
      | ref hb =>
        rename_i m a n b
        have q : Post X.K g (relD X.K) ρ H E Q (match lstAt st m, lstAt st n with
          | some a, some b => if a.length + b.length ≤ LIM then alloc (.lst (a ++ b)) st else .err
          | _, _ => .err) := q
        cases q1 : lstAt st m with
        | none =>
          rw [q1] at q
          exact q.elim
        | some as =>
          cases q2 : lstAt st n with
          | none =>
            rw [q1, q2] at q
            exact q.elim
          | some bs =>
            rw [q1, q2] at q
            obtain ⟨hc, q⟩ := Post.ite q
            obtain ⟨xs, h1, r1⟩ := R.lst ha q1
            obtain ⟨ys, h2, r2⟩ := R.lst hb q2
            exact op_cat pins s σ H _ _ v u Q I rx ry ⟨a, b, xs, ys, rfl, rfl, h1, h2, by rw [r1.length, r2.length, ← LIM_eq]; exact hc, fun p hp => q.newL R hp (r1.append r2)⟩
      | _ => exact (show False from q).elim
    | _ => exact (show False from q).elim
  | sub =>
    cases hx with
    | int i =>
      cases hy with
      | int j => exact op_sub pins s σ H _ _ v u Q I rx ry ⟨i, j, rfl, rfl, q.here R (.int _)⟩
      | _ => exact (show False from q).elim
    | _ => exact (show False from q).elim
  | mul =>
    cases hx with
    | int i =>
      cases hy with
      | int j =>
        obtain ⟨hc, q⟩ := Post.ite q
        exact op_mul pins s σ H _ _ v u Q I rx ry ⟨i, j, rfl, rfl, hc, q.here R (.int _)⟩
      | _ => exact (show False from q).elim
    | ref ha =>
      cases hy with
      | int k =>
        rename_i m a
        have q : Post X.K g (relD X.K) ρ H E Q (match lstAt st m with
          | some a => if -(2 ^ 63) ≤ k ∧ k < 2 ^ 63 ∧ a.length * k.toNat ≤ LIM then alloc (.lst (List.replicate k.toNat a).flatten) st else .err
          | none => .err) := q
        cases q1 : lstAt st m with
        | none =>
          rw [q1] at q
          exact q.elim
        | some as =>
          rw [q1] at q
          obtain ⟨⟨c1, c2, c3⟩, q⟩ := Post.ite q
          obtain ⟨xs, h1, r1⟩ := R.lst ha q1
          exact op_rep pins s σ H _ _ v u Q I rx ry ⟨a, k, xs, rfl, rfl, h1, c1, c2, by rw [r1.length, ← LIM_eq]; exact c3, fun p hp => q.newL R hp (r1.flat _)⟩
      | _ => exact (show False from q).elim
    | _ => exact (show False from q).elim
  | fdiv =>
    cases hx with
    | int i =>
      cases hy with
      | int j =>
        obtain ⟨hc, q⟩ := Post.ite q
        exact op_fdiv pins s σ H _ _ v u Q I rx ry ⟨i, j, rfl, rfl, hc, q.here R (.int _)⟩
      | _ => exact (show False from q).elim
    | _ => exact (show False from q).elim
  | mod =>
    cases hx with
    | int i =>
      cases hy with
      | int j =>
        obtain ⟨hc, q⟩ := Post.ite q
        exact op_mod pins s σ H _ _ v u Q I rx ry ⟨i, j, rfl, rfl, hc, q.here R (.int _)⟩
      | _ => exact (show False from q).elim
    | _ => exact (show False from q).elim
  | pow =>
    cases hx with
    | int i =>
      cases hy with
      | int j =>
        obtain ⟨hc, q⟩ := Post.ite q
        exact op_pow pins s σ H _ _ v u Q I rx ry ⟨i, j, rfl, rfl, hc, q.here R (.int _)⟩
      | _ => exact (show False from q).elim
    | _ => exact (show False from q).elim
end
end Pd
end
section
set_option Elab.async false
set_option linter.all false
set_option maxRecDepth 100000
set_option autoImplicit false
/-! Keys; what stands of a dict, of a set, in the heap itself. -/
namespace Pd
open PySem PySem.Spec PyProof.Rows L2
section
variable {X : Cx} {pins : List (Addr × Obj)} {σ : L2.St} {H : Hp} {s : Shared} {ρ : List Addr}
theorem keysD_cons {d : D} {ds : List D} {ks : List NestedKey} (h : keysD (d :: ds) = some ks) : ∃ k ks', d.key = some k ∧ keysD ds = some ks' ∧ ks = k :: ks' := by
  have h' : (match d.key, keysD ds with
    | some k, some ks => some (k :: ks)
    | _, _ => none) = some ks := h
  cases e1 : d.key with
  | none =>
    rw [e1] at h'
    cases h'
  | some k =>
    cases e2 : keysD ds with
    | none =>
      rw [e1, e2] at h'
      cases h'
    | some ks' =>
      rw [e1, e2] at h'
      cases h'
      exact ⟨k, ks', rfl, rfl, rfl⟩
mutual
theorem key_is (I : Inv X pins σ H s) : ∀ (d : D) (v : V) (u : Value) (k : NestedKey), VR X.K ρ H v d → RelV v u → d.key = some k → NestedIs s.heap k u
  | .non, _, u, k, r, ru, h => by
    cases r
    cases h
    cases (show u = Value.none from ru)
    exact .none
  | .bl b, _, u, k, r, ru, h => by
    cases r
    cases h
    cases (show u = Value.bool b from ru)
    exact .bool rfl
  | .int i, _, u, k, r, ru, h => by
    cases r
    cases h
    obtain ⟨t, rfl⟩ := (show ∃ t, u = Value.int i t from ru)
    exact .int i t
  | .str x, _, u, k, r, ru, h => by
    cases r
    cases h
    obtain ⟨t, rfl⟩ := (show ∃ t, u = Value.str x t from ru)
    exact .text x t
  | .tup ds, _, u, k, r, ru, h => by
    cases r with
    | tup ht rs =>
      rename_i a xs
      have h : (keysD ds).map NestedKey.tup = some k := h
      cases e : keysD ds with
      | none =>
        rw [e] at h
        cases h
      | some ks =>
        rw [e] at h
        cases h
        cases (show u = Value.ref a from ru)
        obtain ⟨its, rv, ⟨o, ho, hc, n, hd⟩, _⟩ := I.tuple ht
        exact .tup ho hc hd (by simpa using keys_are I ds xs its ks rs rv e)
  | .frz ds, _, u, k, r, ru, h => by cases h
  | .ref n, _, u, k, r, ru, h => by cases h
theorem keys_are (I : Inv X pins σ H s) : ∀ (ds : List D) (vs : List V) (us : List Value) (ks : List NestedKey), VRs X.K ρ H vs ds → Vals vs us → keysD ds = some ks → NestedAll s.heap ks us
  | [], _, us, ks, r, ru, h => by
    cases r
    cases ru
    cases h
    exact .nil
  | d :: ds, _, us, ks, r, ru, h => by
    obtain ⟨k, ks', h1, h2, rfl⟩ := keysD_cons h
    cases r with
    | cons r rs =>
      cases ru with
      | cons ru rus => exact .cons (key_is I d _ _ k r ru h1) (keys_are I ds _ _ ks' rs rus h2)
end
/-! equal keys -/
mutual
theorem eq_key : ∀ (a b : D) (x y : NestedKey), a.key = some x → b.key = some y → NestedKey.beq x y = a.eq b
  | .non, b, x, y, h1, h2 => by
    cases h1
    cases b with
    | tup ds =>
      have h2 : (keysD ds).map NestedKey.tup = some y := h2
      cases e : keysD ds <;> rw [e] at h2 <;> cases h2
      rfl
    | frz _ => cases h2
    | ref _ => cases h2
    | _ => cases h2; rfl
  | .bl a, b, x, y, h1, h2 => by
    cases h1
    cases b with
    | tup ds =>
      have h2 : (keysD ds).map NestedKey.tup = some y := h2
      cases e : keysD ds <;> rw [e] at h2 <;> cases h2
      rfl
    | frz _ => cases h2
    | ref _ => cases h2
    | bl b =>
      cases h2
      show decide ((if a = true then (1 : Int) else 0) = if b = true then 1 else 0) = (a == b)
      cases a <;> cases b <;> rfl
    | int j =>
      cases h2
      show decide ((if a = true then (1 : Int) else 0) = j) = ((if a = true then (1 : Int) else 0) == j)
      rfl
    | _ => cases h2; rfl
  | .int a, b, x, y, h1, h2 => by
    cases h1
    cases b with
    | tup ds =>
      have h2 : (keysD ds).map NestedKey.tup = some y := h2
      cases e : keysD ds <;> rw [e] at h2 <;> cases h2
      rfl
    | frz _ => cases h2
    | ref _ => cases h2
    | bl b =>
      cases h2
      show decide (a = if b = true then (1 : Int) else 0) = (a == if b = true then (1 : Int) else 0)
      rfl
    | int j =>
      cases h2
      rfl
    | _ => cases h2; rfl
  | .str a, b, x, y, h1, h2 => by
    cases h1
    cases b with
    | tup ds =>
      have h2 : (keysD ds).map NestedKey.tup = some y := h2
      cases e : keysD ds <;> rw [e] at h2 <;> cases h2
      rfl
    | frz _ => cases h2
    | ref _ => cases h2
    | str c =>
      cases h2
      show decide (a = c) = (a == c)
      by_cases z : a = c
      · rw [z]
        simp
      · rw [decide_eq_false z]
        exact (beq_eq_false_iff_ne.mpr z).symm
    | _ => cases h2; rfl
  | .tup as, b, x, y, h1, h2 => by
    have h1 : (keysD as).map NestedKey.tup = some x := h1
    cases e : keysD as with
    | none =>
      rw [e] at h1
      cases h1
    | some ks =>
      rw [e] at h1
      cases h1
      cases b with
      | tup bs =>
        have h2 : (keysD bs).map NestedKey.tup = some y := h2
        cases e2 : keysD bs with
        | none =>
          rw [e2] at h2
          cases h2
        | some ls =>
          rw [e2] at h2
          cases h2
          show NestedKey.beqAll ks ls = eqs as bs
          exact eqs_key as bs ks ls e e2
      | frz _ => cases h2
      | ref _ => cases h2
      | _ => cases h2; rfl
  | .frz _, _, _, _, h1, _ => by cases h1
  | .ref _, _, _, _, h1, _ => by cases h1
theorem eqs_key : ∀ (as bs : List D) (xs ys : List NestedKey), keysD as = some xs → keysD bs = some ys → NestedKey.beqAll xs ys = eqs as bs
  | [], [], xs, ys, h1, h2 => by
    cases h1
    cases h2
    rfl
  | [], b :: bs, xs, ys, h1, h2 => by
    cases h1
    obtain ⟨k, ks', _, _, rfl⟩ := keysD_cons h2
    rfl
  | a :: as, [], xs, ys, h1, h2 => by
    cases h2
    obtain ⟨k, ks', _, _, rfl⟩ := keysD_cons h1
    rfl
  | a :: as, b :: bs, xs, ys, h1, h2 => by
    obtain ⟨k, ks, e1, e2, rfl⟩ := keysD_cons h1
    obtain ⟨l, ls, e3, e4, rfl⟩ := keysD_cons h2
    show (NestedKey.beq k l && NestedKey.beqAll ks ls) = (a.eq b && eqs as bs)
    rw [eq_key a b k l e1 e3, eqs_key as bs ks ls e2 e4]
end
theorem key_eq {a b : D} {x y : NestedKey} (h1 : a.key = some x) (h2 : b.key = some y) : decide (x = y) = a.eq b := by rw [NestedKey.decide_eq, eq_key a b x y h1 h2]

/-! ### a dict with tuples as keys -/
theorem pmem {α β : Type} {F : α → β → Prop} {x : α} : ∀ {l₁ : List α} {l₂ : List β}, Paired F l₁ l₂ → x ∈ l₁ → ∃ q, q ∈ l₂ ∧ F x q
  | _, _, .nil, h => by cases h
  | _, _, .cons r t, h => by
    rcases List.mem_cons.mp h with z | z
    · subst z
      exact ⟨_, List.mem_cons_self, r⟩
    · obtain ⟨q, h1, h2⟩ := pmem t z
      exact ⟨q, List.mem_cons_of_mem _ h1, h2⟩
structure OfX (T : Tb) (X : Cx) : Prop where
  P : T.P = X.prog
  w : T.w = X.w
theorem Inv.dctO {T : Tb} {a : Addr} {xs : List (NestedKey × Addr × Value)} {kvs : List (D × D)} (I : Inv X pins σ H s) (o : OfX T X) (h : H a = some (DctO T a xs)) (nd : (xs.map (·.1)).Nodup) (r : Paired (EntR X.K ρ H) xs kvs) :
    s.heap.DictOfH (nestedKind X.prog X.w) a xs := by
  obtain ⟨⟨ob, es, ep, e1, e2, e3, e4⟩, _, _⟩ := (show ObjOk X.prog X.w H s.heap a (DctO T a xs) from I.hok a _ h)
  rw [o.P, o.w] at e4
  refine ⟨ob, es, ep, e1, e2, e3, e4, fun x hx => ?_, nd⟩
  obtain ⟨q, _, hq⟩ := pmem r hx
  obtain ⟨k1, k2, k3, _⟩ := hq
  exact ⟨key_is I q.1 _ _ _ k3 rfl k1, k2⟩
theorem dctO_ok {T : Tb} {P : Program} {w : World} {H' : Hp} {h' : Heap} {a : Addr} {xs : List (NestedKey × Addr × Value)} (o : T.P = P ∧ T.w = w) (x : h'.DictOfH (nestedKind P w) a xs) : ObjOk P w H' h' a (DctO T a xs) := by
  obtain ⟨ob, es, ep, e1, e2, e3, e4, _⟩ := x
  refine ⟨⟨ob, es, ep, e1, e2, e3, by rw [o.1, o.2]; exact e4⟩, ⟨ob, e1⟩, fun h1 h2 ⟨ob, es, ep, e1, e2⟩ k => ⟨ob, es, ep, k _ e1, e2⟩⟩
end
end Pd
namespace Pd
open PySem PySem.Spec PyProof.Rows L2
/-! ### dicts over plain data -/
mutual
theorem kok_key : ∀ (d : D) (n : Nat), d.kok n = true → ∃ k, d.key = some k ∧ k.depth ≤ n
  | .non, n, _ => ⟨_, rfl, Nat.zero_le _⟩
  | .bl b, n, _ => ⟨_, rfl, Nat.zero_le _⟩
  | .int i, n, _ => ⟨_, rfl, Nat.zero_le _⟩
  | .str x, n, _ => ⟨_, rfl, Nat.zero_le _⟩
  | .tup ds, n, h => by
    cases n with
    | zero => cases h
    | succ n =>
      obtain ⟨ks, h1, h2⟩ := koks_keys ds n h
      refine ⟨.tup ks, ?_, ?_⟩
      · show (keysD ds).map NestedKey.tup = _
        rw [h1]
        rfl
      · simp only [NestedKey.depth]
        omega
  | .frz _, _, h => by cases h
  | .ref _, _, h => by cases h
theorem koks_keys : ∀ (ds : List D) (n : Nat), koks ds n = true → ∃ ks, keysD ds = some ks ∧ NestedKey.depthAll ks ≤ n
  | [], n, _ => ⟨[], rfl, Nat.zero_le _⟩
  | d :: ds, n, h => by
    have h' : (d.kok n && koks ds n) = true := h
    rw [Bool.and_eq_true] at h'
    obtain ⟨k, h1, h2⟩ := kok_key d n h'.1
    obtain ⟨ks, h3, h4⟩ := koks_keys ds n h'.2
    refine ⟨k :: ks, ?_, ?_⟩
    · show (match d.key, keysD ds with
        | some k, some ks => some (k :: ks)
        | _, _ => none) = _
      rw [h1, h3]
    · simp only [NestedKey.depthAll]
      omega
end
theorem tupK_key {d : D} (h : d.tupK = true) : ∃ ds ks, d = .tup ds ∧ d.key = some (.tup ks) ∧ (NestedKey.tup ks).depth ≤ 8 := by
  cases d with
  | tup ds =>
    obtain ⟨ks, h1, h2⟩ := koks_keys ds 7 h
    refine ⟨ds, ks, rfl, ?_, ?_⟩
    · show (keysD ds).map NestedKey.tup = _
      rw [h1]
      rfl
    · simp only [NestedKey.depth]
      omega
  | _ => cases h
section
variable {K : PySem.W.Frag} {ρ : List Addr} {H : Hp}
theorem kV_d {k : Key} {d : D} (h : VR K ρ H (kV k) d) : (∃ i, k = .inl i ∧ d = .int i) ∨ ∃ x, k = .inr x ∧ d = .str x := by
  cases k with
  | inl i =>
    cases h
    exact .inl ⟨i, rfl, rfl⟩
  | inr x =>
    cases h
    exact .inr ⟨x, rfl, rfl⟩
theorem kV_eq {a b : Key} {d e : D} (h1 : VR K ρ H (kV a) d) (h2 : VR K ρ H (kV b) e) : d.eq e = decide (a = b) := by
  rcases kV_d h1 with ⟨i, rfl, rfl⟩ | ⟨x, rfl, rfl⟩
  · rcases kV_d h2 with ⟨j, rfl, rfl⟩ | ⟨y, rfl, rfl⟩
    · rw [key_ll]
      rfl
    · rw [key_lr]
      rfl
  · rcases kV_d h2 with ⟨j, rfl, rfl⟩ | ⟨y, rfl, rfl⟩
    · rw [key_rl]
      rfl
    · rw [key_rr]
      show (x == y) = decide (x = y)
      by_cases z : x = y
      · rw [z]
        simp
      · rw [decide_eq_false z]
        exact beq_eq_false_iff_ne.mpr z
theorem scal_v {v : V} {d : D} (h : VR K ρ H v d) (hs : d.scal = true) : ∃ k, v = kV k := by
  cases h with
  | int i => exact ⟨.inl i, rfl⟩
  | str x => exact ⟨.inr x, rfl⟩
  | _ => cases hs
theorem kV_scal {k : Key} {d : D} (h : VR K ρ H (kV k) d) : d.scal = true := by
  rcases kV_d h with ⟨i, rfl, rfl⟩ | ⟨x, rfl, rfl⟩ <;> rfl
theorem lookK {k : Key} {kd : D} (hk : VR K ρ H (kV k) kd) : ∀ {xs : List (Key × V)} {kvs : List (D × D)}, Paired (KeyR K ρ H) xs kvs →
    (valV xs k = none ∧ dlook kvs kd = none) ∨ ∃ v d, valV xs k = some v ∧ dlook kvs kd = some d ∧ VR K ρ H v d
  | _, _, .nil => .inl ⟨rfl, rfl⟩
  | x :: xs, q :: kvs, .cons r rs => by
    have e := kV_eq r.1 hk
    by_cases z : x.1 = k
    · refine .inr ⟨x.2, q.2, valV_pos z, ?_, r.2⟩
      unfold dlook
      rw [List.find?_cons, e, decide_eq_true z]
      rfl
    · have h1 : dlook (q :: kvs) kd = dlook kvs kd := by
        unfold dlook
        rw [List.find?_cons, e, decide_eq_false z]
      rw [valV_neg z, h1]
      exact lookK hk rs
theorem anyK {k : Key} {kd : D} (hk : VR K ρ H (kV k) kd) : ∀ {xs : List (Key × V)} {kvs : List (D × D)}, Paired (KeyR K ρ H) xs kvs → (xs.any fun kv => decide (kv.1 = k)) = kvs.any fun p => p.1.eq kd
  | _, _, .nil => rfl
  | x :: xs, q :: kvs, .cons r rs => by rw [List.any_cons, List.any_cons, anyK hk rs, kV_eq r.1 hk]
theorem papp {α β : Type} {F : α → β → Prop} : ∀ {l₁ : List α} {l₂ : List β} {m₁ : List α} {m₂ : List β}, Paired F l₁ l₂ → Paired F m₁ m₂ → Paired F (l₁ ++ m₁) (l₂ ++ m₂)
  | _, _, _, _, .nil, h => h
  | _, _, _, _, .cons r rs, h => .cons r (papp rs h)
theorem putKR {k : Key} {kd : D} {v : V} {d : D} (hk : VR K ρ H (kV k) kd) (hv : VR K ρ H v d) {xs : List (Key × V)} {kvs : List (D × D)} (r : Paired (KeyR K ρ H) xs kvs) : Paired (KeyR K ρ H) (putK xs k v) (dput kvs kd d) := by
  unfold putK dput
  rw [anyK hk r]
  by_cases z : (kvs.any fun p => p.1.eq kd) = true
  · rw [if_pos z, if_pos z]
    clear z
    induction r with
    | nil => exact .nil
    | @cons x q xs kvs r rs ih =>
      refine .cons ?_ ih
      have e := kV_eq r.1 hk
      dsimp only
      by_cases y : x.1 = k
      · rw [if_pos y, if_pos (by rw [e]; exact decide_eq_true y)]
        exact ⟨r.1, hv⟩
      · rw [if_neg y, if_neg (by rw [e, decide_eq_false y]; decide)]
        exact r
  · rw [if_neg z, if_neg z]
    exact papp r (.cons ⟨hk, hv⟩ .nil)
theorem keysK_scal : ∀ {xs : List (Key × V)} {kvs : List (D × D)}, Paired (KeyR K ρ H) xs kvs → kvs ≠ [] → ∃ q ∈ kvs, q.1.scal = true
  | _, _, .nil, h => absurd rfl h
  | _, _, .cons r _, _ => ⟨_, List.mem_cons_self, kV_scal r.1⟩
theorem keysT_tup : ∀ {xs : List (NestedKey × Addr × Value)} {kvs : List (D × D)}, Paired (EntR K ρ H) xs kvs → kvs ≠ [] → ∃ q ∈ kvs, q.1.scal = false
  | _, _, .nil, h => absurd rfl h
  | _, q :: _, .cons r _, _ => ⟨q, List.mem_cons_self, by
    obtain ⟨_, _, h3, _⟩ := r
    cases e : q.1 with
    | int i =>
      rw [e] at h3
      cases h3
    | str x =>
      rw [e] at h3
      cases h3
    | _ => rfl⟩
/-! tuples as keys -/
theorem lookT {k : NestedKey} {kd : D} (hk : kd.key = some k) : ∀ {xs : List (NestedKey × Addr × Value)} {kvs : List (D × D)}, Paired (EntR K ρ H) xs kvs →
    (atKey xs k = none ∧ dlook kvs kd = none) ∨ ∃ p v d, atKey xs k = some p ∧ RelV v p.2 ∧ dlook kvs kd = some d ∧ VR K ρ H v d
  | _, _, .nil => .inl ⟨rfl, rfl⟩
  | x :: xs, q :: kvs, .cons r rs => by
    have e := key_eq r.1 hk
    by_cases z : x.1 = k
    · obtain ⟨_, _, _, v, h4, h5⟩ := r
      refine .inr ⟨x.2, v, q.2, ?_, h4, ?_, h5⟩
      · unfold atKey
        rw [List.find?_cons, decide_eq_true z]
        rfl
      · unfold dlook
        rw [List.find?_cons, ← e, decide_eq_true z]
        rfl
    · have h1 : dlook (q :: kvs) kd = dlook kvs kd := by
        unfold dlook
        rw [List.find?_cons, ← e, decide_eq_false z]
      have h2 : atKey (x :: xs) k = atKey xs k := by
        unfold atKey
        rw [List.find?_cons, decide_eq_false z]
      rw [h1, h2]
      exact lookT hk rs
theorem anyT {k : NestedKey} {kd : D} (hk : kd.key = some k) : ∀ {xs : List (NestedKey × Addr × Value)} {kvs : List (D × D)}, Paired (EntR K ρ H) xs kvs → (atKey xs k).isSome = kvs.any fun p => p.1.eq kd
  | _, _, .nil => rfl
  | x :: xs, q :: kvs, .cons r rs => by
    have e := key_eq r.1 hk
    rw [List.any_cons, ← anyT hk rs, ← e]
    unfold atKey
    rw [List.find?_cons]
    by_cases z : x.1 = k
    · rw [decide_eq_true z]
      rfl
    · rw [decide_eq_false z]
      rfl
theorem putTR {k : NestedKey} {kd : D} {a : Addr} {v : V} {u : Value} {d : D} (hk : kd.key = some k) (hd : k.depth ≤ 8) (ha : VR K ρ H (.ref a) kd) (hv : VR K ρ H v d) (ru : RelV v u) {xs : List (NestedKey × Addr × Value)} {kvs : List (D × D)} (r : Paired (EntR K ρ H) xs kvs) :
    Paired (EntR K ρ H) (storedH xs k a u) (dput kvs kd d) := by
  unfold storedH dput
  rw [anyT hk r]
  by_cases z : (kvs.any fun p => p.1.eq kd) = true
  · rw [if_pos z, if_pos z]
    clear z
    induction r with
    | nil => exact .nil
    | @cons x q xs kvs r rs ih =>
      refine .cons ?_ ih
      have e := key_eq r.1 hk
      unfold putAt
      dsimp only
      by_cases y : x.1 = k
      · rw [if_pos y, if_pos (by rw [← e]; exact decide_eq_true y)]
        exact ⟨r.1, r.2.1, r.2.2.1, v, ru, hv⟩
      · rw [if_neg y, if_neg (by rw [← e, decide_eq_false y]; decide)]
        exact r
  · rw [if_neg z, if_neg z]
    exact papp r (.cons ⟨hk, hd, ha, v, ru, hv⟩ .nil)
end
/-! what a dict's cell gives -/
section
variable {X : Cx} {T : Tb} {pins : List (Addr × Obj)} {σ : L2.St} {H : Hp} {s : Shared} {ρ : List Addr} {a : Addr} {kvs : List (D × D)} {kd : D} {y : V} {u : Value} {A : Around} {E : Value → Shared → Prop}
theorem all_scal {kvs : List (D × D)} (h : (kvs.map (·.1)).all D.scal = true) : ∀ q ∈ kvs, q.1.scal = true := fun q hq => List.all_eq_true.mp h q.1 (List.mem_map.mpr ⟨q, hq, rfl⟩)
theorem tupK_scal {d : D} (h : d.tupK = true) : d.scal = false := by cases d <;> first | rfl | cases h
/-- of which kind the dict is at this key -/
def DctAt (X : Cx) (T : Tb) (ρ : List Addr) (H : Hp) (s : Shared) (a : Addr) (kvs : List (D × D)) (kd : D) (y : V) (u : Value) : Prop :=
  (∃ xs k, y = kV k ∧ H a = some (.dK xs) ∧ Paired (KeyR X.K ρ H) xs kvs) ∨
    ∃ xs k b, y = .ref b ∧ u = .ref b ∧ kd.key = some k ∧ k.depth ≤ 8 ∧ (nestedKind X.prog X.w).is s.heap k b ∧ (a == sysModules) = false ∧ s.heap.DictOfH (nestedKind X.prog X.w) a xs ∧ Paired (EntR X.K ρ H) xs kvs ∧ Mut (H a)
theorem dct_at (I : Inv X pins σ H s) (o : OfX T X) (hl : likeK (kvs.map (·.1)) kd = true) (r : CellR X.K T ρ H a (.dct kvs)) (hy : VR X.K ρ H y kd) (ry : RelV y u) : DctAt X T ρ H s a kvs kd y u := by
  unfold likeK at hl
  rw [Bool.or_eq_true, Bool.and_eq_true, Bool.and_eq_true] at hl
  have tupCase : kd.tupK = true → ∀ xs, (a == sysModules) = false → s.heap.DictOfH (nestedKind X.prog X.w) a xs → Paired (EntR X.K ρ H) xs kvs → Mut (H a) → DctAt X T ρ H s a kvs kd y u := fun ht xs hs hd r m => by
    obtain ⟨ds, ks, rfl, h1, h2⟩ := tupK_key ht
    cases hy with
    | tup q rs =>
      rename_i b vs
      cases (show u = Value.ref b from ry)
      exact .inr ⟨xs, _, b, rfl, rfl, h1, h2, ⟨key_is I _ _ _ _ (.tup q rs) rfl h1, h2⟩, hs, hd, r, m⟩
  rcases r with ⟨xs, hx, r⟩ | ⟨⟨z, hn⟩, xs, hx, nd, r⟩
  · rcases hl with ⟨h1, h2⟩ | ⟨h1, h2⟩
    · obtain ⟨k, rfl⟩ := scal_v hy h1
      exact .inl ⟨xs, k, rfl, hx, r⟩
    · have hk : kvs = [] := Classical.byContradiction fun hn => by
        obtain ⟨q, hq, hs⟩ := keysK_scal r hn
        have := tupK_scal (List.all_eq_true.mp h2 q.1 (List.mem_map.mpr ⟨q, hq, rfl⟩))
        rw [hs] at this
        cases this
      subst hk
      cases r
      obtain ⟨_, hd, vs, rel, ob, es, ep, e1, e2, e3, _, e5, _⟩ := dk_of I.hok hx
      cases rel
      have e6 : es.toList = [] := by
        generalize es.toList = l at e5
        cases e5
        rfl
      exact tupCase h1 [] hd ⟨ob, es, ep, e1, e2, e3, e6, (fun x hx => absurd hx List.not_mem_nil), List.nodup_nil⟩ .nil (by rw [hx]; trivial)
  · rcases hl with ⟨h1, h2⟩ | ⟨h1, h2⟩
    · obtain ⟨q, hq, hs⟩ := keysT_tup r hn
      rw [all_scal h2 q hq] at hs
      cases hs
    · exact tupCase h1 xs z (Inv.dctO I o hx nd r) r (by rw [hx]; trivial)
/-- d[k], there -/
theorem dct_get {Q : Value → Shared → Prop} {d : D} (hu : A.units + 200 < cLine) (I : Inv X pins σ H s) (o : OfX T X) (hl : likeK (kvs.map (·.1)) kd = true) (r : CellR X.K T ρ H a (.dct kvs)) (hy : VR X.K ρ H y kd) (ry : RelV y u) (hd : dlook kvs kd = some d)
    (h : ∀ v w' s', VR X.K ρ H v d → Inv X pins σ H s' → RelV v w' → Q w' s') : s.TypeIs (.ref a) "dict" ∧ wpAny (model X.prog X.w) A (getItem (.ref a) u) Q E s := by
  rcases dct_at I o hl r hy ry with ⟨xs, k, rfl, hx, r⟩ | ⟨xs, k, b, rfl, rfl, hk, hk8, hb, hs, hD, r, _⟩
  · rcases lookK hy r with ⟨_, h2⟩ | ⟨v, d', h1, h2, h3⟩
    · rw [hd] at h2
      cases h2
    · rw [hd] at h2
      cases h2
      have g : DGet H a (kV k) (some v) := by
        rw [← h1]
        exact DGet.k hx
      exact ⟨dict_typeIs I g, d_getItem (by omega) I g ry fun w' s' I' rw' => h v w' s' h3 I' rw'⟩
  · rcases lookT hk r with ⟨_, h2⟩ | ⟨p, v, d', h1, h2, h3, h4⟩
    · rw [hd] at h2
      cases h2
    · rw [hd] at h3
      cases h3
      refine ⟨hD.typeIs, ?_⟩
      exact wpAny_getItem_heap (show (nestedKind X.prog X.w).room A.in1 from by show A.units + 1 + 8 < cLine; omega) hb hD h1 (h v _ _ h4 (I.tok _) h2)
/-- k in d, k not in d -/
theorem dct_in {Q : Value → Shared → Prop} (hu : A.units + 200 < cLine) (I : Inv X pins σ H s) (o : OfX T X) (hl : likeK (kvs.map (·.1)) kd = true) (r : CellR X.K T ρ H a (.dct kvs)) (hy : VR X.K ρ H y kd) (ry : RelV y u)
    (h : ∀ s', Inv X pins σ H s' → Q (.bool (dlook kvs kd).isSome) s') : wpAny (model X.prog X.w) A (compareOp .In u (.ref a)) Q E s := by
  rcases dct_at I o hl r hy ry with ⟨xs, k, rfl, hx, r⟩ | ⟨xs, k, b, rfl, rfl, hk, hk8, hb, hs, hD, r, _⟩
  · refine d_in (by omega) I (DGet.k hx) ry fun s' I' => ?_
    have e : (valV xs k).isSome = (dlook kvs kd).isSome := by
      rcases lookK hy r with ⟨h1, h2⟩ | ⟨v, d', h1, h2, h3⟩ <;> rw [h1, h2] <;> rfl
    rw [e]
    exact h s' I'
  · refine wpAny_in_heap (show (nestedKind X.prog X.w).room A.in1 from by show A.units + 1 + 8 < cLine; omega) hb hs hD ?_
    have e : (atKey xs k).isSome = (dlook kvs kd).isSome := by
      rcases lookT hk r with ⟨h1, h2⟩ | ⟨p, v, d', h1, h2, h3, h4⟩
      · rw [h1, h2]
        rfl
      · rw [h1, h3]
        rfl
    rw [e]
    exact h _ (I.tok _)
theorem dct_notIn {Q : Value → Shared → Prop} (hu : A.units + 200 < cLine) (I : Inv X pins σ H s) (o : OfX T X) (hl : likeK (kvs.map (·.1)) kd = true) (r : CellR X.K T ρ H a (.dct kvs)) (hy : VR X.K ρ H y kd) (ry : RelV y u)
    (h : ∀ s', Inv X pins σ H s' → Q (.bool (!(dlook kvs kd).isSome)) s') : wpAny (model X.prog X.w) A (compareOp .NotIn u (.ref a)) Q E s := by
  rcases dct_at I o hl r hy ry with ⟨xs, k, rfl, hx, r⟩ | ⟨xs, k, b, rfl, rfl, hk, hk8, hb, hs, hD, r, _⟩
  · refine d_notIn (by omega) I (DGet.k hx) ry fun s' I' => ?_
    have e : (valV xs k).isSome = (dlook kvs kd).isSome := by
      rcases lookK hy r with ⟨h1, h2⟩ | ⟨v, d', h1, h2, h3⟩ <;> rw [h1, h2] <;> rfl
    rw [e]
    exact h s' I'
  · refine wpAny_notIn_heap (show (nestedKind X.prog X.w).room A.in1 from by show A.units + 1 + 8 < cLine; omega) hb hs hD ?_
    have e : (atKey xs k).isSome = (dlook kvs kd).isSome := by
      rcases lookT hk r with ⟨h1, h2⟩ | ⟨p, v, d', h1, h2, h3, h4⟩
      · rw [h1, h2]
        rfl
      · rw [h1, h3]
        rfl
    rw [e]
    exact h _ (I.tok _)
theorem dput_ne {kvs : List (D × D)} {k v : D} : dput kvs k v ≠ [] := by
  unfold dput
  split
  · rename_i h
    cases kvs with
    | nil => cases h
    | cons q r => simp
  · simp
/-- d[k] = v: what stands there afterwards -/
theorem dct_set {Q : Unit → Shared → Prop} {v : V} {uv : Value} {d : D} {n : Nat} {st : Store} (hu : A.units + 200 < cLine) (I : Inv X pins σ H s) (o : OfX T X) (R : Rep X.K T ρ st H) (ha : ρ[n]? = some a) (hc : st[n]? = some (.dct kvs)) (hl : likeK (kvs.map (·.1)) kd = true)
    (hz : kvs.length < LIM) (hy : VR X.K ρ H y kd) (ry : RelV y u) (hv : VR X.K ρ H v d) (rv : RelV v uv)
    (h : ∀ ob s', (Rep X.K T ρ (st.set n (.dct (dput kvs kd d))) (upd H a ob)) → Inv X pins σ (upd H a ob) s' → Q () s') : wpAny (model X.prog X.w) A (setItem (.ref a) u uv) Q E s := by
  have r := R.cell n a _ ha hc
  have hm : a ∈ ρ := List.mem_of_getElem? ha
  rcases dct_at I o hl r hy ry with ⟨xs, k, rfl, hx, r⟩ | ⟨xs, k, b, rfl, rfl, hk, hk8, hb, hs, hD, r, mt⟩
  · refine d_setItem (by omega) I (DPut.k hx (by rw [r.length, ← LIM_eq]; exact hz)) ry rv fun s' I' => h _ s' ?_ I'
    have ew := Ext.write (o := .dK (putK xs k v)) R hm
    exact R.write ha (.inl ⟨_, upd_same, L2.Paired.mapP (putKR hy hv r) fun _ _ q => q.ext ew⟩)
  · refine wpAny_setItem_heap (hsz := by rw [r.length, ← LIM_eq]; omega) (show (nestedKind X.prog X.w).room A.in1 from by show A.units + 1 + 8 < cLine; omega) hb hD fun h' hD' sb => ?_
    have ew := Ext.write (o := DctO T a (storedH xs k b uv)) R hm
    refine h (DctO T a (storedH xs k b uv)) _ ?_ ?_
    · refine R.write ha (.inr ⟨⟨hs, dput_ne⟩, _, upd_same, ?_, L2.Paired.mapP (putTR hk hk8 hy hv rv r) fun _ _ q => q.ext ew⟩)
      obtain ⟨_, _, _, _, _, _, _, _, nd⟩ := hD'
      exact nd
    · have he : ∃ q, h'.get? a = some q := let ⟨q, _, _, hq, _⟩ := hD'; ⟨q, hq⟩
      exact d_write I mt sb he (dctO_ok ⟨o.P, o.w⟩ hD')
theorem v_tup {d : D} (h : VR X.K ρ H y d) (ht : d.tupK = true) : ∃ b, y = .ref b := by
  cases h with
  | tup _ _ => exact ⟨_, rfl⟩
  | _ => cases ht
end
end Pd
end
section
set_option Elab.async false
set_option linter.all false
set_option maxRecDepth 100000
set_option autoImplicit false
/-! Sets in the heap itself: one element more. -/
namespace Pd
open PySem PySem.Spec PyProof.Rows L2
theorem nkey_hash (w : World) (q : Key) : keyH w q = (nkey q).hash w := by cases q <;> rfl
theorem nkey_inj {a b : Key} (h : nkey a = nkey b) : a = b := by
  cases a <;> cases b <;> first | (cases h; rfl) | cases h
theorem keyIs_scan {q : Key} {v : Value} (h : keyIs q v = true) : v.scannable = true := by
  rcases keyIs_shape h with ⟨_, _, _, rfl⟩ | ⟨_, _, _, rfl⟩ <;> rfl
theorem perm_unmap {α β : Type} {f : α → β} : ∀ {l₂ : List α} {l₁ : List β}, l₁.Perm (l₂.map f) → ∃ l : List α, l.Perm l₂ ∧ l.map f = l₁
  | [], l₁, h => ⟨[], .refl _, by rw [List.map_nil] at h ⊢; exact h.eq_nil.symm⟩
  | x :: l₂, l₁, h => by
    obtain ⟨s, t, rfl⟩ := List.append_of_mem (h.symm.subset (List.mem_map.mpr ⟨x, List.mem_cons_self, rfl⟩))
    have h2 : (f x :: (s ++ t)).Perm (f x :: l₂.map f) := (List.perm_middle.symm.trans h)
    obtain ⟨l, p, e⟩ := perm_unmap h2.cons_inv
    refine ⟨l.take s.length ++ x :: l.drop s.length, ?_, ?_⟩
    · refine List.perm_middle.trans (.cons x ?_)
      rw [List.take_append_drop]
      exact p
    · rw [List.map_append, List.map_cons, List.map_take, List.map_drop, e, List.take_left', List.drop_left'] <;> rfl
section
variable {P : Program} {w : World} {A : Around} {E : Value → Shared → Prop} {s : Shared} {a : Addr} {L : List (Value × NestedKey)}
abbrev rowOf (w : World) (p : Value × NestedKey) : Int × Value := (p.2.hash w, p.1)
theorem SetF.size {es : Array (Int × Value)} {t : SetTable} (F : SetF w L es t) : es.size = L.length := by
  have z := congrArg List.length F.rows
  rwa [Array.length_toList, List.length_map] at z
def ScanL (L : List (Value × NestedKey)) : Prop := ∀ p ∈ L, ∃ q : Key, p.2 = nkey q ∧ keyIs q p.1 = true
theorem ScanL.elems {es : Array (Int × Value)} (h : ScanL L) (hr : es.toList = L.map (rowOf w)) : ElemsOf (mixKind P w) es.toList := fun e he => by
  rw [hr] at he
  obtain ⟨p, hp, rfl⟩ := List.mem_map.mp he
  obtain ⟨q, e1, e2⟩ := h p hp
  exact ⟨⟨q, e2, by show p.2.hash w = keyH w q; rw [nkey_hash, e1]⟩, keyIs_scan e2⟩
/-- what stands is the same, its epoch another -/
theorem scan_end {gw : Bool → Sem Unit} (hg : ∀ (b : Bool) (s₁ : Shared) (Q' : Unit → Shared → Prop), Q' () s₁ → wpAny (model P w) A (gw b) Q' E s₁) {o : Obj} {es es1 : Array (Int × Value)} {ep : Nat} {t t2 : SetTable} (ho : s.heap.get? a = some o) (hex : o.ExactSet)
    (hd : o.data = .set es ep t) (F : SetF w L es1 t2) (hs : ScanL L) (hne : L ≠ []) {dummy : Bool} {R : Option Bool → Shared → Prop} (hR : ∀ h' L', Heap.SameBut a s.heap h' → L'.Perm L → SetA w h' a L' → R (some true) { s with heap := h' }) :
    wpAny (model P w) A (do
      storeSet a es1 t2
      if (!dummy && t2.tooFull) = true then do
        gw (relayAll t2 es1 (SetTable.grown es1.size)).2.2
        storeSet a (relayAll t2 es1 (SetTable.grown es1.size)).1 (relayAll t2 es1 (SetTable.grown es1.size)).2.1
        pure (some true)
      else pure (some true)) R E s := by
  have hz : es1.size < scanBound := by rw [F.size]; exact F.few
  refine wpAny_bind (wpAny_storeSet_of ho hd ?_ (fits_of_scanBound hz))
  have k1 := Heap.SameBut.update s.heap a (Obj.putSet es1 t2)
  have o1 := store_at (es' := es1) (t' := t2) ho hd
  split
  · have pm := relayAll_perm t2 es1 (SetTable.grown es1.size)
    have f3 := relayAll_fits t2 es1 (SetTable.grown es1.size)
    have r3 := relayAll_ris t2 es1 (SetTable.grown es1.size)
    have l3 := relayAll_led t2 es1 (SetTable.grown es1.size)
    generalize relayAll t2 es1 (SetTable.grown es1.size) = Z at pm f3 r3 l3 ⊢
    obtain ⟨es2, t3, gv⟩ := Z
    dsimp only at pm f3 r3 l3 ⊢
    rw [F.rows] at pm
    obtain ⟨L', pl, er⟩ := perm_unmap pm
    have hz2 : es2.size < scanBound := by
      rw [← Array.length_toList, ← er, List.length_map, pl.length_eq]
      exact F.few
    refine wpAny_bind (hg _ _ _ ?_)
    refine wpAny_bind (wpAny_storeSet_of o1 rfl ?_ (fits_of_scanBound hz2))
    have o2 := store_at (es' := es2) (t' := t3) o1 rfl
    refine wpAny_pure (hR _ L' (k1.trans (Heap.SameBut.update _ a _)) pl ⟨_, es2, _, t3, o2, hex, rfl, er.symm, (pl.map (·.2)).nodup_iff.mpr F.nd, f3, r3, F.led.imp id fun z => by rw [l3]; exact z, by rw [pl.length_eq]; exact F.few, .inl ⟨fun z => hne ?_, fun p hp => hs p (pl.mem_iff.mp hp)⟩⟩)
    rw [z] at pl
    exact pl.symm.eq_nil
  · exact wpAny_pure (hR _ L k1 (.refl _) ⟨_, es1, _, t2, o1, hex, rfl, F⟩)
theorem set_scan {x : Value} {q : Key} {Q : Bool → Shared → Prop} (R : SetA w s.heap a L) (hx : keyIs q x = true) (hs : ScanL L) (few : L.length + 1 < scanBound) (yes : nkey q ∈ L.map (·.2) → Q false s)
    (no : nkey q ∉ L.map (·.2) → ∀ h' L', Heap.SameBut a s.heap h' → L'.Perm ((x, nkey q) :: L) → SetA w h' a L' → Q true { s with heap := h' }) : wpAny (model P w) A (setAddHashed a x ((nkey q).hash w)) Q E s := by
  obtain ⟨o, es, ep, t, ho, hex, hd, F⟩ := R
  have hel : ElemsOf (mixKind P w) es.toList := hs.elems F.rows
  have hsc := keyIs_scan hx
  have hz : es.size < scanBound := by rw [F.size]; exact F.few
  have hk : (mixKind P w).is q x = true := hx
  rw [← nkey_hash]
  unfold setAddHashed setAddHashedIn
  refine wpAny_holding (wpAny_bind (wpAny_setState_of ho hd F.fits ?_))
  dsimp only
  rw [byScan_of hsc hz hel]
  simp only [↓reduceIte]
  unfold setAddByScan
  refine wpAny_bind ?_
  refine wpAny_bind (wpAny_rule ?_)
  refine wpAny_bind (wpAny_setScan_of hk ho hd F.fits hel ?_)
  have mem : nkey q ∈ L.map (·.2) ↔ ∃ e ∈ es.toList, (mixKind P w).is q e.2 = true := by
    rw [F.rows, List.mem_map]
    constructor
    · rintro ⟨p, hp, e⟩
      obtain ⟨q', e1, e2⟩ := hs p hp
      have : q' = q := nkey_inj (e1.symm.trans e)
      subst this
      exact ⟨rowOf w p, List.mem_map.mpr ⟨p, hp, rfl⟩, e2⟩
    · rintro ⟨e, he, hi⟩
      obtain ⟨p, hp, rfl⟩ := List.mem_map.mp he
      obtain ⟨q', e1, e2⟩ := hs p hp
      have : q = q' := (mixKind P w).inj _ _ _ hi e2
      subst this
      exact ⟨p, hp, e1⟩
  cases hf : List.findIdx? (fun e => (mixKind P w).is q e.2) es.toList with
  | some j =>
    dsimp only
    obtain ⟨hj, pj, _⟩ := List.findIdx?_eq_some_iff_getElem.mp hf
    exact wpAny_pure (wpAny_pure (yes (mem.mpr ⟨_, List.getElem_mem hj, pj⟩)))
  | none =>
    dsimp only
    have hn : nkey q ∉ L.map (·.2) := fun z => by
      obtain ⟨e, he, hi⟩ := mem.mp z
      have c := List.findIdx?_eq_none_iff.mp hf e he
      rw [hi] at c
      cases c
    have hgw : ∀ (b : Bool) {s₁ : Shared} {Q' : Unit → Shared → Prop}, Q' () s₁ → wpAny (model P w) A (match b with | true => rule "set.scan.the-table-gave-way" | false => pure ()) Q' E s₁ :=
      fun b s₁ Q' z => by cases b <;> first | exact wpAny_pure z | exact wpAny_rule z
    have pm := layNew_perm t es (keyH w q) x
    have f1 := layNew_fits t es (keyH w q) x
    have r1 := layNew_ris t es (keyH w q) x F.ris
    have l1 := layNew_led t es (keyH w q) x
    generalize layNew t es (keyH w q) x = Z at pm f1 r1 l1 ⊢
    obtain ⟨es1, t1, dm, gv⟩ := Z
    dsimp only at pm f1 r1 l1 ⊢
    have pc : es1.toList.Perm (((x, nkey q) :: L).map (rowOf w)) := by
      rw [Array.toList_push, F.rows] at pm
      refine pm.trans ((List.perm_append_singleton _ _).trans ?_)
      rw [List.map_cons, show rowOf w (x, nkey q) = (keyH w q, x) from by show ((nkey q).hash w, x) = (keyH w q, x); rw [nkey_hash]]
    obtain ⟨L1, pl, er⟩ := perm_unmap pc
    have s1 : ScanL L1 := fun p hp => by
      rcases List.mem_cons.mp (pl.mem_iff.mp hp) with z | z
      · rw [z]
        exact ⟨q, rfl, hx⟩
      · exact hs p z
    have n1 : L1 ≠ [] := fun z => by
      rw [z] at pl
      exact absurd pl.symm.eq_nil (by simp)
    have F1 : ∀ t', t'.fits es1.size = true → Ris t'.place.toList → (t'.led = t1.led) → SetF w L1 es1 t' := fun t' g1 g2 g3 => by
      refine ⟨er.symm, (pl.map (·.2)).nodup_iff.mpr (by rw [List.map_cons]; exact List.nodup_cons.mpr ⟨hn, F.nd⟩), g1, g2, F.led.imp id fun z => by rw [g3, l1]; exact z, by rw [pl.length_eq, List.length_cons]; exact few, .inl ⟨n1, s1⟩⟩
    have fin : ∀ h' L', Heap.SameBut a s.heap h' → L'.Perm L1 → SetA w h' a L' → Q true { s with heap := h' } := fun h' L' sb p z => no hn h' L' sb (p.trans pl) z
    refine wpAny_bind (hgw _ ?_)
    split
    · refine wpAny_bind ?_
      rw [hashByValue_scannable 8 hsc]
      refine wpAny_pure ?_
      refine scan_end ?_ ho hex hd (F1 _ ?_ ?_ ?_) s1 n1 ?_
      · intro b s₁ Q' z; cases b <;> first | exact wpAny_pure z | exact wpAny_rule z
      · first | (split <;> first | exact f1 | exact SetTable.fits_plain_off f1) | exact f1
      · first | (split <;> exact r1) | exact r1
      · first | (split <;> rfl) | rfl
      · intro h' L' sb p z; dsimp only; exact wpAny_pure (fin h' L' sb p z)
    · refine wpAny_bind (wpAny_pure ?_)
      simp only [↓reduceIte]
      refine scan_end ?_ ho hex hd (F1 _ f1 r1 rfl) s1 n1 ?_
      · intro b s₁ Q' z; cases b <;> first | exact wpAny_pure z | exact wpAny_rule z
      · intro h' L' sb p z; dsimp only; exact wpAny_pure (fin h' L' sb p z)
end
end Pd
end
section
set_option Elab.async false
set_option linter.all false
set_option maxRecDepth 100000
set_option autoImplicit false
/-! Sets of tuples in the heap itself: found by their hashes. -/
namespace Pd
open PySem PySem.Spec PyProof.Rows L2
/-! ### what is asked of a key -/
def AskB (P : Program) (w : World) (f : Value → Sem Bool) (r : Bool → Prop) (s : Shared) (v : Value) : Prop := ∀ (A : Around) (E : Value → Shared → Prop) (Q : Bool → Shared → Prop), (∀ b, r b → Q b s) → wpAny (model P w) A (f v) Q E s
section
variable {P : Program} {w : World}
theorem ask_items {f : Value → Sem Bool} {s : Shared} {vs : List Value} (hv : ∀ v ∈ vs, AskB P w f (· = false) s v) {A : Around} {E : Value → Shared → Prop} {Q : Option Bool × PUnit → Shared → Prop} (h : Q (none, ⟨⟩) s) :
    wpAny (model P w) A (forIn vs ((none, ⟨⟩) : Option Bool × PUnit) fun y r => do
      let b ← f y
      if b = true then pure (ForInStep.done (some true, ⟨⟩)) else pure (ForInStep.yield (none, ⟨⟩))) Q E s := by
  induction vs with
  | nil => exact wpAny_pure h
  | cons v vs ih =>
    rw [List.forIn_cons]
    refine wpAny_bind (wpAny_bind (hv v List.mem_cons_self A _ _ fun b hb => ?_))
    rw [hb]
    simp only [Bool.false_eq_true, if_false]
    exact wpAny_pure (ih fun u hu => hv u (List.mem_cons_of_mem _ hu))
mutual
theorem class_key : ∀ (k : NestedKey) (v : Value) (n : Nat) (s : Shared), NestedIs s.heap k v → k.depth ≤ n → AskB P w (ofAClassStatement n) (· = false) s v
  | .none, _, n, s, x, _ => by
    cases x
    intro A E Q h
    cases n <;> exact wpAny_pure (h false rfl)
  | .num i, _, n, s, x, _ => by
    cases x <;> (intro A E Q h; cases n <;> exact wpAny_pure (h false rfl))
  | .text y, _, n, s, x, _ => by
    cases x
    intro A E Q h
    cases n <;> exact wpAny_pure (h false rfl)
  | .tup ks, _, n, s, x, hn => by
    cases x with
    | tup hg hc hd hk =>
      simp only [NestedKey.depth] at hn
      cases n with
      | zero => omega
      | succ n =>
        have hv := class_keys ks _ n s hk (by omega)
        intro A E Q h
        have hT : s.TypeIs (.ref _) "tuple" := ⟨_, hg, hc⟩
        unfold ofAClassStatement
        refine wpAny_bind (wpAny_typeOf hT ?_)
        dsimp only
        have e : (("tuple" : String) == "tuple") = true := by decide
        simp only [e, if_true, Bool.not_true, Bool.false_eq_true, if_false]
        try refine wpAny_bind (wpAny_pure ?_)
        try simp only [Bool.not_true, Bool.false_eq_true, if_false]
        refine wpAny_bind (wpAny_seqItems hg hd ?_)
        dsimp only
        refine wpAny_bind ?_
        show wpAny _ _ (forIn _ _ _) _ _ s
        rw [← Array.forIn_toList]
        exact ask_items hv (wpAny_pure (h false rfl))
theorem class_keys : ∀ (ks : List NestedKey) (vs : List Value) (n : Nat) (s : Shared), NestedAll s.heap ks vs → NestedKey.depthAll ks ≤ n → ∀ v ∈ vs, AskB P w (ofAClassStatement n) (· = false) s v
  | [], _, n, s, x, _, v, hv => by cases x; cases hv
  | k :: ks, _, n, s, x, hn, v, hv => by
    cases x with
    | cons x1 x2 =>
      simp only [NestedKey.depthAll] at hn
      rcases List.mem_cons.mp hv with e | hv
      · rw [e]
        exact class_key k _ n s x1 (by omega)
      · exact class_keys ks _ n s x2 (by omega) v hv
end

theorem ask_all {f : Value → Sem Bool} {s : Shared} {vs : List Value} (hv : ∀ v ∈ vs, AskB P w f (fun _ => True) s v) {A : Around} {E : Value → Shared → Prop} {Q : Option Bool × PUnit → Shared → Prop} (h : ∀ r, Q (r, ⟨⟩) s) :
    wpAny (model P w) A (forIn vs ((none, ⟨⟩) : Option Bool × PUnit) fun y r => do
      let b ← f y
      if (!b) = true then pure (ForInStep.done (some false, ⟨⟩)) else pure (ForInStep.yield (none, ⟨⟩))) Q E s := by
  induction vs with
  | nil => exact wpAny_pure (h none)
  | cons v vs ih =>
    rw [List.forIn_cons]
    refine wpAny_bind (wpAny_bind (hv v List.mem_cons_self A _ _ fun b _ => ?_))
    cases b with
    | true =>
      simp only [Bool.not_true, Bool.false_eq_true, if_false]
      exact wpAny_pure (ih fun u hu => hv u (List.mem_cons_of_mem _ hu))
    | false =>
      simp only [Bool.not_false, if_true]
      exact wpAny_pure (wpAny_pure (h _))
mutual
theorem hashBy_key : ∀ (k : NestedKey) (v : Value) (n : Nat) (s : Shared), NestedIs s.heap k v → AskB P w (hashByValue n) (fun _ => True) s v
  | .none, _, n, s, x => by
    cases x
    intro A E Q h
    cases n <;> exact wpAny_pure (h _ trivial)
  | .num i, _, n, s, x => by
    cases x <;> (intro A E Q h; cases n <;> exact wpAny_pure (h _ trivial))
  | .text y, _, n, s, x => by
    cases x
    intro A E Q h
    cases n <;> exact wpAny_pure (h _ trivial)
  | .tup ks, _, 0, s, x => by
    cases x with
    | tup hg hc hd hk => exact fun A E Q h => wpAny_pure (h _ trivial)
  | .tup ks, _, n + 1, s, x => by
    cases x with
    | tup hg hc hd hk =>
      have hv := hashBy_keys ks _ n s hk
      intro A E Q h
      have hT : s.TypeIs (.ref _) "tuple" := ⟨_, hg, hc⟩
      unfold hashByValue
      refine wpAny_bind (wpAny_specialOf hT PySem.F.slot_tuple_hash.lookup ?_)
      show wpAny _ _ (seqItems? (.ref _) >>= _) _ _ s
      refine wpAny_bind (wpAny_seqItems hg hd ?_)
      refine wpAny_bind ?_
      show wpAny _ _ (forIn _ _ _) _ _ s
      rw [← Array.forIn_toList]
      refine ask_all hv fun r => ?_
      cases r with
      | none => exact wpAny_pure (h _ trivial)
      | some b => exact wpAny_pure (h _ trivial)
theorem hashBy_keys : ∀ (ks : List NestedKey) (vs : List Value) (n : Nat) (s : Shared), NestedAll s.heap ks vs → ∀ v ∈ vs, AskB P w (hashByValue n) (fun _ => True) s v
  | [], _, n, s, x, v, hv => by cases x; cases hv
  | k :: ks, _, n, s, x, v, hv => by
    cases x with
    | cons x1 x2 =>
      rcases List.mem_cons.mp hv with e | hv
      · rw [e]
        exact hashBy_key k _ n s x1
      · exact hashBy_keys ks _ n s x2 v hv
end
/-- a search among keys is not seen -/
theorem seen_key {A : Around} {E : Value → Shared → Prop} {s : Shared} {Q : Bool → Shared → Prop} {k : NestedKey} {x : Value} (hx : NestedIs s.heap k x) (hk : k.depth ≤ 8) {ys : List Value} (hy : ∀ y ∈ ys, ∃ k', NestedIs s.heap k' y ∧ k'.depth ≤ 8) (h : Q false s) :
    wpAny (model P w) A (searchCouldBeSeen x ys) Q E s := by
  unfold searchCouldBeSeen
  refine wpAny_bind (wpAny_forIn_list _ (fun rest r s' => r.1 = none ∧ s' = s ∧ ∀ y ∈ rest, ∃ k', NestedIs s.heap k' y ∧ k'.depth ≤ 8) _ ?_ ?_ _ _ ⟨rfl, rfl, hy⟩)
  · rintro y rest r s' ⟨hr, rfl, hall⟩
    obtain ⟨k', hy', hk'⟩ := hall y List.mem_cons_self
    have more : ∀ z ∈ rest, ∃ k', NestedIs s'.heap k' z ∧ k'.depth ≤ 8 := fun z hz => hall z (List.mem_cons_of_mem _ hz)
    dsimp only
    split
    all_goals
      split
      · exact wpAny_pure ⟨rfl, rfl, more⟩
      · refine wpAny_bind (quiet_key k _ 8 s' hx hk _ _ _ ?_)
        simp only [Bool.not_true, Bool.false_eq_true, if_false]
        refine wpAny_bind (quiet_key k' _ 8 s' hy' hk' _ _ _ ?_)
        simp only [Bool.not_true, Bool.false_eq_true, if_false]
        refine wpAny_bind (class_key k _ 8 s' hx hk _ _ _ fun b hb => ?_)
        rw [hb]
        simp only [Bool.false_eq_true, if_false]
        refine wpAny_bind (class_key k' _ 8 s' hy' hk' _ _ _ fun b hb => ?_)
        rw [hb]
        simp only [Bool.false_eq_true, if_false]
        exact wpAny_pure ⟨rfl, rfl, more⟩
  · rintro ⟨r1, r2⟩ s' ⟨hr, rfl, _⟩
    simp only at hr
    subst hr
    exact wpAny_pure h
end
end Pd
end
section
set_option Elab.async false
set_option linter.all false
set_option maxRecDepth 100000
set_option autoImplicit false
/-! Sets of tuples in the heap itself: the search, one more. -/
namespace Pd
open PySem PySem.Spec PyProof.Rows L2
def ElsIs (h : Heap) (L : List (Value × NestedKey)) : Prop := ∀ p ∈ L, NestedIs h p.2 p.1 ∧ p.2.depth ≤ 8
section
variable {P : Program} {w : World} {A : Around} {E : Value → Shared → Prop} {s : Shared} {a : Addr} {L : List (Value × NestedKey)} {o : Obj} {es : Array (Int × Value)} {ep : Nat} {t : SetTable} {x : Value} {k : NestedKey}
abbrev prb (t : SetTable) (h : Int) (c : Nat) : SetTable.Probe := nth t.mask (runAt t.mask (SetTable.bits h % (t.mask + 1)) (SetTable.bits h)) c
theorem prb_dummy (t : SetTable) (h : Int) (c : Nat) : (prb t h c).dummy = none := by
  have all : ∀ (n : Nat) (p : SetTable.Probe), p.dummy = none → (nth t.mask p n).dummy = none := by
    intro n
    induction n with
    | zero => exact fun p e => e
    | succ n ih =>
      intro p e
      refine ih _ ?_
      unfold adv
      split <;> exact e
  exact all c _ rfl
theorem prb_more (t : SetTable) (h : Int) (c q : Nat) : nth t.mask (prb t h c) q = prb t h (c + q) := (nth_add t.mask c _ q).symm
theorem row_at (hr : es.toList = L.map (rowOf w)) {i : Nat} {p : Value × NestedKey} (h : L[i]? = some p) : es[i]? = some (rowOf w p) := by
  rw [← Array.getElem?_toList, hr, List.getElem?_map, h]
  rfl
theorem row_hash (hr : es.toList = L.map (rowOf w)) {i : Nat} {p : Value × NestedKey} (h : L[i]? = some p) : (es[i]?.map (·.1)).getD 0 = p.2.hash w := by
  rw [row_at hr h]
  rfl
theorem eq_at {p : Value × NestedKey} (hu : A.units + 8 < cLine) (hp : NestedIs s.heap p.2 p.1) (hx : NestedIs s.heap k x) (hk : k.depth ≤ 8) {Q : Bool → Shared → Prop} (h : Q (decide (p.2 = k)) s) : wpAny (model P w) A (eqBool p.1 x) Q E s := by
  refine eqAt_key p.2 k A s _ _ hp hx (by omega) _ _ _ _ ?_
  rw [← NestedKey.decide_eq]
  exact h
theorem search_go (ho : s.heap.get? a = some o) (hd : o.data = .set es ep t) (hr : es.toList = L.map (rowOf w)) (hf : t.fits es.size = true) (T : TabOk t (L.map fun p => p.2.hash w)) (hel : ElsIs s.heap L) (href : ∀ p ∈ L, ∃ b, p.1 = Value.ref b) (hx : NestedIs s.heap k x) (hk : k.depth ≤ 8) (hu : A.units + 8 < cLine)
    {K : Nat} (hKf : K < 10 * SetTable.turns t.mask) (hK : way t.mask (k.hash w) K ∉ t.place.toList) (hKb : ∀ c, c < K → way t.mask (k.hash w) c ∈ t.place.toList) {adding : Bool} {Q : SetFound → Shared → Prop}
    (yes : k ∈ L.map (·.2) → ∀ r : Option Nat, (adding = true ∨ r.isSome = true) → Q (.there r) s) (no : k ∉ L.map (·.2) → Q (.free (way t.mask (k.hash w) K) false) s) :
    ∀ (f c : Nat) (st : Option SetTable.Probe), st.getD (t.probeStart (k.hash w)) = prb t (k.hash w) c → c ≤ K → K - c < f →
      (∀ (i : Nat) p, L[i]? = some p → p.2 = k → ∃ c', c ≤ c' ∧ c' < K ∧ t.place.toList[i]? = some (way t.mask (k.hash w) c')) → wpAny (model P w) A (setSearchFrom a x (k.hash w) adding f st) Q E s := by
  have jw : ∀ c q, (nth t.mask (prb t (k.hash w) c) q).j = way t.mask (k.hash w) (c + q) := fun c q => congrArg SetTable.Probe.j (prb_more t _ c q)
  intro f
  induction f with
  | zero => exact fun c st _ _ hlt _ => absurd hlt (Nat.not_lt_zero _)
  | succ f ih =>
    intro c st hst hc hlt hre
    rw [setSearchFrom_succ]
    refine wpAny_bind (wpAny_setState_of ho hd hf ?_)
    dsimp only
    refine wp_if_neg (show ¬ t.gaveWay = true from by unfold SetTable.gaveWay; rw [mask_odd T.mok]; decide) ?_
    try refine wpAny_bind (wpAny_pure ?_)
    rcases go_spec t T.ris T.dm (fun i => (es[i]?.map (·.1)).getD 0) (k.hash w) (10 * SetTable.turns t.mask) (K - c) (prb t (k.hash w) c) (prb_dummy _ _ _) (by omega) (fun q hq => by rw [jw]; exact hKb _ (by omega)) (by rw [jw, show c + (K - c) = K by omega]; exact hK) with
      ⟨q, i, hq, hi, hh, hno, hpr⟩ | ⟨hno, hpr⟩
    · rw [← hst] at hpr
      have hpr : t.probe (fun i => (es[i]?.map (·.1)).getD 0) (k.hash w) (st.getD (t.probeStart (k.hash w))) = some (.candidate (way t.mask (k.hash w) (c + q)) i (prb t (k.hash w) (c + (q + 1)))) := by
        have z := hpr
        rw [hst, jw, prb_more] at z
        rw [hst]
        exact z
      rw [hpr]
      dsimp only
      rw [jw] at hi
      have hil : i < L.length := by
        have h1 := (List.getElem?_eq_some_iff.mp hi).1
        have h2 := T.sz
        rw [List.length_map] at h2
        rw [Array.length_toList] at h1
        omega
      obtain ⟨p, hp⟩ : ∃ p, L[i]? = some p := ⟨_, List.getElem?_eq_getElem hil⟩
      have hm : p ∈ L := List.mem_of_getElem? hp
      have rest : wpAny (model P w) A (searchRest a x (k.hash w) adding f es t (way t.mask (k.hash w) (c + q)) i (prb t (k.hash w) (c + (q + 1)))) Q E s := by
        unfold searchRest
        rw [row_at hr hp]
        dsimp only
        refine wpAny_bind (wpAny_holding (eq_at hu (hel p hm).1 hx hk ?_))
        refine wpAny_bind (wpAny_setState_of ho hd hf ?_)
        dsimp only
        have hsl : t.slot (way t.mask (k.hash w) (c + q)) = .live i := slot_live T.ris hi
        by_cases hkk : p.2 = k
        · have hy : k ∈ L.map (·.2) := List.mem_map.mpr ⟨p, hm, hkk⟩
          cases adding with
          | true =>
            refine wp_if_pos (by simp [hkk]) ?_
            exact wpAny_pure (yes hy none (.inl rfl))
          | false =>
            refine wp_if_neg (by simp) ?_
            try refine wpAny_bind (wpAny_pure ?_)
            rw [sameMem]
            dsimp only
            simp only [if_true, hsl, row_at hr hp]
            cases hv : p.1 with
            | ref b =>
              refine wpAny_bind (wpAny_isSame_ref_self (wpAny_bind (wpAny_pure ?_)))
              simp only [if_true]
              refine wp_if_pos (by simp [hkk]) ?_
              exact wpAny_pure (yes hy (some i) (.inr rfl))
            | _ =>
              obtain ⟨b, e⟩ := href p hm
              rw [hv] at e
              cases e
        · refine wp_if_neg (by simp [hkk]) ?_
          try refine wpAny_bind (wpAny_pure ?_)
          rw [sameMem]
          dsimp only
          simp only [if_true, hsl, row_at hr hp]
          cases hv : p.1 with
          | ref b =>
            refine wpAny_bind (wpAny_isSame_ref_self (wpAny_bind (wpAny_pure ?_)))
            simp only [if_true]
            refine wp_if_neg (by simp [hkk]) ?_
            refine ih (c + (q + 1)) _ rfl (by omega) (by omega) fun i0 p0 h0 hk0 => ?_
            obtain ⟨c', a1, a2, a3⟩ := hre i0 p0 h0 hk0
            refine ⟨c', ?_, a2, a3⟩
            rcases Nat.lt_trichotomy c' (c + q) with z | z | z
            · exfalso
              exact hno (c' - c) i0 (by omega) (by rw [jw, show c + (c' - c) = c' by omega]; exact a3) ((row_hash hr h0).trans (by rw [hk0]))
            · exfalso
              rw [z] at a3
              have s0 := slot_live T.ris a3
              rw [hsl] at s0
              cases s0
              rw [hp] at h0
              cases h0
              exact hkk hk0
            · omega
          | _ =>
            obtain ⟨b, e⟩ := href p hm
            rw [hv] at e
            cases e
      by_cases hl : t.led = true
      · refine wp_if_neg (by simp [hl]) ?_
        try refine wpAny_bind (wpAny_pure ?_)
        exact rest
      · refine wp_if_pos (by simp [hl]) ?_
        refine wpAny_bind (seen_key hx hk (fun y hy => ?_) ?_)
        · obtain ⟨e, he, ee⟩ := List.mem_map.mp hy
          have he1 : e ∈ es ∧ e.1 = k.hash w := by simpa using he
          have he2 : e ∈ es.toList := by simpa using he1.1
          rw [hr] at he2
          obtain ⟨p2, hp2, e2⟩ := List.mem_map.mp he2
          rw [← ee, ← e2]
          exact ⟨p2.2, hel p2 hp2⟩
        · refine wp_if_neg (by decide) ?_
          try refine wpAny_bind (wpAny_pure ?_)
          exact rest
    · have hpr : t.probe (fun i => (es[i]?.map (·.1)).getD 0) (k.hash w) (st.getD (t.probeStart (k.hash w))) = some (.empty (way t.mask (k.hash w) K) none) := by
        have z := hpr
        rw [jw, show c + (K - c) = K by omega] at z
        rw [hst]
        exact z
      rw [hpr]
      dsimp only
      refine wpAny_pure (no fun hm => ?_)
      obtain ⟨p0, h0, hk0⟩ := List.mem_map.mp hm
      obtain ⟨i0, hi0, e0⟩ := List.getElem_of_mem h0
      have h00 : L[i0]? = some p0 := by rw [List.getElem?_eq_getElem hi0, e0]
      obtain ⟨c', a1, a2, a3⟩ := hre i0 p0 h00 hk0
      exact hno (c' - c) i0 (by omega) (by rw [jw, show c + (c' - c) = c' by omega]; exact a3) ((row_hash hr h00).trans (by rw [hk0]))
theorem search_in (ho : s.heap.get? a = some o) (hd : o.data = .set es ep t) (hr : es.toList = L.map (rowOf w)) (hf : t.fits es.size = true) (T : TabOk t (L.map fun p => p.2.hash w)) (room : L.length * 5 < t.mask * 3) (hel : ElsIs s.heap L) (href : ∀ p ∈ L, ∃ b, p.1 = Value.ref b) (hx : NestedIs s.heap k x) (hk : k.depth ≤ 8) (hu : A.units + 8 < cLine)
    {adding : Bool} {Q : SetFound → Shared → Prop} (yes : k ∈ L.map (·.2) → ∀ r : Option Nat, (adding = true ∨ r.isSome = true) → Q (.there r) s)
    (no : ∀ K, k ∉ L.map (·.2) → way t.mask (k.hash w) K ∉ t.place.toList → (∀ c, c < K → way t.mask (k.hash w) c ∈ t.place.toList) → Q (.free (way t.mask (k.hash w) K) false) s) : wpAny (model P w) A (setSearch a x (k.hash w) adding) Q E s := by
  obtain ⟨K, hKf, hK, hKb⟩ := T.first (by rw [List.length_map]; omega) (k.hash w)
  have big : K < 100000 := by
    have : 10 * SetTable.turns t.mask ≤ 1420 := by
      unfold SetTable.turns
      rcases T.mok with e | e | e <;> omega
    omega
  unfold setSearch
  refine search_go ho hd hr hf T hel href hx hk hu hKf hK hKb yes (fun hn => no K hn hK hKb) 100000 0 none rfl (Nat.zero_le _) (by omega) fun i p hp hkp => ?_
  have hi : (L.map fun p => p.2.hash w)[i]? = some (k.hash w) := by
    rw [List.getElem?_map, hp, ← hkp]
    rfl
  have hil : i < t.place.toList.length := by
    have h1 : i < L.length := (List.getElem?_eq_some_iff.mp hp).1
    have h2 := T.sz
    rw [List.length_map] at h2
    rw [Array.length_toList]
    omega
  have hj := List.getElem?_eq_getElem hil
  obtain ⟨c, hc, e⟩ := T.before hK hi hj
  exact ⟨c, Nat.zero_le _, hc, by rw [hj, e]⟩
/-- an element's place in another order -/
theorem pick_order {order : Array Nat} (hr : es.toList = L.map (rowOf w)) (hp : order.toList.Perm (List.range L.length)) :
    ∃ L2 : List (Value × NestedKey), L2.Perm L ∧ (order.filterMap (es[·]?)).toList = L2.map (rowOf w) ∧ (L2.map fun p => p.2.hash w) = order.toList.map fun i => (es.map (·.1)).getD i 0 := by
  have hsz : es.size = L.length := by
    have z := congrArg List.length hr
    rwa [Array.length_toList, List.length_map] at z
  have step : ∀ l : List Nat, (∀ i ∈ l, i < L.length) → ∃ L2 : List (Value × NestedKey), L2 = l.filterMap (fun i => L[i]?) ∧ l.filterMap (fun i => es[i]?) = L2.map (rowOf w) ∧ (L2.map fun p => p.2.hash w) = l.map fun i => (es.map (·.1)).getD i 0 := by
    intro l
    induction l with
    | nil => exact fun _ => ⟨[], rfl, rfl, rfl⟩
    | cons i l ih =>
      intro hl
      have hi := hl i List.mem_cons_self
      obtain ⟨L2, e1, e2, e3⟩ := ih fun j hj => hl j (List.mem_cons_of_mem _ hj)
      have g := List.getElem?_eq_getElem hi
      refine ⟨L[i] :: L2, by rw [List.filterMap_cons_some g, e1], by rw [List.filterMap_cons_some (row_at hr g), e2]; rfl, ?_⟩
      rw [List.map_cons, List.map_cons, e3]
      have e5 : (es.map (·.1))[i]? = some ((L[i]).2.hash w) := by
        rw [Array.getElem?_map, row_at hr g]
        rfl
      have e6 : (es.map (·.1)).getD i 0 = (L[i]).2.hash w := by simp [Array.getD_eq_getD_getElem?, e5]
      rw [e6]
  obtain ⟨L2, e1, e2, e3⟩ := step order.toList fun i hi => List.mem_range.mp (hp.mem_iff.mp hi)
  refine ⟨L2, ?_, by rw [Array.toList_filterMap]; exact e2, e3⟩
  rw [e1]
  refine (hp.filterMap _).trans ?_
  rw [List.filterMap_getElem?_range_length]
theorem elsIs_put {h h' : Heap} {L L' : List (Value × NestedKey)} (sb : Heap.SameBut a h h') (ho : h.get? a = some o) (hd : o.data = .set es ep t) (hel : ElsIs h L) : ElsIs h' L := fun p hp => by
  refine ⟨NestedIs.at (fun b ob vs n hb hc => ?_) _ _ (hel p hp).1, (hel p hp).2⟩
  refine (sb.2 b fun e => ?_).trans hb
  rw [e, ho] at hb
  cases hb
  rw [hd] at hc
  cases hc
theorem perm_put {α : Type} (L : List α) (p : Nat) (x : α) : (L.take p ++ x :: L.drop p).Perm (x :: L) := by
  refine List.perm_middle.trans ?_
  rw [List.take_append_drop]
/-- the table is laid anew -/
theorem relay_key (ho : s.heap.get? a = some o) (hex : o.ExactSet) (hd : o.data = .set es ep t) (hr : es.toList = L.map (rowOf w)) (hf : t.fits es.size = true) (nd : (L.map (·.2)).Nodup) (href : ∀ p ∈ L, ∃ b, p.1 = Value.ref b) (ld : w.params.followText "set-order" = true ∨ t.led = true) (few : L.length < 64)
    {wanted M : Nat} (hw : SetTable.sizeAbove wanted - 1 = M) (hM : MaskOk M) (hw2 : SetTable.sizeAbove wanted ≤ 128) (hn : L.length * 5 < M * 3) {Q : Unit → Shared → Prop} (hQ : ∀ h' L', Heap.SameBut a s.heap h' → L'.Perm L → SetA w h' a L' → Q () { s with heap := h' }) : wpAny (model P w) A (setRelay a wanted) Q E s := by
  have hsz : es.size = L.length := by
    have z := congrArg List.length hr
    rwa [Array.length_toList, List.length_map] at z
  obtain ⟨t', order, e, hp, T, em, el, ep', ed⟩ := relaid_ok t (hs := es.map (·.1)) (wanted := wanted) hw hM (by rw [Array.size_map, hsz]; omega)
  rw [Array.size_map, hsz] at hp
  obtain ⟨L2, p2, r2, r3⟩ := pick_order hr hp
  rw [← r3] at T
  have hs2 : (order.filterMap (es[·]?)).size = es.size := by
    rw [← Array.length_toList, r2, List.length_map, p2.length_eq, hsz]
  rw [setRelay_eq]
  refine wpAny_bind (wpAny_setState_of ho hd hf ?_)
  dsimp only
  refine wp_if_neg (by rw [sizeLine_eq]; omega) ?_
  try refine wpAny_bind (wpAny_pure ?_)
  rw [e]
  dsimp only
  refine wpAny_bind ?_
  refine wp_if_neg (by rw [hs2]; simp) ?_
  try refine wpAny_bind (wpAny_pure ?_)
  refine wpAny_pure ?_
  dsimp only
  refine wpAny_storeSet_of ho hd ?_ (by rw [hs2, hsz, sizeLine_eq]; omega)
  have fit : t'.fits (order.filterMap (es[·]?)).size = true := by
    have h1 := T.sz
    rw [List.length_map] at h1
    unfold SetTable.fits SetTable.fill
    rw [ed, Bool.and_eq_true, beq_iff_eq, decide_eq_true_eq, hs2, hsz, h1, p2.length_eq]
    refine ⟨rfl, ?_⟩
    show L.length + 0 ≤ _
    omega
  refine hQ _ L2 (Heap.SameBut.update ..) p2 ⟨_, _, ep + 1, t', store_at ho hd, hex, rfl, r2, (p2.map (·.2)).nodup_iff.mpr nd, fit, T.ris, by rw [el]; exact ld, by rw [p2.length_eq]; unfold scanBound; omega, .inr ⟨fun p hpm => href p (p2.mem_iff.mp hpm), T, by rw [p2.length_eq, em]; exact hn, by rw [p2.length_eq]; exact few⟩⟩
end
end Pd
end
section
set_option Elab.async false
set_option linter.all false
set_option maxRecDepth 100000
set_option autoImplicit false
/-! Sets in the heap itself: s.add(x), x in s. -/
namespace Pd
open PySem PySem.Spec PyProof.Rows L2
section
variable {P : Program} {w : World} {A : Around} {E : Value → Shared → Prop} {s : Shared} {a : Addr} {L : List (Value × NestedKey)} {x : Value} {k : NestedKey}
theorem knd_tup {es : Array (Int × Value)} {t : SetTable} (F : SetF w L es t) (href : ∀ p ∈ L, ∃ b, p.1 = Value.ref b) : TabOk t (L.map fun p => p.2.hash w) ∧ L.length * 5 < t.mask * 3 ∧ L.length < 64 := by
  rcases F.knd with ⟨hne, hs⟩ | ⟨_, h1, h2, h3⟩
  · exfalso
    cases L with
    | nil => exact hne rfl
    | cons p L =>
      obtain ⟨b, e⟩ := href p List.mem_cons_self
      obtain ⟨q, _, e2⟩ := hs p List.mem_cons_self
      rcases keyIs_shape e2 with ⟨_, _, _, z⟩ | ⟨_, _, _, z⟩ <;> (rw [z] at e; cases e)
  · exact ⟨h1, h2, h3⟩
theorem set_tup {b : Addr} {Q : Bool → Shared → Prop} (R : SetA w s.heap a L) (hel : ElsIs s.heap L) (href : ∀ p ∈ L, ∃ b, p.1 = Value.ref b) (hx : NestedIs s.heap k (.ref b)) (hk : k.depth ≤ 8) (hu : A.units + 8 < cLine) (few : L.length + 1 < 64) (yes : k ∈ L.map (·.2) → Q false s)
    (no : k ∉ L.map (·.2) → ∀ h' L', Heap.SameBut a s.heap h' → L'.Perm ((.ref b, k) :: L) → SetA w h' a L' → Q true { s with heap := h' }) : wpAny (model P w) A (setAddHashed a (.ref b) (k.hash w)) Q E s := by
  obtain ⟨o, es, ep, t, ho, hex, hd, F⟩ := R
  obtain ⟨T, room, _⟩ := knd_tup F href
  have hsz : es.size = L.length := F.size
  unfold setAddHashed
  refine wpAny_holding ?_
  rw [show (100000 : Nat) = 99999 + 1 from rfl, setAddHashedIn_succ]
  refine wpAny_bind (wpAny_setState_of ho hd F.fits ?_)
  dsimp only
  refine wp_if_neg (by simp [byScan, Value.scannable]) ?_
  try refine wpAny_bind (wpAny_pure ?_)
  refine wpAny_bind (search_in ho hd F.rows F.fits T room hel href hx hk hu (fun hm r _ => ?_) fun K hm hK hb => ?_)
  · dsimp only
    exact wpAny_pure (yes hm)
  · dsimp only
    refine wpAny_bind (wpAny_setState_of ho hd F.fits ?_)
    dsimp only
    obtain ⟨q1, q2, q3, q4, q5, q6, q7, q8, q9⟩ := T.put hK hb
    generalize t.put (way t.mask (k.hash w) K) = pt at q1 q3 q4 q5 q6 q7 q8 q9 ⊢
    obtain ⟨t1, j⟩ := pt
    dsimp only at q1 q3 q4 q5 q6 q7 q8 q9 ⊢
    subst q1
    have hin : (SetTable.insertAt es (SetTable.below t.place (way t.mask (k.hash w) K)) (k.hash w, Value.ref b)).toList = (L.take (SetTable.below t.place (way t.mask (k.hash w) K)) ++ (Value.ref b, k) :: L.drop (SetTable.below t.place (way t.mask (k.hash w) K))).map (rowOf w) := by
      rw [SetTable.toList_insertAt, F.rows, List.map_append, List.map_cons, List.map_take, List.map_drop]
    generalize SetTable.below t.place (way t.mask (k.hash w) K) = j at q2 q3 hin ⊢
    have pm := perm_put L j (Value.ref b, k)
    have hlen : (L.take j ++ (Value.ref b, k) :: L.drop j).length = L.length + 1 := pm.length_eq
    have hhs : (L.take j ++ (Value.ref b, k) :: L.drop j).map (fun p => p.2.hash w) = (L.map fun p => p.2.hash w).take j ++ k.hash w :: (L.map fun p => p.2.hash w).drop j := by
      rw [List.map_append, List.map_cons, List.map_take, List.map_drop]
    rw [← hhs] at q3
    have nd1 : ((L.take j ++ (Value.ref b, k) :: L.drop j).map (·.2)).Nodup := by
      refine (pm.map (·.2)).nodup_iff.mpr ?_
      rw [List.map_cons]
      exact List.nodup_cons.mpr ⟨hm, F.nd⟩
    have hes : (SetTable.insertAt es j (k.hash w, Value.ref b)).size = L.length + 1 := by
      rw [← Array.length_toList, hin, List.length_map, hlen]
    generalize SetTable.insertAt es j (k.hash w, Value.ref b) = es1 at hin hes ⊢
    generalize L.take j ++ (Value.ref b, k) :: L.drop j = L1 at pm hlen q3 nd1 hin
    have ref1 : ∀ p ∈ L1, ∃ b, p.1 = Value.ref b := fun p hp => by
      rcases List.mem_cons.mp (pm.mem_iff.mp hp) with e | hp
      · exact ⟨b, by rw [e]⟩
      · exact href p hp
    have ld1 : w.params.followText "set-order" = true ∨ t1.led = true := by rw [q5]; exact F.led
    -- behind the question whether its hash goes by value
    have go : ∀ t2 : SetTable, t2.mask = t1.mask → t2.place = t1.place → t2.dummies = t1.dummies → t2.led = t1.led → wpAny (model P w) A (do
        storeSet a es1 t2
        if (!false && t2.tooFull) = true then do
          setRelay a (SetTable.grown (es.size + 1))
          pure true
        else pure true) Q E s := fun t2 m1 m2 m3 m4 => by
      have T2 : TabOk t2 (L1.map fun p => p.2.hash w) := ⟨by rw [m2]; exact q3.ris, by rw [m3]; exact q3.dm, by rw [m2]; exact q3.sz, by rw [m1]; exact q3.mok, by rw [m1, m2]; exact q3.bd, by rw [m1, m2]; exact q3.reach⟩
      have fill2 : t2.fill = L.length + 1 := by
        have : t2.fill = t1.fill := by unfold SetTable.fill; rw [m2, m3]
        rw [this, q9, List.length_map]
      have sz2 : t2.place.size = L.length + 1 := by rw [T2.sz, List.length_map, hlen]
      have mk2 : t2.mask = t.mask := by rw [m1, q4]
      have fit2 : t2.fits es1.size = true := by
        unfold SetTable.fits
        rw [Bool.and_eq_true, beq_iff_eq, decide_eq_true_eq, sz2, hes, fill2, mk2]
        refine ⟨rfl, ?_⟩
        rcases T.mok with e | e | e <;> rw [e] at room ⊢ <;> omega
      have ld2 : w.params.followText "set-order" = true ∨ t2.led = true := by rw [m4]; exact ld1
      refine wpAny_bind (wpAny_storeSet_of ho hd ?_ (by rw [hes, sizeLine_eq]; omega))
      have sb := Heap.SameBut.update s.heap a (Obj.putSet es1 t2)
      have o1 := store_at (es' := es1) (t' := t2) ho hd
      generalize s.heap.update a (Obj.putSet es1 t2) = h1 at sb o1 ⊢
      by_cases hf : t2.tooFull = true
      · refine wp_if_pos (by simp [hf]) ?_
        have hfull : (L.length + 1) * 5 ≥ t.mask * 3 := by
          have z := hf
          unfold SetTable.tooFull at z
          rw [decide_eq_true_eq, fill2, mk2] at z
          exact z
        rw [hsz]
        have two : (t.mask = 7 ∧ L.length = 4) ∨ (t.mask = 31 ∧ L.length = 18) := by
          rcases T.mok with e | e | e
          · left
            rw [e] at hfull room
            exact ⟨e, by omega⟩
          · right
            rw [e] at hfull room
            exact ⟨e, by omega⟩
          · exfalso
            rw [e] at hfull
            omega
        have lay : ∀ M, SetTable.sizeAbove (SetTable.grown (L.length + 1)) - 1 = M → MaskOk M → SetTable.sizeAbove (SetTable.grown (L.length + 1)) ≤ 128 → (L.length + 1) * 5 < M * 3 → wpAny (model P w) A (do
            setRelay a (SetTable.grown (L.length + 1))
            pure true) Q E { s with heap := h1 } := fun M g1 g2 g3 g4 => by
          refine wpAny_bind (relay_key (s := { s with heap := h1 }) o1 hex rfl hin fit2 nd1 ref1 ld2 (by rw [hlen]; exact few) g1 g2 g3 (by rw [hlen]; exact g4) fun h2 L2 sb2 p2 R2 => ?_)
          exact wpAny_pure (no hm h2 L2 (sb.trans sb2) (p2.trans pm) R2)
        rcases two with ⟨_, e⟩ | ⟨_, e⟩
        · exact lay 31 (by rw [e, size_20]) (.inr (.inl rfl)) (by rw [e, size_20]; decide) (by omega)
        · exact lay 127 (by rw [e, size_76]) (.inr (.inr rfl)) (by rw [e, size_76]; decide) (by omega)
      · refine wp_if_neg (by simp [hf]) ?_
        refine wpAny_pure (no hm h1 L1 sb pm ⟨_, es1, ep + 1, t2, o1, hex, rfl, hin, nd1, fit2, T2.ris, ld2, by rw [hlen]; unfold scanBound; omega, .inr ⟨ref1, T2, ?_, by rw [hlen]; exact few⟩⟩)
        have z := hf
        unfold SetTable.tooFull at z
        rw [decide_eq_true_eq, fill2] at z
        rw [hlen]
        omega
    by_cases hpl : t1.plain = true
    · first
        | (refine wpAny_bind (wp_if_pos hpl (hashBy_key k _ 8 s hx _ _ _ fun bb _ => ?_)))
        | (refine wp_if_pos hpl (wpAny_bind (hashBy_key k _ 8 s hx _ _ _ fun bb _ => ?_)))
      cases bb with
      | true => exact go t1 rfl rfl rfl rfl
      | false => exact go { t1 with plain := false } rfl rfl rfl rfl
    · first
        | (refine wpAny_bind (wp_if_neg hpl (wpAny_pure ?_)))
        | (refine wp_if_neg hpl (wpAny_bind (wpAny_pure ?_)))
      exact go t1 rfl rfl rfl rfl
end
end Pd
end
section
set_option Elab.async false
set_option linter.all false
set_option maxRecDepth 100000
set_option maxHeartbeats 2000000
set_option autoImplicit false
/-! set(xs), whatever a set of such elements is. -/
namespace Pd
open PySem PySem.Spec PyProof.Rows L2
section
variable {P : Program} {w : World} {A : Around} {E : Value → Shared → Prop} {s : Shared}
abbrev newSetO (w : World) : Obj := { cls := .type "set", dict := none, data := .set #[] 0 (.fresh 0 0 (!w.params.followText "set-order")) }
/-- one item more: J tells of the set at S behind so many items -/
def AddsJ (P : Program) (w : World) (u : Nat) (h0 : Heap) (S : Addr) (items : Array Value) (J : Nat → Heap → Prop) : Prop := ∀ (i : Nat) (v : Value) (A : Around) (E : Value → Shared → Prop) (s : Shared) (Q : Bool → Shared → Prop), A.units ≤ u → items[i]? = some v → J i s.heap →
  (∀ b o, h0.get? b = some o → s.heap.get? b = some o) → (∀ (r : Bool) (h' : Heap) (tk : Nat), s.toks ≤ tk → Heap.SameBut S s.heap h' → J (i + 1) h' → Q r { s with heap := h', toks := tk }) → wpAny (model P w) A (setAdd S v) Q E s
theorem set_loop {I : Addr} {fp wr : List Addr} {G : Array GenState → Array GenState → Prop} {items : Array Value} {St : Nat → Shared → Prop} {R : Result → Shared → Prop} (W : WalksS P w A.in1 I fp wr G items.size (fun i v => items[i]? = some v) St) (S : Addr) (hSf : S ∉ fp)
    {h0 : Heap} {J : Nat → Heap → Prop} {u : Nat} (hu : A.in1.units ≤ u) (add : AddsJ P w u h0 S items J) (stay : ∀ i h h', J i h → (∀ b o, b ∉ wr → h.get? b = some o → h'.get? b = some o) → J i h') (hS0 : h0.get? S = none) (hw0 : ∀ b ∈ wr, h0.get? b = none) :
    ∀ (n i : Nat) (s : Shared), items.size - i = n → i ≤ items.size → St i s → (∀ b o, h0.get? b = some o → s.heap.get? b = some o) → J i s.heap →
      (∀ s', Moved (S :: wr) G s s' → J items.size s'.heap → (∀ b o, h0.get? b = some o → s'.heap.get? b = some o) → R (.ok (.ret .none)) s') → codeAny (model P w) A (.builtin "set.update.loop" ⟨[.ref S, .ref I], []⟩) R s := by
  have more : ∀ b ∈ wr, b ∈ S :: wr := fun b hb => List.mem_cons_of_mem _ hb
  have old : ∀ {s1 s2 : Shared}, Moved wr G s1 s2 → (∀ b o, h0.get? b = some o → s1.heap.get? b = some o) → ∀ b o, h0.get? b = some o → s2.heap.get? b = some o := fun m k b o e =>
    m.heap b o (fun z => by rw [hw0 b z] at e; cases e) (k b o e)
  intro n
  induction n with
  | zero =>
    intro i s hn hi hst hk hJ hR
    have e : i = items.size := by omega
    subst e
    refine codeAny_builtin F.entry_set_update_loop ?_
    rw [Around.under_plainId F.plain_set_update_loop _]
    show wpAny _ A.in1 (pyNext (.ref I) >>= _) _ _ s
    refine wpAny_bind (W.done s _ _ hst fun s' m => ?_)
    show wpAny _ A.in1 (ret Value.none) _ _ s'
    exact wpAny_pure (hR s' (m.mono more) (stay _ _ _ hJ fun b o hb e => m.heap b o hb e) (old m hk))
  | succ n ih =>
    intro i s hn hi hst hk hJ hR
    have hlt : i < items.size := by omega
    refine codeAny_builtin F.entry_set_update_loop ?_
    rw [Around.under_plainId F.plain_set_update_loop _]
    show wpAny _ A.in1 (pyNext (.ref I) >>= _) _ _ s
    refine wpAny_bind (W.item i s _ _ hlt hst fun v s' hv hst' m => ?_)
    have hk' := old m hk
    show wpAny _ A.in1 (holding [v] (setAdd S v) >>= _) _ _ s'
    refine wpAny_bind (wpAny_holding (add i v _ _ s' _ hu hv (stay _ _ _ hJ fun b o hb e => m.heap b o hb e) hk' fun r h' tk htk sb J' => ?_))
    have hk2 : ∀ b o, h0.get? b = some o → h'.get? b = some o := fun b o e => (sb.2 b fun z => by rw [z, hS0] at e; cases e).trans (hk' b o e)
    refine wpAny_pure ⟨plainId_quiet F.plain_set_update_loop _, ih (i + 1) _ (by omega) hlt (W.frame _ s' _ _ hst' htk fun b hb o e => (sb.2 b fun z => hSf (by rw [← z]; exact hb)).trans e) hk2 J' fun s'' m2 J2 hk3 => ?_⟩
    exact hR s'' (Moved.trans W.gtrans ((m.mono more).then_heap htk fun b o hb e => (sb.2 b fun z => hb (by rw [z]; exact List.mem_cons_self)).trans e) m2) J2 hk3
theorem call_set_of {l : Addr} {items : Array Value} {Q : Value → Shared → Prop} {J : Nat → Heap → Prop} (hh : A.handled = none) (hl : s.heap.IsList l items) (add : AddsJ P w (A.units + 4) s.heap s.heap.objs.size items J)
    (stay : ∀ i h h', J i h → (∀ b o, b ≠ s.heap.objs.size + 1 → h.get? b = some o → h'.get? b = some o) → J i h') (begin_ : ∀ h, h.get? s.heap.objs.size = some (newSetO w) → (∀ b o, s.heap.get? b = some o → h.get? b = some o) → J 0 h)
    (hQ : ∀ h' tk, J items.size h' → (∀ b o, s.heap.get? b = some o → h'.get? b = some o) → Q (.ref s.heap.objs.size) { s with heap := h', toks := tk }) : wpAny (model P w) A (call (.type "set") [.ref l]) Q E s := by
  obtain ⟨c, tl, hmro⟩ := F.called_set.mro
  have hmade := F.called_set.made
  have hsub := F.called_set.sub
  refine wpAny_call (codeAny_of_tree ?_)
  show wpAny _ _ (callAny (.type "set") _) _ _ _
  refine wpAny_pure ⟨Code.quiet_builtin _ (by decide +kernel), codeAny_builtin F.entry_type_call ?_⟩
  rw [Around.under_plain (weight_type_call_type "set" [.ref l] []) rfl]
  have g1 := F.called_set.notType
  have g2 := F.called_set.canCreate
  have g3 := F.typeCall_set_1 (.ref l)
  repeat any_goals first | assumption | wp_step
  refine codeAny_mono (code_set_led1 (.ref l) (E := E) (Q₁ := fun ob s1 => ob = .ref s.heap.objs.size ∧ s1 = { s with heap := s.heap.push (newSetO w) }) ⟨rfl, rfl⟩) fun r s1 hr => ?_
  cases r with
  | error e => exact hr
  | ok fl =>
    cases fl with
    | ret ob =>
      obtain ⟨rfl, rfl⟩ := hr
      have hS : (s.heap.push (newSetO w)).get? s.heap.objs.size = some (newSetO w) := Heap.get?_push_size _ rfl
      have hT : Shared.TypeIs { s with heap := s.heap.push (newSetO w) } (.ref s.heap.objs.size) "set" := ⟨_, hS, rfl⟩
      have k1 := F.called_set.init.lookup
      have k2 := F.called_set.init.bind (.ref s.heap.objs.size)
      repeat any_goals first | assumption | wp_step
      refine codeAny_mono (codeAny_call_builtin (R := wants (fun r s2 => r = .none ∧ ∃ h' tk, s2 = { s with heap := h', toks := tk } ∧ J items.size h' ∧ ∀ b o, s.heap.get? b = some o → h'.get? b = some o) E) F.called_set.init.plain F.entry_set_init (check_set_init_1 hT ?_)) fun r2 s2 hr2 => ?_
      · obtain ⟨ol, hol, hcl, nl, hdl⟩ := hl
        obtain ⟨oc, od, odt, osl⟩ := ol
        simp only at hcl hdl
        subst hcl hdl
        have hol' : (s.heap.push (newSetO w)).get? l = some { cls := .type "list", dict := od, data := .seq items nl, slots := osl } := Heap.get?_push_of_some _ hol
        have z1 := F.sub_list_set
        have z2 := F.sub_list_frozenset
        have z3 : (Value.type "list" == Value.type "dict") = false := by decide
        have hl1 : (s.heap.push (newSetO w)).IsList l items := ⟨_, hol', rfl, nl, rfl⟩
        unfold Builtin.«set.__init__» noKeywords Builtin.Frozenset.updateFrom
        generalize hPI : pyIter = PI
        wp_walk
        subst hPI
        refine wpAny_pyIter_list hl1 ?_
        refine wpAny_bind (wpAny_runValue ?_)
        have hlS : l < s.heap.objs.size := Heap.lt_size hol
        have hh3 : A.in1.in1.in1.handled = none := by simp [hh]
        have sz1 : (s.heap.push (newSetO w)).objs.size = s.heap.objs.size + 1 := Heap.size_push ..
        have ne1 : l ≠ (s.heap.push (newSetO w)).objs.size := by
          rw [sz1]
          exact Nat.ne_of_lt (Nat.lt_succ_of_lt hlS)
        have no : ∀ b, s.heap.objs.size ≤ b → s.heap.get? b = none := fun b hb => by
          cases q : s.heap.get? b with
          | none => rfl
          | some o => exact absurd (Nat.lt_of_lt_of_le (Heap.lt_size q) hb) (Nat.lt_irrefl _)
        refine set_loop ((Walks.list hh3 _ l ne1 items).toS) s.heap.objs.size (by
            rw [sz1]
            simp only [List.mem_cons, List.mem_singleton, List.not_mem_nil, or_false, not_or]
            exact ⟨Nat.ne_of_lt (Nat.lt_succ_self _), Nat.ne_of_gt hlS⟩) (u := A.units + 4) (by show A.units + 1 + 1 + 1 ≤ A.units + 4; omega) add (fun i h h' j k => stay i h h' j fun b o hb e => k b o (by rw [sz1]; simpa using hb) e) (no _ (Nat.le_refl _)) (fun b hb => no b (by
            rw [List.mem_singleton.mp hb, sz1]
            exact Nat.le_succ _)) (items.size - 0) 0 _ (by omega) (Nat.zero_le _) ⟨⟨_, Heap.get?_push_size _ rfl, rfl, rfl⟩, (hl1.push _)⟩ (fun b o e => Heap.get?_push_of_some _ (Heap.get?_push_of_some _ e)) ?j0 ?rest
        case j0 => exact begin_ _ (Heap.get?_push_of_some _ hS) fun b o e => Heap.get?_push_of_some _ (Heap.get?_push_of_some _ e)
        case rest =>
          intro s' m J' hk
          obtain ⟨h', gg, dd, tk, os⟩ := s'
          cases (show gg = s.gens from m.gens)
          cases (show dd = s.drawn from m.drawn)
          cases (show os = s.os from m.os)
          show wpAny _ _ _ _ _ _
          refine wpAny_pure ?_
          show wpAny _ _ (ret Value.none) _ _ _
          exact wpAny_pure ⟨rfl, h', tk, rfl, J', hk⟩
      · cases r2 with
        | error e => exact hr2
        | ok fl2 =>
          cases fl2 with
          | ret r =>
            obtain ⟨rfl, h', tk, rfl, J', hk⟩ := hr2
            repeat any_goals first | assumption | wp_step
            exact hQ _ _ J' hk
          | _ => exact hr2.elim
    | _ => exact hr.elim
end
end Pd
end
section
set_option Elab.async false
set_option linter.all false
set_option maxRecDepth 100000
set_option autoImplicit false
/-! Sets: what the data tells. -/
namespace Pd
open PySem PySem.Spec PyProof.Rows L2
theorem paired_perm {α β : Type} {F : α → β → Prop} : ∀ {l₁ l₁' : List α} {l₂ : List β}, Paired F l₁ l₂ → l₁'.Perm l₁ → ∃ l₂' : List β, Paired F l₁' l₂' ∧ l₂'.Perm l₂ := by
  intro l₁ l₁' l₂ h p
  induction p generalizing l₂ with
  | nil =>
    cases h
    exact ⟨[], .nil, .refl _⟩
  | cons x _ ih =>
    cases h with
    | cons r rs =>
      obtain ⟨m, a, b⟩ := ih rs
      exact ⟨_ :: m, .cons r a, .cons _ b⟩
  | swap x y l =>
    cases h with
    | cons r rs =>
      cases rs with
      | cons r2 rs => exact ⟨_, .cons r2 (.cons r rs), .swap _ _ _⟩
  | trans _ _ ih1 ih2 =>
    obtain ⟨m, a, b⟩ := ih2 h
    obtain ⟨m', c, d⟩ := ih1 a
    exact ⟨m', c, d.trans b⟩
theorem keyIs_of {q : Key} {v : Value} (h : RelV (kV q) v) : keyIs q v = true := by
  cases q with
  | inl i =>
    obtain ⟨t, rfl⟩ := (show ∃ t, v = Value.int i t from h)
    simp [keyIs, Value.isInt]
  | inr x =>
    obtain ⟨t, rfl⟩ := (show ∃ t, v = Value.str x t from h)
    simp [keyIs, Value.isStrOf]
theorem pmem' {α β : Type} {F : α → β → Prop} {y : β} : ∀ {l₁ : List α} {l₂ : List β}, Paired F l₁ l₂ → y ∈ l₂ → ∃ q, q ∈ l₁ ∧ F q y
  | _, _, .nil, h => by cases h
  | _, _, .cons r rs, h => by
    rcases List.mem_cons.mp h with e | h
    · subst e
      exact ⟨_, List.mem_cons_self, r⟩
    · obtain ⟨q, h1, h2⟩ := pmem' rs h
      exact ⟨q, List.mem_cons_of_mem _ h1, h2⟩
section
variable {X : Cx} {pins : List (Addr × Obj)} {σ : L2.St} {H : Hp} {s : Shared} {ρ : List Addr} {A : Around} {E : Value → Shared → Prop} {P : Program} {w : World}
theorem els_is (I : Inv X pins σ H s) {L : List (Value × NestedKey)} {es : List D} (r : Paired (ElR X.K ρ H) L es) : ElsIs s.heap L := fun p hp => by
  obtain ⟨d, _, h1, h2, v, h3, h4⟩ := pmem r hp
  exact ⟨key_is I d v p.1 p.2 h4 h3 h1, h2⟩
theorem els_scan {K : PySem.W.Frag} {L : List (Value × NestedKey)} {es : List D} (r : Paired (ElR K ρ H) L es) (h : ∀ d ∈ es, d.scal = true) : ScanL L := fun p hp => by
  obtain ⟨d, hd, h1, _, v, h3, h4⟩ := pmem r hp
  obtain ⟨q, rfl⟩ := scal_v h4 (h d hd)
  refine ⟨q, ?_, keyIs_of h3⟩
  rcases kV_d h4 with ⟨i, rfl, rfl⟩ | ⟨x, rfl, rfl⟩
  · exact (Option.some.inj h1).symm
  · exact (Option.some.inj h1).symm
theorem els_ref {K : PySem.W.Frag} {L : List (Value × NestedKey)} {es : List D} (r : Paired (ElR K ρ H) L es) (h : ∀ d ∈ es, d.tupK = true) : ∀ p ∈ L, ∃ b, p.1 = Value.ref b := fun p hp => by
  obtain ⟨d, hd, _, _, v, h3, h4⟩ := pmem r hp
  have := h d hd
  cases h4 with
  | tup ht _ => exact ⟨_, h3⟩
  | _ => cases this
theorem saddD_some {ds es : List D} {d : D} (h : saddD ds d = some es) : likeK ds d = true ∧ (d.scal = true ∧ ds.length < 4000 ∨ ds.length < 62) ∧ es = if (ds.any fun e => e.eq d) = true then ds else ds ++ [d] := by
  unfold saddD at h
  split at h
  · rename_i c
    obtain ⟨c1, c2⟩ := Bool.and_eq_true_iff.mp c
    rw [Bool.or_eq_true, Bool.and_eq_true, decide_eq_true_eq, decide_eq_true_eq] at c2
    exact ⟨c1, c2, (Option.some.inj h).symm⟩
  · cases h
theorem likeK_cases {ds : List D} {d : D} (h : likeK ds d = true) : (d.scal = true ∧ ∀ e ∈ ds, e.scal = true) ∨ (d.tupK = true ∧ ∀ e ∈ ds, e.tupK = true) := by
  unfold likeK at h
  rw [Bool.or_eq_true, Bool.and_eq_true, Bool.and_eq_true, List.all_eq_true, List.all_eq_true] at h
  exact h
theorem any_key {K : PySem.W.Frag} {L : List (Value × NestedKey)} {es ds : List D} {d : D} {k : NestedKey} (r : Paired (ElR K ρ H) L es) (pm : es.Perm ds) (hk : d.key = some k) : k ∈ L.map (·.2) ↔ (ds.any fun e => e.eq d) = true := by
  rw [List.any_eq_true, List.mem_map]
  constructor
  · rintro ⟨p, hp, e⟩
    obtain ⟨d', hd', h1, _⟩ := pmem r hp
    refine ⟨d', pm.mem_iff.mp hd', ?_⟩
    rw [← key_eq h1 hk, decide_eq_true_eq]
    exact e
  · rintro ⟨d', hd', e⟩
    obtain ⟨p, hp, h1, _⟩ := pmem' r (pm.mem_iff.mpr hd')
    refine ⟨p, hp, ?_⟩
    rw [← key_eq h1 hk, decide_eq_true_eq] at e
    exact e
theorem setO_ok {T : Tb} {H' : Hp} {h' : Heap} {a : Addr} {L : List (Value × NestedKey)} (o : OfX T X) (x : SetA X.w h' a L) : ObjOk X.prog X.w H' h' a (SetO T a L) := by
  obtain ⟨ob, es, ep, t, e1, e2, e3, F⟩ := x
  refine ⟨⟨ob, es, ep, t, e1, e2, e3, by rw [o.w]; exact F⟩, ⟨ob, e1⟩, fun h1 h2 ⟨ob, es, ep, t, e1, e2⟩ k => ⟨ob, es, ep, t, k _ e1, e2⟩⟩
theorem Inv.setA {T : Tb} {a : Addr} {L : List (Value × NestedKey)} (I : Inv X pins σ H s) (o : OfX T X) (h : H a = some (SetO T a L)) : SetA X.w s.heap a L := by
  obtain ⟨⟨ob, es, ep, t, e1, e2, e3, F⟩, _, _⟩ := (show ObjOk X.prog X.w H s.heap a (SetO T a L) from I.hok a _ h)
  exact ⟨ob, es, ep, t, e1, e2, e3, by rw [← o.w]; exact F⟩
/-- one element more -/
theorem set_step {a : Addr} {L : List (Value × NestedKey)} {es ds ds' : List D} {d : D} {y : V} {x : Value} {k : NestedKey} {K : PySem.W.Frag} {Q : Bool → Shared → Prop} (R : SetA w s.heap a L) (hel : ElsIs s.heap L) (pr : Paired (ElR K ρ H) L es) (pm : es.Perm ds) (hy : VR K ρ H y d) (ry : RelV y x)
    (hx : NestedIs s.heap k x) (hk : d.key = some k) (hk8 : k.depth ≤ 8) (hs : saddD ds d = some ds') (hu : A.units + 8 < cLine)
    (h : ∀ (r : Bool) h' L' es', Heap.SameBut a s.heap h' → SetA w h' a L' → Paired (ElR K ρ H) L' es' → es'.Perm ds' → Q r { s with heap := h' }) : wpAny (model P w) A (setAddHashed a x (k.hash w)) Q E s := by
  obtain ⟨h1, h2, rfl⟩ := saddD_some hs
  have hlen : L.length = ds.length := pr.length.trans pm.length_eq
  have an := any_key pr pm hk
  have yes : k ∈ L.map (·.2) → Q false s := fun hm => by
    rw [if_pos (an.mp hm)] at h
    exact h false s.heap L es (Heap.SameBut.refl a s.heap) R pr pm
  have no : k ∉ L.map (·.2) → ∀ h' L', Heap.SameBut a s.heap h' → L'.Perm ((x, k) :: L) → SetA w h' a L' → Q true { s with heap := h' } := fun hm h' L' sb p R' => by
    rw [if_neg (fun z => hm (an.mpr z))] at h
    have c : Paired (ElR K ρ H) ((x, k) :: L) (d :: es) := .cons ⟨hk, hk8, y, ry, hy⟩ pr
    obtain ⟨es', c1, c2⟩ := paired_perm c p
    exact h true h' L' es' sb R' c1 (c2.trans ((pm.cons d).trans (List.perm_append_singleton d ds).symm))
  rcases likeK_cases h1 with ⟨g1, g2⟩ | ⟨g1, g2⟩
  · obtain ⟨q, rfl⟩ := scal_v hy g1
    have hq : keyIs q x = true := keyIs_of ry
    have ek : k = nkey q := by
      rcases kV_d hy with ⟨i, rfl, rfl⟩ | ⟨z, rfl, rfl⟩
      · cases hk
        rfl
      · cases hk
        rfl
    subst ek
    refine set_scan R hq (els_scan pr fun e he => g2 e (pm.mem_iff.mp he)) ?_ yes no
    unfold scanBound
    rw [hlen]
    rcases h2 with ⟨_, z⟩ | z <;> omega
  · have hb : ∃ b, x = .ref b := by
      cases hy with
      | tup ht _ => exact ⟨_, ry⟩
      | _ => cases g1
    obtain ⟨b, rfl⟩ := hb
    refine set_tup R hel (els_ref pr fun e he => g2 e (pm.mem_iff.mp he)) hx hk8 hu ?_ yes no
    rw [hlen]
    rcases h2 with ⟨z, _⟩ | z
    · rw [tupK_scal g1] at z
      cases z
    · omega
theorem set_add {a : Addr} {L : List (Value × NestedKey)} {es ds ds' : List D} {d : D} {y : V} {x : Value} {K : PySem.W.Frag} {Q : Bool → Shared → Prop} (R : SetA w s.heap a L) (hel : ElsIs s.heap L) (pr : Paired (ElR K ρ H) L es) (pm : es.Perm ds) (hy : VR K ρ H y d) (ry : RelV y x)
    (hx : ∀ k, d.key = some k → NestedIs s.heap k x) (hs : saddD ds d = some ds') (hu : A.units + 8 < cLine)
    (h : ∀ (r : Bool) h' L' es' tk, s.toks ≤ tk → Heap.SameBut a s.heap h' → SetA w h' a L' → Paired (ElR K ρ H) L' es' → es'.Perm ds' → Q r { s with heap := h', toks := tk }) : wpAny (model P w) A (setAdd a x) Q E s := by
  obtain ⟨h1, _, _⟩ := saddD_some hs
  obtain ⟨k, hk, hk8⟩ : ∃ k, d.key = some k ∧ k.depth ≤ 8 := by
    rcases likeK_cases h1 with ⟨g1, _⟩ | ⟨g1, _⟩
    · cases d <;> first | (cases g1; done) | exact ⟨_, rfl, by simp [NestedKey.depth]⟩
    · obtain ⟨ds, ks, _, e, dp⟩ := tupK_key g1
      exact ⟨_, e, dp⟩
  unfold setAdd
  refine wpAny_holding (wpAny_bind (pyHash_key k x A s _ (hx k hk) (by omega) ?_))
  exact set_step (s := { s with toks := s.toks + k.draws }) R hel pr pm hy ry (hx k hk) hk hk8 hs hu fun r h' L' es' sb R' p' q' => h r h' L' es' _ (Nat.le_add_right _ _) sb R' p' q'
/-! ### x in s -/
theorem set_find {a : Addr} {L : List (Value × NestedKey)} {es ds : List D} {d : D} {y : V} {x : Value} {k : NestedKey} {K : PySem.W.Frag} {Q : Option Nat → Shared → Prop} (R : SetA w s.heap a L) (hel : ElsIs s.heap L) (pr : Paired (ElR K ρ H) L es) (pm : es.Perm ds) (hy : VR K ρ H y d) (ry : RelV y x)
    (hx : NestedIs s.heap k x) (hk : d.key = some k) (hk8 : k.depth ≤ 8) (hs : likeK ds d = true) (hu : A.units + 8 < cLine) (h : ∀ r : Option Nat, r.isSome = (ds.any fun e => e.eq d) → Q r s) : wpAny (model P w) A (setFind a x (k.hash w)) Q E s := by
  have an := any_key pr pm hk
  obtain ⟨o, es0, ep, t, ho, hex, hd, F⟩ := R
  unfold setFind
  rw [show (100000 : Nat) = 99999 + 1 from rfl]
  unfold setFindIn
  refine wpAny_bind (wpAny_setState_of ho hd F.fits ?_)
  dsimp only
  have scan : ScanL L → ∀ q, k = nkey q → keyIs q x = true → wpAny (model P w) A (do
      if byScan x es0 then
        rule "set.find.by-scan"
        match ← setScan a x (k.hash w) false es0 with
        | .found i => return some i
        | .absent => return none
        | .anew => return ← setFindIn a x (k.hash w) 99999
      match ← setSearch a x (k.hash w) with
      | .there i => return i
      | .free .. => return none) Q E s := fun sc q ek hq => by
    subst ek
    have hel2 : ElemsOf (mixKind P w) es0.toList := sc.elems F.rows
    have hk2 : (mixKind P w).is q x = true := hq
    rw [byScan_of (keyIs_scan hq) (by rw [F.size]; exact F.few) hel2]
    simp only [↓reduceIte]
    rw [← nkey_hash]
    refine wpAny_bind (wpAny_rule (wpAny_bind (wpAny_setScan_of hk2 ho hd F.fits hel2 ?_)))
    have mem : nkey q ∈ L.map (·.2) ↔ ∃ e ∈ es0.toList, (mixKind P w).is q e.2 = true := by
      rw [F.rows, List.mem_map]
      constructor
      · rintro ⟨p, hp, e⟩
        obtain ⟨q', e1, e2⟩ := sc p hp
        have : q' = q := nkey_inj (e1.symm.trans e)
        subst this
        exact ⟨rowOf w p, List.mem_map.mpr ⟨p, hp, rfl⟩, e2⟩
      · rintro ⟨e, he, hi⟩
        obtain ⟨p, hp, rfl⟩ := List.mem_map.mp he
        obtain ⟨q', e1, e2⟩ := sc p hp
        have : q = q' := (mixKind P w).inj _ _ _ hi e2
        subst this
        exact ⟨p, hp, e1⟩
    cases hf : List.findIdx? (fun e => (mixKind P w).is q e.2) es0.toList with
    | some j =>
      dsimp only
      obtain ⟨hj, pj, _⟩ := List.findIdx?_eq_some_iff_getElem.mp hf
      exact wpAny_pure (h _ (by rw [an.mp (mem.mpr ⟨_, List.getElem_mem hj, pj⟩)]; rfl))
    | none =>
      dsimp only
      refine wpAny_pure (h none ?_)
      cases z : ds.any fun e => e.eq d with
      | false => rfl
      | true =>
        obtain ⟨e, he, hi⟩ := mem.mp (an.mpr z)
        have c := List.findIdx?_eq_none_iff.mp hf e he
        rw [hi] at c
        cases c
  rcases likeK_cases hs with ⟨g1, g2⟩ | ⟨g1, g2⟩
  · obtain ⟨q, rfl⟩ := scal_v hy g1
    refine scan (els_scan pr fun e he => g2 e (pm.mem_iff.mp he)) q ?_ (keyIs_of ry)
    rcases kV_d hy with ⟨i, rfl, rfl⟩ | ⟨z, rfl, rfl⟩
    · exact (Option.some.inj hk).symm
    · exact (Option.some.inj hk).symm
  · have hb : ∃ b, x = .ref b := by
      cases hy with
      | tup ht _ => exact ⟨_, ry⟩
      | _ => cases g1
    obtain ⟨b, rfl⟩ := hb
    have href := els_ref pr fun e he => g2 e (pm.mem_iff.mp he)
    obtain ⟨T, room, _⟩ := knd_tup F href
    refine wp_if_neg (by simp [byScan, Value.scannable]) ?_
    try refine wpAny_bind (wpAny_pure ?_)
    refine wpAny_bind (search_in ho hd F.rows F.fits T room hel href hx hk8 hu (fun hm r hr => ?_) fun K hm hK hb => ?_)
    · refine wpAny_pure (h r ?_)
      rw [an.mp hm]
      rcases hr with z | z
      · cases z
      · exact z
    · refine wpAny_pure (h none ?_)
      cases z : ds.any fun e => e.eq d with
      | false => rfl
      | true => exact absurd (an.mpr z) hm
theorem set_has {a : Addr} {L : List (Value × NestedKey)} {es ds : List D} {d : D} {y : V} {x : Value} {K : PySem.W.Frag} {Q : Bool → Shared → Prop} (R : SetA w s.heap a L) (hel : ElsIs s.heap L) (pr : Paired (ElR K ρ H) L es) (pm : es.Perm ds) (hy : VR K ρ H y d) (ry : RelV y x)
    (hx : ∀ k, d.key = some k → NestedIs s.heap k x) (hs : likeK ds d = true) (hu : A.units + 9 < cLine) (h : ∀ tk, Q (ds.any fun e => e.eq d) { s with toks := tk }) : wpAny (model P w) A (contains (.ref a) x) Q E s := by
  obtain ⟨k, hk, hk8⟩ : ∃ k, d.key = some k ∧ k.depth ≤ 8 := by
    rcases likeK_cases hs with ⟨g1, _⟩ | ⟨g1, _⟩
    · cases d <;> first | (cases g1; done) | exact ⟨_, rfl, by simp [NestedKey.depth]⟩
    · obtain ⟨ds, ks, _, e, dp⟩ := tupK_key g1
      exact ⟨_, e, dp⟩
  have ty : s.TypeIs (.ref a) "set" := by
    obtain ⟨o, _, _, _, e1, e2, _⟩ := R
    exact ⟨o, e1, e2.1⟩
  unfold contains
  try with_reducible refine wpAny_holding ?_
  refine wpAny_bind (wpAny_specialOf ty PySem.F.slot_set_contains.lookup ?_)
  show wpAny _ _ (if (some (Value.builtin "set.__contains__") == some Value.none) = true then _ else _) _ E s
  rw [if_neg (by rw [beq_builtin_none]; exact Bool.false_ne_true)]
  refine wpAny_bind (wpAny_callSpecialUnlessNone?_slot (name := Str.ofString "__contains__") ty PySem.F.slot_set_contains (wpAny_call_entry PySem.F.slot_set_contains ty entry_set_contains ?_ (PySem.F.args_set_contains_2 _ _)))
  unfold Builtin.«frozenset.__contains__» Builtin.Frozenset.oneOther
  simp only [List.isEmpty_nil, bind_assoc]
  unfold Builtin.Frozenset.addrOf Builtin.Frozenset.withSetAsKey setContains
  refine wpAny_bind (wpAny_pure ?_)
  try dsimp only
  refine wpAny_bind (wpAny_pure ?_)
  try dsimp only
  refine wpAny_bind (wpAny_tryCatch (wpAny_holding (wpAny_bind (pyHash_key k x _ s _ (hx k hk) (by have := hk8; show A.units + 1 + k.depth < cLine; omega) ?_))))
  refine wpAny_bind (set_find (s := { s with toks := s.toks + k.draws }) R hel pr pm hy ry (hx k hk) hk hk8 hs (by show A.units + 1 + 8 < cLine; omega) fun r hr => ?_)
  refine wpAny_pure ?_
  show wpAny _ _ (ret (Value.bool r.isSome)) _ _ _
  rw [hr]
  exact wpAny_pure ⟨_, rfl, wpAny_truthy_bool (h _)⟩
end
end Pd
end
section
set_option Elab.async false
set_option linter.all false
set_option maxRecDepth 100000
set_option autoImplicit false
/-! t < u of two tuples, where an item's own < is asked of the first unlike place alone. -/
namespace Pd
open PySem PySem.Spec PyProof.Rows PySem.SeqAt
open PySem.AutoSeq1 (wpAny_loadPart')
open PySem.MeetsSeq PySem.MeetsSeq2 PySem.MeetsSeq3 PySem.SeqRoads2

theorem zipLen (xs ys : Array Value) : (xs.toList.zip ys.toList).length = min xs.size ys.size := by simp
theorem rangeDrop {n i : Nat} (h : i < n) : (List.range n).drop i = i :: (List.range n).drop (i + 1) := by simp [List.drop_eq_getElem_cons, h]

theorem tupleLtFirst (l b : Addr) (us vs : Array Value) (n m : Nat) (dd ee : Option Addr) (sl sm : Array (Option Value)) (e r : Nat → Bool) :
    Meets (Builtin.«tuple.__lt__» ⟨[.ref l, .ref b], []⟩)
      (fun A R s => s.heap.get? l = some { cls := .type "tuple", dict := dd, data := .seq us n, slots := sl } ∧
        s.heap.get? b = some { cls := .type "tuple", dict := ee, data := .seq vs m, slots := sm } ∧
        (∀ j (h1 : j < us.size) (h2 : j < vs.size), EqAt A.in1 s us[j] vs[j] (e j)) ∧
        (∀ j (h1 : j < us.size) (h2 : j < vs.size), (∀ i, i < j → e i = true) → e j = false → RcLt A.in1 s us[j] vs[j] (r j)) ∧
        R (.ok (.ret (.bool (firstLt e r (decide (us.size < vs.size)) (List.range (min us.size vs.size)))))) s) :=
  .of_wp fun prog w A R s h => by
    obtain ⟨hp, g, d, tk, os⟩ := s
    obtain ⟨hl, hb, he, hr, h⟩ := h
    have sub := AutoSeq1.sub_tuple_tuple
    have zl := zipLen us vs
    wp_walk using wpAny_loadPart' hl, wpAny_loadPart' hb, wpAny_forIn_list _ (fun left acc s' => acc.1 = none ∧ s' = ⟨hp, g, d, tk, os⟩ ∧
      ∃ i, left = (us.toList.zip vs.toList).drop i ∧ (∀ k, k < i → e k = true) ∧
        R (.ok (.ret (.bool (firstLt e r (decide (us.size < vs.size)) ((List.range (min us.size vs.size)).drop i))))) ⟨hp, g, d, tk, os⟩) _
    case turn =>
      rintro ⟨y, x⟩ left acc s' ⟨hacc, rfl, i, hz, ha, hR⟩
      have hlt : i < (us.toList.zip vs.toList).length := Nat.lt_of_not_le fun q => by
        rw [List.drop_of_length_le q] at hz
        cases hz
      have hm : i < min us.size vs.size := by omega
      have h1 : i < us.size := by omega
      have h2 : i < vs.size := by omega
      rw [List.drop_eq_getElem_cons hlt] at hz
      injection hz with hyx hleft
      have hy : y = us[i] := by simpa using congrArg Prod.fst hyx
      have hx : x = vs[i] := by simpa using congrArg Prod.snd hyx
      subst hy hx
      rw [rangeDrop hm] at hR
      refine wpAny_bind (he i h1 h2 prog w _ _ ?_)
      by_cases q : e i = true
      · rw [q]
        rw [firstLt_yes q] at hR
        wp_walk
        exact ⟨rfl, rfl, i + 1, hleft, fun k hk => (Nat.lt_succ_iff_lt_or_eq.mp hk).elim (ha k) (fun z => z ▸ q), hR⟩
      · have q' : e i = false := by simpa using q
        rw [q']
        rw [firstLt_no q'] at hR
        have hr0 := hr i h1 h2 ha q'
        unfold RcLt at hr0
        generalize hrc : richCompare CmpOp.Lt us[i] vs[i] = rc at hr0 ⊢
        wp_walk
        refine hr0 prog w _ _ ?_
        wp_walk
        exact ⟨_, rfl, hR⟩
    case fin =>
      rintro ⟨b1, b2⟩ s' ⟨hacc, rfl, i, hz, ha, hR⟩
      simp only at hacc
      subst hacc
      have hge : min us.size vs.size ≤ i := Nat.le_of_not_lt fun q => by
        rw [List.drop_eq_getElem_cons (show i < (us.toList.zip vs.toList).length by omega)] at hz
        cases hz
      rw [List.drop_of_length_le (by simpa using hge)] at hR
      wp_walk
      exact ⟨_, rfl, by simpa [Builtin.Tuple.tupleCompareSizes, firstLt] using hR⟩
    case h => exact ⟨rfl, rfl, 0, rfl, fun k hk => absurd hk (Nat.not_lt_zero k), by simpa using h⟩

theorem rcLtTuples {A : Around} {s : Shared} {l b : Addr} {us vs : Array Value} {e r : Nat → Bool} (hl : s.heap.IsTuple l us) (hb : s.heap.IsTuple b vs) (hu : A.units < cLine)
    (he : ∀ j (h1 : j < us.size) (h2 : j < vs.size), EqAt A.in1 s us[j] vs[j] (e j))
    (hr : ∀ j (h1 : j < us.size) (h2 : j < vs.size), (∀ i, i < j → e i = true) → e j = false → RcLt A.in1 s us[j] vs[j] (r j)) :
    RcLt A s (.ref l) (.ref b) (firstLt e r (decide (us.size < vs.size)) (List.range (min us.size vs.size))) := fun prog w E Q h => by
  obtain ⟨⟨c1, d1, t1, s1⟩, ho, hc, n, hd⟩ := id hl
  obtain ⟨⟨c2, d2, t2, s2⟩, ho2, hc2, m, hd2⟩ := id hb
  simp only at hc hd hc2 hd2
  subst hc hd hc2 hd2
  exact richCompare_meets_room (op := .Lt) ⟨_, ho, rfl⟩ ⟨_, ho2, rfl⟩ F.slot_tuple_lt F.entry_tuple_lt (F.args_tuple_lt_2 _ _) (tupleLtFirst l b us vs n m d1 d2 s1 s2 e r)
    ⟨ho, ho2, he, hr, show Value.bool (firstLt e r (decide (us.size < vs.size)) (List.range (min us.size vs.size))) ≠ Value.notImplemented ∧ Q (.bool (firstLt e r (decide (us.size < vs.size)) (List.range (min us.size vs.size)))) s from ⟨(fun x => nomatch x), h⟩⟩ hu

/-! ### the order of plain data -/
theorem firstLt_of : ∀ (ds es : List D) (k : Bool), lts ds es = some k →
    firstLt (fun j => (ds.getD j .non).eq (es.getD j .non)) (fun j => ((ds.getD j .non).lt (es.getD j .non)).getD false) (decide (ds.length < es.length)) (List.range (min ds.length es.length)) = k
  | [], [], k, h => by
    cases h
    rfl
  | [], _ :: es, k, h => by
    cases h
    show decide (0 < es.length + 1) = true
    exact decide_eq_true (Nat.succ_pos _)
  | _ :: ds, [], k, h => by
    cases h
    show decide (ds.length + 1 < 0) = false
    exact decide_eq_false (Nat.not_lt_zero _)
  | d :: ds, e :: es, k, h => by
    have h' : (if D.eq d e then lts ds es else D.lt d e) = some k := h
    have em : min (d :: ds).length (e :: es).length = min ds.length es.length + 1 := by
      rw [List.length_cons, List.length_cons]
      omega
    have ed : decide ((d :: ds).length < (e :: es).length) = decide (ds.length < es.length) := by
      rw [List.length_cons, List.length_cons]
      exact decide_eq_decide.mpr (by omega)
    rw [em, ed, List.range_succ_eq_map]
    have shift : ∀ (f r : Nat → Bool) (z : Bool) (l : List Nat), firstLt f r z (l.map Nat.succ) = firstLt (fun j => f (j + 1)) (fun j => r (j + 1)) z l := fun f r z l => by
      induction l with
      | nil => rfl
      | cons j t ih =>
        show (if f (j + 1) = true then firstLt f r z (t.map Nat.succ) else r (j + 1)) = (if f (j + 1) = true then firstLt _ _ z t else r (j + 1))
        rw [ih]
    by_cases q : D.eq d e = true
    · rw [if_pos q] at h'
      rw [firstLt_yes (show _ = true from q), shift]
      exact firstLt_of ds es k h'
    · rw [if_neg q] at h'
      rw [firstLt_no (show _ = false from by simpa using q)]
      show (D.lt d e).getD false = k
      rw [h']
      rfl
/-- the first unlike place decides: its items' own < is told -/
theorem lts_first : ∀ (ds es : List D) (k : Bool) (j : Nat), lts ds es = some k → j < ds.length → j < es.length →
    (∀ i, i < j → (ds.getD i .non).eq (es.getD i .non) = true) → (ds.getD j .non).eq (es.getD j .non) = false → ∃ r, (ds.getD j .non).lt (es.getD j .non) = some r
  | [], _, _, _, _, h1, _, _, _ => absurd h1 (Nat.not_lt_zero _)
  | _ :: _, [], _, _, _, _, h2, _, _ => absurd h2 (Nat.not_lt_zero _)
  | d :: ds, e :: es, k, 0, h, h1, h2, ha, hn => by
    have h' : (if D.eq d e then lts ds es else D.lt d e) = some k := h
    have hn' : D.eq d e = false := hn
    rw [hn'] at h'
    exact ⟨k, h'⟩
  | d :: ds, e :: es, k, j + 1, h, h1, h2, ha, hn => by
    have h' : (if D.eq d e then lts ds es else D.lt d e) = some k := h
    have h0 : D.eq d e = true := ha 0 (Nat.succ_pos _)
    rw [if_pos h0] at h'
    exact lts_first ds es k j h' (Nat.lt_of_succ_lt_succ h1) (Nat.lt_of_succ_lt_succ h2) (fun i hi => ha (i + 1) (Nat.succ_lt_succ hi)) hn
section
variable {s : Shared}
theorem readsAll_get : ∀ {us : List Value} {ds : List D} {as : List Addr} {j : Nat} (h : ReadsAll s.heap us (toPys ds) as) (hj : j < us.length), j < ds.length ∧ ∃ bs, Reads s.heap us[j] (toPy (ds.getD j .non)) bs
  | [], _, _, _, _, hj => absurd hj (Nat.not_lt_zero _)
  | u :: us, [], _, _, h, _ => by cases h
  | u :: us, d :: ds, _, 0, h, _ => by
    cases h with
    | cons h1 h2 => exact ⟨Nat.succ_pos _, _, h1⟩
  | u :: us, d :: ds, _, j + 1, h, hj => by
    cases h with
    | cons h1 h2 =>
      obtain ⟨a, b⟩ := readsAll_get (j := j) h2 (Nat.lt_of_succ_lt_succ hj)
      exact ⟨Nat.succ_lt_succ a, b⟩
theorem toPys_len : ∀ ds : List D, (toPys ds).length = ds.length
  | [] => rfl
  | _ :: ds => congrArg (· + 1) (toPys_len ds)
theorem fits_get : ∀ {ds : List D} {k j : Nat}, fits ds k = true → (ds.getD j .non).fit k = true
  | [], k, j, _ => rfl
  | d :: ds, k, 0, h => (fits_cons h).1
  | d :: ds, k, j + 1, h => fits_get (j := j) (fits_cons h).2
theorem eqAtD {A : Around} {a b : D} {k l : Nat} {u v : Value} {as bs : List Addr} (ha : a.fit k = true) (hb : b.fit l = true) (ra : Reads s.heap u (toPy a) as) (rb : Reads s.heap v (toPy b) bs) (hu : A.units + k < cLine) : EqAt A s u v (a.eq b) := by
  obtain ⟨c1, d1⟩ := lay_of a k ha
  obtain ⟨c2, _⟩ := lay_of b l hb
  have h := eqAt_reads (toPy a) (toPy b) A s u v as bs ra rb c1 c2 (by
    have := Nat.min_le_left (toPy a).depth (toPy b).depth
    omega)
  rwa [eq_of a b k l ha hb] at h
theorem rcLtTup {k : Nat} (ih : ∀ (a b : D) (l : Nat) (r : Bool) (A : Around) (u v : Value) (as bs : List Addr), a.fit k = true → b.fit l = true → a.lt b = some r →
      Reads s.heap u (toPy a) as → Reads s.heap v (toPy b) bs → A.units + k < cLine → RcLt A s u v r)
    {xs ys : List D} {l : Nat} {r : Bool} {A : Around} {u v : Value} {as bs : List Addr} (ha : fits xs k = true) (hb : fits ys l = true) (h : lts xs ys = some r)
    (ra : Reads s.heap u (.tuple (toPys xs)) as) (rb : Reads s.heap v (.tuple (toPys ys)) bs) (hu : A.units + (k + 1) < cLine) : RcLt A s u v r := by
  cases ra with
  | @tuple p o us n _ as₁ h1 h2 h3 h4 =>
    cases rb with
    | @tuple p' o' vs n' _ bs₁ k1 k2 k3 k4 =>
      have n1 : us.size = xs.length := by
        have := ReadsAll.length _ _ _ h4
        rw [toPys_len] at this
        simpa using this
      have n2 : vs.size = ys.length := by
        have := ReadsAll.length _ _ _ k4
        rw [toPys_len] at this
        simpa using this
      have hin : A.in1.units + k < cLine := by
        show A.units + 1 + k < cLine
        omega
      have q := rcLtTuples (A := A) (s := s) (l := p) (b := p') (us := us) (vs := vs) (e := fun j => (xs.getD j .non).eq (ys.getD j .non)) (r := fun j => ((xs.getD j .non).lt (ys.getD j .non)).getD false)
        ⟨_, h1, h2, _, h3⟩ ⟨_, k1, k2, _, k3⟩ (by omega) (fun j j1 j2 => ?_) (fun j j1 j2 hall hne => ?_)
      · rw [n1, n2, firstLt_of xs ys r h] at q
        exact q
      · obtain ⟨_, c1, r1⟩ := readsAll_get h4 (j := j) (by simpa using j1)
        obtain ⟨_, c2, r2⟩ := readsAll_get k4 (j := j) (by simpa using j2)
        exact eqAtD (fits_get ha) (fits_get hb) (by simpa using r1) (by simpa using r2) hin
      · obtain ⟨_, c1, r1⟩ := readsAll_get h4 (j := j) (by simpa using j1)
        obtain ⟨_, c2, r2⟩ := readsAll_get k4 (j := j) (by simpa using j2)
        obtain ⟨r0, e0⟩ := lts_first xs ys r j h (by omega) (by omega) hall hne
        have q2 := ih (xs.getD j .non) (ys.getD j .non) l r0 A.in1 us[j] vs[j] c1 c2 (fits_get ha) (fits_get hb) e0 (by simpa using r1) (by simpa using r2) hin
        rw [e0]
        exact q2
theorem rcLtD : ∀ (k : Nat) (a b : D) (l : Nat) (r : Bool) (A : Around) (u v : Value) (as bs : List Addr), a.fit k = true → b.fit l = true → a.lt b = some r →
    Reads s.heap u (toPy a) as → Reads s.heap v (toPy b) bs → A.units + k < cLine → RcLt A s u v r := by
  intro k
  induction k with
  | zero =>
    intro a b l r A u v as bs ha hb h ra rb hu
    cases a with
    | int x =>
      cases b with
      | int y =>
        cases h
        cases ra with
        | int _ t =>
          cases rb with
          | int _ t' => exact fun prog w E Q q => PyProof.Rows.lt_int q
      | _ => cases h
    | str x =>
      cases b with
      | str y =>
        cases h
        cases ra with
        | str _ t =>
          cases rb with
          | str _ t' => exact fun prog w E Q q => DT.rcLt_str A s x t y t' prog w E Q q
      | _ => cases h
    | tup xs => cases ha
    | _ => cases b <;> cases h
  | succ k ih =>
    intro a b l r A u v as bs ha hb h ra rb hu
    cases a with
    | int x =>
      cases b with
      | int y =>
        cases h
        cases ra with
        | int _ t =>
          cases rb with
          | int _ t' => exact fun prog w E Q q => PyProof.Rows.lt_int q
      | _ => cases h
    | str x =>
      cases b with
      | str y =>
        cases h
        cases ra with
        | str _ t =>
          cases rb with
          | str _ t' => exact fun prog w E Q q => DT.rcLt_str A s x t y t' prog w E Q q
      | _ => cases h
    | tup xs =>
      cases b with
      | tup ys =>
        cases l with
        | zero => cases hb
        | succ l => exact rcLtTup ih ha hb h ra rb hu
      | _ => cases h
    | _ => cases b <;> cases h
end
end Pd
end
section
set_option Elab.async false
set_option linter.all false
set_option maxRecDepth 100000
set_option autoImplicit false
/-! Comparisons, truth, places, slices, built-in functions over plain data. -/
namespace Pd
open PySem PySem.Spec PyProof.Rows L2
section
variable {X : Cx} {g : Sig}
def rC (K : PySem.W.Frag) (g : Sig) (F : D → D → Store → Option Bool) : R2 := fun x y H Q => ∃ ρ st d e k, Rep K g.T ρ st H ∧ VR K ρ H x d ∧ VR K ρ H y e ∧ F d e st = some k ∧ Q (.bl k) H
def pyC : COp → CmpOp
  | .eq => .Eq | .ne => .NotEq | .lt => .Lt | .le => .LtE | .gt => .Gt | .ge => .GtE | .is => .Is | .isnot => .IsNot | .mem => .In | .notmem => .NotIn
theorem and2 {a b : Bool} (h : (a && b) = true) : a = true ∧ b = true := by rwa [Bool.and_eq_true] at h
theorem if_some {α : Type} {c : Prop} [Decidable c] {a : Option α} {b : α} (h : (if c then a else none) = some b) : c ∧ a = some b := by
  by_cases q : c
  · rw [if_pos q] at h
    exact ⟨q, h⟩
  · rw [if_neg q] at h
    cases h
/-- two values as PyData, with what == gives -/
theorem eqD_dp {K : PySem.W.Frag} {T : Tb} {ρ : List Addr} {H : Hp} {st : Store} {x y : V} {a b : D} {k : Bool} (R : Rep K T ρ st H) (hx : VR K ρ H x a) (hy : VR K ρ H y b) (h : eqD st a b = some k) :
    ∃ d e, Dp K H x d ∧ Dp K H y e ∧ SeqAt.shaped d = true ∧ SeqAt.shaped e = true ∧ PyData.eqv d e = k := by
  have plain : (if a.fit 60 && b.fit 60 then some (a.eq b) else none) = some k → ∃ d e, Dp K H x d ∧ Dp K H y e ∧ SeqAt.shaped d = true ∧ SeqAt.shaped e = true ∧ PyData.eqv d e = k := fun h => by
    obtain ⟨hf, e⟩ := if_some h
    obtain ⟨f1, f2⟩ := and2 hf
    refine ⟨toPy a, toPy b, hx.dp f1, hy.dp f2, shaped_of f1 (by decide), shaped_of f2 (by decide), ?_⟩
    rw [eq_of a b 60 60 f1 f2]
    exact Option.some.inj e
  cases a with
  | ref m =>
    cases b with
    | ref n =>
      have h' : (match lstAt st m, lstAt st n with
        | some x, some y => if fits x 60 && fits y 60 then some (eqs x y) else none
        | _, _ => none) = some k := h
      cases q1 : lstAt st m with
      | none =>
        rw [q1] at h'
        cases h'
      | some as =>
        cases q2 : lstAt st n with
        | none =>
          rw [q1, q2] at h'
          cases h'
        | some bs =>
          rw [q1, q2] at h'
          obtain ⟨hf, e⟩ := if_some h'
          obtain ⟨f1, f2⟩ := and2 hf
          cases hx with
          | ref ha =>
            cases hy with
            | ref hb =>
              obtain ⟨xs, h1, r1⟩ := R.lst ha q1
              obtain ⟨ys, h2, r2⟩ := R.lst hb q2
              have g1 : (D.frz as).fit 61 = true := f1
              have g2 : (D.frz bs).fit 61 = true := f2
              refine ⟨.list (toPys as), .list (toPys bs), .lst (SqL.of h1) (r1.dps f1), .lst (SqL.of h2) (r2.dps f2), shaped_of g1 (by decide), shaped_of g2 (by decide), ?_⟩
              have := eq_of (.frz as) (.frz bs) 61 61 g1 g2
              exact this.trans (Option.some.inj e)
    | _ => exact plain h
  | _ => exact plain h
theorem memD_dp {K : PySem.W.Frag} {T : Tb} {ρ : List Addr} {H : Hp} {st : Store} {x y : V} {a b : D} {k : Bool} (R : Rep K T ρ st H) (hx : VR K ρ H x a) (hy : VR K ρ H y b) (h : memD st a b = some k) :
    (∃ ds : List D, a.fit 60 = true ∧ fits ds 60 = true ∧ Dp K H x (toPy a) ∧ (Dp K H y (.list (toPys ds)) ∨ Dp K H y (.tuple (toPys ds))) ∧ (ds.any fun d => d.eq a) = k) ∨
      (∃ kvs c, y = .ref c ∧ CellR K T ρ H c (.dct kvs) ∧ likeK (kvs.map (·.1)) a = true ∧ (dlook kvs a).isSome = k) ∨
      ∃ ds c, y = .ref c ∧ CellR K T ρ H c (.set ds) ∧ likeK ds a = true ∧ (ds.any fun d => d.eq a) = k := by
  cases b with
  | tup ds =>
    obtain ⟨hf, e⟩ := if_some (show (if a.fit 60 && fits ds 60 then some (ds.any fun d => d.eq a) else none) = some k from h)
    obtain ⟨f1, f2⟩ := and2 hf
    cases hy with
    | tup hs hr => exact .inl ⟨ds, f1, f2, hx.dp f1, .inr (.tup hs (hr.dps f2)), Option.some.inj e⟩
  | frz ds =>
    obtain ⟨hf, e⟩ := if_some (show (if a.fit 60 && fits ds 60 then some (ds.any fun d => d.eq a) else none) = some k from h)
    obtain ⟨f1, f2⟩ := and2 hf
    cases hy with
    | frz hs hr => exact .inl ⟨ds, f1, f2, hx.dp f1, .inl (.lst hs.sq (hr.dps f2)), Option.some.inj e⟩
  | ref n =>
    unfold memD at h
    dsimp only at h
    cases hy with
    | ref hb =>
      obtain ⟨c, hc, rc⟩ := R.at hb
      simp only [hc] at h
      cases c with
      | lst ds =>
        obtain ⟨hf, e⟩ := if_some h
        obtain ⟨f1, f2⟩ := and2 hf
        obtain ⟨ys, h2, r2⟩ := rc
        exact .inl ⟨ds, f1, f2, hx.dp f1, .inl (.lst (SqL.of h2) (r2.dps f2)), Option.some.inj e⟩
      | dct kvs =>
        obtain ⟨hl, e⟩ := if_some h
        exact .inr (.inl ⟨kvs, _, rfl, rc, hl, Option.some.inj e⟩)
      | set ds =>
        obtain ⟨hl, e⟩ := if_some h
        exact .inr (.inr ⟨ds, _, rfl, rc, hl, Option.some.inj e⟩)
      | _ => cases h
  | _ => cases h
theorem any_eqv (a : D) (ha : a.fit 60 = true) : ∀ ds : List D, fits ds 60 = true → ((toPys ds).any fun z => PyData.eqv z (toPy a)) = ds.any fun d => d.eq a
  | [], _ => rfl
  | d :: ds, h => by
    obtain ⟨h1, h2⟩ := fits_cons h
    show (PyData.eqv (toPy d) (toPy a) || (toPys ds).any fun z => PyData.eqv z (toPy a)) = (d.eq a || ds.any fun d => d.eq a)
    rw [eq_of d a 60 60 h1 ha, any_eqv a ha ds h2]
theorem isConst {pins : List (Addr × Obj)} {s : Shared} {σ : L2.St} {H : Hp} {ρ : List Addr} {x : V} {v : Value} {d : D} {b : Bool} (hx : VR X.K ρ H x d) (rx : RelV x v) {Q : Value → Shared → Prop}
    (q : Q (.bool (d.isB b)) s) : wpAny (model X.prog X.w) X.A (compareOp .Is v (.bool b)) Q X.xe s := by
  cases hx with
  | bl c =>
    cases (show v = Value.bool c from rx)
    have q : Q (.bool (c == b)) s := q
    by_cases e : c = b
    · subst e
      exact wpAny_is_self rfl (by simpa using q)
    · rw [beq_eq_false_iff_ne.mpr e] at q
      exact wpAny_is_other rfl (fun z => e (Value.bool.inj z)) q
  | non =>
    cases (show v = Value.none from rx)
    exact wpAny_is_other rfl (fun z => nomatch z) q
  | int i =>
    obtain ⟨t, rfl⟩ := rx
    exact wpAny_is_other rfl (fun z => nomatch z) q
  | str i =>
    obtain ⟨t, rfl⟩ := rx
    exact wpAny_is_other rfl (fun z => nomatch z) q
  | tup h hs =>
    cases (show v = Value.ref _ from rx)
    exact wpAny_is_other rfl (fun z => nomatch z) q
  | frz h hs =>
    cases (show v = Value.ref _ from rx)
    exact wpAny_is_other rfl (fun z => nomatch z) q
  | ref h =>
    cases (show v = Value.ref _ from rx)
    exact wpAny_is_other rfl (fun z => nomatch z) q
theorem dec_non {K : PySem.W.Frag} {ρ : List Addr} {H : Hp} {x : V} {d : D} (hx : VR K ρ H x d) : decide (x = V.non) = d.isNon := by
  cases hx <;> first | rfl | exact decide_eq_false (fun z => nomatch z)
theorem op_cop (hO : OfX g.T X) (hu : X.A.units + 200 < cLine) (op : COp) : OpR X (compareOp (pyC op)) (rC X.K g (cop op)) := by
  intro pins s σ H x y v u Q I rx ry h
  obtain ⟨ρ, st, d, e, k, R, hx, hy, hk, q⟩ := h
  cases op with
  | eq =>
    obtain ⟨d', e', h1, h2, h3, h4, h5⟩ := eqD_dp R hx hy hk
    exact op_eqD (by omega) pins s σ H x y v u Q I rx ry ⟨d', e', h1, h2, h3, h4, by rw [h5]; exact q⟩
  | ne =>
    obtain ⟨k', e1, e2⟩ := Option.map_eq_some_iff.mp (show (eqD st d e).map (!·) = some k from hk)
    obtain ⟨d', e', h1, h2, h3, h4, h5⟩ := eqD_dp R hx hy e1
    exact op_neD (by omega) pins s σ H x y v u Q I rx ry ⟨d', e', h1, h2, h3, h4, by rw [h5, e2]; exact q⟩
  | lt =>
    obtain ⟨hf, hl⟩ := if_some (show (if d.fit 60 && e.fit 60 then d.lt e else none) = some k from hk)
    obtain ⟨f1, f2⟩ := and2 hf
    obtain ⟨as, r1⟩ := Dp.reads I _ x v (hx.dp f1) rx
    obtain ⟨bs, r2⟩ := Dp.reads I _ y u (hy.dp f2) ry
    exact rcLtD 60 d e 60 k X.A v u as bs f1 f2 hl r1 r2 (by omega) X.prog X.w X.xe (EP X pins σ Q) ⟨.bl k, H, I, rfl, q⟩
  | le =>
    cases hx with
    | int i =>
      cases hy with
      | int j =>
        cases hk
        exact op_le pins s σ H _ _ v u Q I rx ry ⟨i, j, rfl, rfl, q⟩
      | _ => cases hk
    | str i =>
      cases hy with
      | str j =>
        cases hk
        exact op_le_str pins s σ H _ _ v u Q I rx ry ⟨i, j, rfl, rfl, by simpa using q⟩
      | _ => cases hk
    | _ => cases hy <;> cases hk
  | gt =>
    cases hx with
    | int i =>
      cases hy with
      | int j =>
        cases hk
        exact op_gt pins s σ H _ _ v u Q I rx ry ⟨i, j, rfl, rfl, q⟩
      | _ => cases hk
    | _ => cases hy <;> cases hk
  | ge =>
    cases hx with
    | int i =>
      cases hy with
      | int j =>
        cases hk
        exact op_ge pins s σ H _ _ v u Q I rx ry ⟨i, j, rfl, rfl, q⟩
      | _ => cases hk
    | _ => cases hy <;> cases hk
  | is =>
    cases hy with
    | non =>
      have e1 : d.isNon = k := Option.some.inj hk
      exact op_isN pins s σ H x _ v u Q I rx ry ⟨rfl, by rw [dec_non hx, e1]; exact q⟩
    | bl b =>
      have e1 : d.isB b = k := Option.some.inj hk
      cases (show u = Value.bool b from ry)
      exact isConst (pins := pins) (σ := σ) hx rx ⟨.bl _, H, I, rfl, by rw [e1]; exact q⟩
    | _ => cases d <;> cases hk
  | isnot =>
    cases hy with
    | non =>
      have e1 : (!d.isNon) = k := Option.some.inj hk
      exact op_notN pins s σ H x _ v u Q I rx ry ⟨rfl, by rw [dec_non hx, e1]; exact q⟩
    | _ => cases d <;> cases hk
  | mem =>
    rcases memD_dp R hx hy hk with ⟨ds, f1, f2, h1, h2, h3⟩ | ⟨kvs, c, rfl, rc, hl, h3⟩ | ⟨ds, c, rfl, ⟨L, es, hL, pm, pr⟩, hl, h3⟩
    rotate_left
    · cases (show u = Value.ref c from ry)
      exact dct_in hu I hO hl rc hx rx fun s' I' => ⟨.bl _, H, I', rfl, by rw [h3]; exact q⟩
    · cases (show u = Value.ref c from ry)
      show wpAny _ _ (do return Value.bool (← contains (.ref c) v)) _ _ s
      exact wpAny_bind (set_has (Inv.setA I hO hL) (els_is I pr) pr pm hx rx (fun kk hkk => key_is I d x v kk hx rx hkk) hl (by omega) fun tk => wpAny_pure ⟨.bl _, H, I.tok _, rfl, by rw [h3]; exact q⟩)
    obtain ⟨as, r1⟩ := Dp.reads I _ x v h1 rx
    obtain ⟨l1, l2⟩ := lay_of d 60 f1
    obtain ⟨l3, l4⟩ := lays_of ds 60 f2
    have hm : X.A.units + 1 + min (PyData.depthAll (toPys ds)) (toPy d).depth < cLine := by
      have := Nat.min_le_right (PyData.depthAll (toPys ds)) (toPy d).depth
      omega
    rcases h2 with h2 | h2
    · obtain ⟨bs, r2⟩ := Dp.reads I _ y u h2 ry
      exact SeqAt.in_list_reads r2 r1 l3 l1 hm ⟨.bl _, H, I, rfl, by rw [any_eqv d f1 ds f2, h3]; exact q⟩
    · obtain ⟨bs, r2⟩ := Dp.reads I _ y u h2 ry
      exact SeqAt.in_tuple_reads r2 r1 l3 l1 hm ⟨.bl _, H, I, rfl, by rw [any_eqv d f1 ds f2, h3]; exact q⟩
  | notmem =>
    obtain ⟨k', e1, e2⟩ := Option.map_eq_some_iff.mp (show (memD st d e).map (!·) = some k from hk)
    rcases memD_dp R hx hy e1 with ⟨ds, f1, f2, h1, h2, h3⟩ | ⟨kvs, c, rfl, rc, hl, h3⟩ | ⟨ds, c, rfl, ⟨L, es, hL, pm, pr⟩, hl, h3⟩
    rotate_left
    · cases (show u = Value.ref c from ry)
      exact dct_notIn hu I hO hl rc hx rx fun s' I' => ⟨.bl _, H, I', rfl, by rw [h3, e2]; exact q⟩
    · cases (show u = Value.ref c from ry)
      show wpAny _ _ (do return Value.bool (!(← contains (.ref c) v))) _ _ s
      exact wpAny_bind (set_has (Inv.setA I hO hL) (els_is I pr) pr pm hx rx (fun kk hkk => key_is I d x v kk hx rx hkk) hl (by omega) fun tk => wpAny_pure ⟨.bl _, H, I.tok _, rfl, by rw [h3, e2]; exact q⟩)
    obtain ⟨as, r1⟩ := Dp.reads I _ x v h1 rx
    obtain ⟨l1, l2⟩ := lay_of d 60 f1
    obtain ⟨l3, l4⟩ := lays_of ds 60 f2
    have hm : X.A.units + 1 + min (PyData.depthAll (toPys ds)) (toPy d).depth < cLine := by
      have := Nat.min_le_right (PyData.depthAll (toPys ds)) (toPy d).depth
      omega
    rcases h2 with h2 | h2
    · obtain ⟨bs, r2⟩ := Dp.reads I _ y u h2 ry
      exact SeqAt.notIn_list_reads r2 r1 l3 l1 hm ⟨.bl _, H, I, rfl, by rw [any_eqv d f1 ds f2, h3, e2]; exact q⟩
    · obtain ⟨bs, r2⟩ := Dp.reads I _ y u h2 ry
      exact SeqAt.notIn_tuple_reads r2 r1 l3 l1 hm ⟨.bl _, H, I, rfl, by rw [any_eqv d f1 ds f2, h3, e2]; exact q⟩
/-! ### truth -/
theorem tru_of {K : PySem.W.Frag} {T : Tb} {ρ : List Addr} {H : Hp} {st : Store} {x : V} {d : D} {k : Bool} (R : Rep K T ρ st H) (hx : VR K ρ H x d) (h : truth d st = some k) : TruV K x H k := by
  cases hx with
  | non => exact (Option.some.inj h).symm
  | bl b => exact (Option.some.inj h).symm
  | int i => exact (Option.some.inj h).symm
  | str z =>
    obtain ⟨h1, h2⟩ := if_some (show (if z.cps.size ≤ LIM then some ((z.cps.size : Int) != 0) else none) = some k from h)
    exact ⟨by rw [← LIM_eq]; exact h1, (Option.some.inj h2).symm⟩
  | tup ha hs =>
    refine .inr (.inl ⟨_, ha, ?_⟩)
    rw [← Option.some.inj h]
    cases hs <;> rfl
  | frz ha hs =>
    refine .inl ⟨_, ha.sq, ?_⟩
    rw [← Option.some.inj h]
    cases hs <;> rfl
  | ref ha =>
    rename_i n a
    obtain ⟨c, hc, r⟩ := R.at ha
    have h' : (match st[n]? with
      | some (.lst ds) => some (!ds.isEmpty)
      | _ => none) = some k := h
    rw [hc] at h'
    cases c with
    | lst ds =>
      obtain ⟨xs, h1, r1⟩ := r
      refine .inl ⟨xs, SqL.of h1, ?_⟩
      rw [← Option.some.inj h']
      cases r1 <;> rfl
    | _ => cases h'
end
end Pd
end
section
set_option Elab.async false
set_option linter.all false
set_option maxRecDepth 100000
set_option autoImplicit false
/-! Places, slices, built-in functions over plain data. -/
namespace Pd
open PySem PySem.Spec PyProof.Rows L2
section
variable {X : Cx} {g : Sig}
theorem atI_get {K : PySem.W.Frag} {ρ : List Addr} {H : Hp} {xs : List V} {ds : List D} {k : Int} {d : D} (r : VRs K ρ H xs ds) (h : Pd.atI ds k = some d) : ∃ v, L2.atI xs k = some v ∧ VR K ρ H v d := by
  have h' : (Pd.ixN ds.length k).bind (fun j => ds[j]?) = some d := h
  obtain ⟨j, h1, h2⟩ := Option.bind_eq_some_iff.mp h'
  obtain ⟨v, h3, h4⟩ := r.get h2
  refine ⟨v, ?_, h4⟩
  show (L2.ixN xs.length k).bind (fun j => xs[j]?) = some v
  rw [r.length]
  have e : L2.ixN ds.length k = some j := h1
  rw [e]
  exact h3
theorem ix_pd (hO : OfX g.T X) (hu : X.A.units + 200 < cLine) : IxR X (rB X.K g idx) := by
  intro ve se pins s σ H x y v u Q I rx ry h hsub
  obtain ⟨ρ, st, d, e, E, R, hx, hy, q⟩ := h
  cases hx with
  | tup ha hs =>
    cases hy with
    | int k =>
      obtain ⟨d', e1, q⟩ := Post.of (show Post X.K g (relD X.K) ρ H E Q (Pd.R.of (Pd.atI _ k) st) from q)
      obtain ⟨z, h1, h2⟩ := atI_get hs e1
      exact ix_tup ve se pins s σ H _ _ v u Q I rx ry ⟨_, _, k, z, rfl, rfl, ha, h1, q.here R h2⟩ hsub
    | _ => exact (show False from q).elim
  | frz ha hs =>
    cases hy with
    | int k =>
      obtain ⟨d', e1, q⟩ := Post.of (show Post X.K g (relD X.K) ρ H E Q (Pd.R.of (Pd.atI _ k) st) from q)
      obtain ⟨z, h1, h2⟩ := atI_get hs e1
      exact ix_list ve se pins s σ H _ _ v u Q I rx ry ⟨_, _, k, z, rfl, rfl, ha.sq, h1, q.here R h2⟩ hsub
    | _ => exact (show False from q).elim
  | ref ha =>
    rename_i n a
    unfold idx at q
    dsimp only at q
    obtain ⟨c, hc, rc⟩ := R.at ha
    simp only [hc] at q
    cases c with
    | lst ds =>
      cases hy with
      | int k =>
        obtain ⟨d', e1, q⟩ := Post.of (show Post X.K g (relD X.K) ρ H E Q (Pd.R.of (Pd.atI ds k) st) from q)
        obtain ⟨xs, h1, hs⟩ := rc
        obtain ⟨z, h2, h3⟩ := atI_get hs e1
        exact ix_list ve se pins s σ H _ _ v u Q I rx ry ⟨_, _, k, z, rfl, rfl, SqL.of h1, h2, q.here R h3⟩ hsub
      | _ => exact (show False from q).elim
    | dct kvs =>
      obtain ⟨hl, q⟩ := Post.ite q
      obtain ⟨d', e1, q⟩ := Post.of q
      cases (show v = Value.ref a from rx)
      obtain ⟨hT, hg⟩ := dct_get (E := X.xe) (Q := EP X pins σ Q) hu I hO hl rc hy ry e1 fun z w' s' hz I' rw' => ⟨z, H, I', rw', q.here R hz⟩
      exact tail_any hT PySem.F.slot_dict_getitem.lookup hg hsub
    | _ => exact (show False from q).elim
  | _ => exact (show False from q).elim
theorem cut_eq {xs : List V} {lo hi : Option Int} : cutV xs lo hi = Pd.cut xs lo hi := rfl
theorem VRs.cutI {K : PySem.W.Frag} {ρ : List Addr} {H : Hp} {xs : List V} {ds : List D} (r : VRs K ρ H xs ds) (lo hi : Option Int) : VRs K ρ H (cutV xs lo hi) (Pd.cut ds lo hi) := by
  rw [cut_eq]
  unfold Pd.cut
  rw [r.length]
  exact (r.drop _).take _
def rSl (K : PySem.W.Frag) (g : Sig) : V → Option Int → Option Int → Hp → VK → Prop := fun x lo hi H Q => ∃ ρ st d E, Rep K g.T ρ st H ∧ VR K ρ H x d ∧ Post K g (relD K) ρ H E Q (slice d lo hi st)
theorem sl_pd : SlR X (rSl X.K g) := by
  intro pins s σ H x v vl vu lo hi sl Q I rx hs pl pu h
  obtain ⟨ρ, st, d, E, R, hx, q⟩ := h
  cases hx with
  | tup ha hr =>
    rename_i a xs ds
    have q : Post X.K g (relD X.K) ρ H E Q (.ok (.tup (Pd.cut ds lo hi)) st) := q
    refine sl_tupA pins s σ H _ v vl vu lo hi sl Q I rx hs pl pu ⟨a, xs, rfl, ha, fun z => ?_, fun _ p hp => q.newT R hp (hr.cutI lo hi)⟩
    obtain ⟨z1, z2⟩ := z
    have e : Pd.cut ds lo hi = ds := by
      have z1' : Pd.sIx ds.length 0 lo = 0 := by rw [← hr.length]; exact z1
      have z2' : Pd.sIx ds.length ds.length hi = ds.length := by rw [← hr.length]; exact z2
      unfold Pd.cut
      rw [z1', z2', List.drop_zero, Nat.sub_zero]
      exact List.take_length
    rw [e] at q
    exact q.here R (.tup ha hr)
  | ref ha =>
    rename_i n a
    have q : Post X.K g (relD X.K) ρ H E Q (match lstAt st n with
      | some ds => alloc (.lst (Pd.cut ds lo hi)) st
      | none => .err) := q
    cases e : lstAt st n with
    | none =>
      rw [e] at q
      exact q.elim
    | some ds =>
      rw [e] at q
      obtain ⟨xs, h1, hr⟩ := R.lst ha e
      exact sl_list pins s σ H _ v vl vu lo hi sl Q I rx hs pl pu ⟨a, xs, rfl, SqL.of h1, fun p hp => q.newL R hp (hr.cutI lo hi)⟩
  | _ => exact (show False from q).elim

/-! ### built-in functions -/
def rF (K : PySem.W.Frag) (g : Sig) (F : List D → Store → R D) : List V → Hp → VK → Prop := fun vs H Q => ∃ ρ st ds E, Rep K g.T ρ st H ∧ VRs K ρ H vs ds ∧ Post K g (relD K) ρ H E Q (F ds st)
theorem VRs.one {K : PySem.W.Frag} {ρ : List Addr} {H : Hp} {vs : List V} {d : D} (r : VRs K ρ H vs [d]) : ∃ v, vs = [v] ∧ VR K ρ H v d := by
  cases r with
  | cons h hs =>
    cases hs
    exact ⟨_, rfl, h⟩
theorem seq_of {K : PySem.W.Frag} {T : Tb} {ρ : List Addr} {H : Hp} {st : Store} {x : V} {d : D} {ds : List D} (R : Rep K T ρ st H) (hx : VR K ρ H x d) (h : seqOf d st = some ds) :
    ∃ a xs, x = .ref a ∧ (SqL K H a xs ∨ SqT K H a xs) ∧ VRs K ρ H xs ds := by
  cases hx with
  | tup ha hs =>
    cases h
    exact ⟨_, _, rfl, .inr ha, hs⟩
  | frz ha hs =>
    cases h
    exact ⟨_, _, rfl, .inl ha.sq, hs⟩
  | ref ha =>
    obtain ⟨xs, h1, r⟩ := R.lst ha (show lstAt st _ = some ds from h)
    exact ⟨_, xs, rfl, .inl (SqL.of h1), r⟩
  | _ => cases h
theorem bls_of {K : PySem.W.Frag} {ρ : List Addr} {H : Hp} : ∀ {xs : List V} {ds : List D} {bs : List Bool}, VRs K ρ H xs ds → blsOf ds = some bs → xs = bs.map V.bl
  | _, _, _, .nil, h => by
    cases h
    rfl
  | _, _, bs, .cons (d := d) (ds := ds) h hs, e => by
    cases d with
    | bl b =>
      obtain ⟨bs', e1, e2⟩ := Option.map_eq_some_iff.mp (show (blsOf ds).map (b :: ·) = some bs from e)
      cases h
      rw [← e2, bls_of hs e1]
      rfl
    | _ => cases e
theorem idAt : ∀ bs : List Bool, bs.any id = bs.any id := fun _ => rfl
theorem bf_len (hO : OfX g.T X) : CallR X (.builtin "len") (rF X.K g (bfn .len)) := by
  intro pins s σ H vs us Q I rv h
  obtain ⟨ρ, st, ds, E, R, hv, q⟩ := h
  match ds, hv, q with
  | [], _, q => exact (show False from q).elim
  | _ :: _ :: _, _, q => exact (show False from q).elim
  | [d], hv, q =>
    obtain ⟨x, rfl, hx⟩ := hv.one
    have sq : ∀ ds, seqOf d st = some ds → Post X.K g (relD X.K) ρ H E Q (.ok (.int ds.length) st) → wpAny (model X.prog X.w) X.A (call (.builtin "len") us) (EP X pins σ Q) X.xe s := fun ds e q => by
      obtain ⟨a, xs, rfl, ha, r⟩ := seq_of R hx e
      exact call_len_seq pins s σ H _ us Q I rv ⟨a, xs, rfl, ha, by rw [r.length]; exact q.here R (.int _)⟩
    cases d with
    | str z =>
      obtain ⟨hz, q⟩ := Post.ite (show Post X.K g (relD X.K) ρ H E Q (if z.cps.size ≤ LIM then .ok (.int z.cps.size) st else .err) from q)
      cases hx
      exact call_len_str pins s σ H _ us Q I rv ⟨z, rfl, by rw [← LIM_eq]; exact hz, q.here R (.int _)⟩
    | tup ds => exact sq ds rfl q
    | frz ds => exact sq ds rfl q
    | ref n =>
      have q : Post X.K g (relD X.K) ρ H E Q (match st[n]? with
        | some (.lst ds) => .ok (.int ds.length) st
        | some (.set ds) => .ok (.int ds.length) st
        | some (.dct kvs) => if kvs.length ≤ LIM then .ok (.int kvs.length) st else .err
        | _ => .err) := q
      cases hx with
      | ref ha =>
        obtain ⟨c, hc, r⟩ := R.at ha
        rw [hc] at q
        cases c with
        | lst ds => exact sq ds (by show lstAt st n = some ds; unfold lstAt; rw [hc]) q
        | dct kvs =>
          obtain ⟨hz, q⟩ := Post.ite q
          obtain ⟨u, rfl, ru⟩ := vals1 rv
          cases (show u = Value.ref _ from ru)
          rcases r with ⟨xs, hx, r⟩ | ⟨hs, xs, hx, nd, r⟩
          · exact d_len I (.inl hx) fun t s' I' => ⟨.int xs.length, H, I', ⟨t, rfl⟩, by rw [r.length]; exact q.here R (.int _)⟩
          · refine call_len_dictH hs.1 (Inv.dctO I hO hx nd r) (by rw [r.length]; unfold LIM at hz; omega) ?_
            exact ⟨.int xs.length, H, I.tok _, ⟨_, rfl⟩, by rw [r.length]; exact q.here R (.int _)⟩
        | set ds =>
          obtain ⟨u, rfl, ru⟩ := vals1 rv
          cases (show u = Value.ref _ from ru)
          obtain ⟨L, es, hx, pm, r⟩ := r
          obtain ⟨⟨ob, esA, ep, t, e1, e2, e3, F⟩, _, _⟩ := (show ObjOk X.prog X.w H s.heap _ (SetO g.T _ L) from I.hok _ _ hx)
          have hsz : esA.size = L.length := by
            have z := congrArg List.length F.rows
            rwa [Array.length_toList, List.length_map] at z
          have hl : L.length = ds.length := r.length.trans pm.length_eq
          have hf := F.few
          unfold scanBound at hf
          refine call_len_set e1 e2 e3 F.fits (by omega) ?_
          exact ⟨.int esA.size, H, I.tok _, ⟨_, rfl⟩, by rw [hsz, hl]; exact q.here R (.int _)⟩
        | ins _ _ => exact q.elim
    | _ => exact (show False from q).elim
theorem bf_tuple : CallR X (.type "tuple") (rF X.K g (bfn .tuple)) := by
  intro pins s σ H vs us Q I rv h
  obtain ⟨ρ, st, ds, E, R, hv, q⟩ := h
  match ds, hv, q with
  | [], _, q => exact (show False from q).elim
  | _ :: _ :: _, _, q => exact (show False from q).elim
  | [d], hv, q =>
    obtain ⟨x, rfl, hx⟩ := hv.one
    have q : Post X.K g (relD X.K) ρ H E Q (match seqOf d st with
      | some ds => .ok (.tup ds) st
      | none => .err) := q
    cases e : seqOf d st with
    | none =>
      rw [e] at q
      exact q.elim
    | some ds =>
      rw [e] at q
      obtain ⟨a, xs, rfl, ha, r⟩ := seq_of R hx e
      rcases ha with ha | ha
      · exact call_tuple_of pins s σ H _ us Q I rv ⟨a, xs, rfl, .inl ⟨ha, fun p hp => q.newT R hp r⟩⟩
      · exact call_tuple_of pins s σ H _ us Q I rv ⟨a, xs, rfl, .inr ⟨ha, q.here R (.tup ha r)⟩⟩
theorem bf_list : CallR X (.type "list") (rF X.K g (bfn .list)) := by
  intro pins s σ H vs us Q I rv h
  obtain ⟨ρ, st, ds, E, R, hv, q⟩ := h
  match ds, hv, q with
  | [], _, q => exact (show False from q).elim
  | _ :: _ :: _, _, q => exact (show False from q).elim
  | [d], hv, q =>
    obtain ⟨x, rfl, hx⟩ := hv.one
    have q : Post X.K g (relD X.K) ρ H E Q (match seqOf d st with
      | some ds => alloc (.lst ds) st
      | none => .err) := q
    cases e : seqOf d st with
    | none =>
      rw [e] at q
      exact q.elim
    | some ds =>
      rw [e] at q
      obtain ⟨a, xs, rfl, ha, r⟩ := seq_of R hx e
      exact call_list_of pins s σ H _ us Q I rv ⟨a, xs, rfl, ha, fun p hp => q.newL R hp r⟩
theorem bf_int : CallR X (.type "int") (rF X.K g (bfn .int)) := by
  intro pins s σ H vs us Q I rv h
  obtain ⟨ρ, st, ds, E, R, hv, q⟩ := h
  match ds, hv, q with
  | [], _, q => exact (show False from q).elim
  | _ :: _ :: _, _, q => exact (show False from q).elim
  | [d], hv, q =>
    obtain ⟨x, rfl, hx⟩ := hv.one
    cases hx with
    | int i => exact call_int1 pins s σ H _ us Q I rv (.inl ⟨i, rfl, (show Post X.K g (relD X.K) ρ H E Q (.ok (.int i) st) from q).here R (.int _)⟩)
    | _ => exact (show False from q).elim
theorem bf_all (hc : X.calm = true) : CallR X (.builtin "all") (rF X.K g (bfn .all)) := by
  intro pins s σ H vs us Q I rv h
  obtain ⟨ρ, st, ds, E, R, hv, q⟩ := h
  match ds, hv, q with
  | [], _, q => exact (show False from q).elim
  | _ :: _ :: _, _, q => exact (show False from q).elim
  | [d], hv, q =>
    obtain ⟨x, rfl, hx⟩ := hv.one
    cases hx with
    | @ref n a ha =>
      have q : Post X.K g (relD X.K) ρ H E Q (match (lstAt st n).bind blsOf with
        | some bs => .ok (.bl (bs.all id)) st
        | none => .err) := q
      cases e : (lstAt st n).bind blsOf with
      | none =>
        rw [e] at q
        exact q.elim
      | some bs =>
        rw [e] at q
        obtain ⟨ds, e1, e2⟩ := Option.bind_eq_some_iff.mp e
        obtain ⟨xs, h1, r⟩ := R.lst ha e1
        rw [bls_of r e2] at h1
        exact cr_all hc pins s σ H _ us Q I rv ⟨a, bs, rfl, SqL.of h1, q.here R (.bl _)⟩
    | _ => exact (show False from q).elim
theorem bf_any (hc : X.calm = true) : CallR X (.builtin "any") (rF X.K g (bfn .any)) := by
  intro pins s σ H vs us Q I rv h
  obtain ⟨ρ, st, ds, E, R, hv, q⟩ := h
  match ds, hv, q with
  | [], _, q => exact (show False from q).elim
  | _ :: _ :: _, _, q => exact (show False from q).elim
  | [d], hv, q =>
    obtain ⟨x, rfl, hx⟩ := hv.one
    cases hx with
    | @ref n a ha =>
      have q : Post X.K g (relD X.K) ρ H E Q (match (lstAt st n).bind blsOf with
        | some bs => .ok (.bl (bs.any id)) st
        | none => .err) := q
      cases e : (lstAt st n).bind blsOf with
      | none =>
        rw [e] at q
        exact q.elim
      | some bs =>
        rw [e] at q
        obtain ⟨ds, e1, e2⟩ := Option.bind_eq_some_iff.mp e
        obtain ⟨xs, h1, r⟩ := R.lst ha e1
        rw [bls_of r e2] at h1
        exact cr_any hc pins s σ H _ us Q I rv ⟨a, bs, rfl, SqL.of h1, q.here R (.bl _)⟩
    | _ => exact (show False from q).elim
end
end Pd
end
section
set_option Elab.async false
set_option linter.all false
set_option maxRecDepth 100000
set_option autoImplicit false
/-! Sets as cells. -/
namespace Pd
open PySem PySem.Spec PyProof.Rows L2
theorem setOfL_split : ∀ {l₁ l₂ acc : List D}, setOfL acc (l₁ ++ l₂) = (setOfL acc l₁).bind fun a => setOfL a l₂
  | [], l₂, acc => rfl
  | d :: l₁, l₂, acc => by
    show (saddD acc d).bind (fun a => setOfL a (l₁ ++ l₂)) = ((saddD acc d).bind fun a => setOfL a l₁).bind fun a => setOfL a l₂
    cases saddD acc d with
    | none => rfl
    | some a => exact setOfL_split
theorem setOfL_at {ds es : List D} {i : Nat} {d : D} {acc : List D} (h : setOfL [] ds = some es) (hi : ds[i]? = some d) (ha : setOfL [] (ds.take i) = some acc) : ∃ acc', saddD acc d = some acc' ∧ setOfL [] (ds.take (i + 1)) = some acc' := by
  have e1 : ds.take (i + 1) = ds.take i ++ [d] := by
    rw [List.take_add_one, hi]
    rfl
  have e2 : setOfL [] (ds.take (i + 1)) = saddD acc d := by
    rw [e1, setOfL_split, ha]
    show (saddD acc d).bind (fun a => some a) = _
    cases saddD acc d <;> rfl
  have e3 : ds = ds.take (i + 1) ++ ds.drop (i + 1) := (List.take_append_drop _ _).symm
  rw [e3, setOfL_split, e2] at h
  cases e : saddD acc d with
  | none =>
    rw [e] at h
    cases h
  | some acc' => exact ⟨acc', rfl, e2.trans e⟩
section
variable {X : Cx} {g : Sig} {pins : List (Addr × Obj)} {σ : L2.St} {H : Hp} {s : Shared} {ρ : List Addr}
theorem setA_new {w : World} {h : Heap} {a : Addr} (ho : h.get? a = some (newSetO w)) : SetA w h a [] := by
  refine ⟨_, #[], 0, _, ho, ⟨rfl, rfl, rfl⟩, rfl, rfl, List.nodup_nil, rfl, List.Pairwise.nil, ?_, by decide, .inr ⟨fun p hp => absurd hp List.not_mem_nil, ⟨List.Pairwise.nil, rfl, rfl, .inl rfl, fun x hx => absurd hx List.not_mem_nil, fun i h j hi => ?_⟩, by show 0 * 5 < 7 * 3; decide, by decide⟩⟩
  · show _ ∨ (!w.params.followText "set-order") = true
    cases w.params.followText "set-order"
    · exact .inr rfl
    · exact .inl rfl
  · simp at hi
theorem SetA.same {w : World} {h h' : Heap} {a : Addr} {L : List (Value × NestedKey)} (x : SetA w h a L) (k : ∀ o, h.get? a = some o → h'.get? a = some o) : SetA w h' a L := by
  obtain ⟨ob, es, ep, t, e1, e2⟩ := x
  exact ⟨ob, es, ep, t, k _ e1, e2⟩
theorem nis_keep {h h' : Heap} {k : NestedKey} {v : Value} (x : NestedIs h k v) (hk : ∀ b o, h.get? b = some o → h'.get? b = some o) : NestedIs h' k v := NestedIs.at (fun b o _ _ e _ => hk b o e) _ _ x
theorem lst_of {K : PySem.W.Frag} {T : Tb} {ρ : List Addr} {H : Hp} {st : Store} {x : V} {d : D} {ds : List D} (R : Rep K T ρ st H) (hx : VR K ρ H x d) (h : lstOf d st = some ds) : ∃ a xs, x = .ref a ∧ SqL K H a xs ∧ VRs K ρ H xs ds := by
  cases hx with
  | frz ha hs =>
    cases h
    exact ⟨_, _, rfl, ha.sq, hs⟩
  | ref ha =>
    obtain ⟨xs, h1, r⟩ := R.lst ha (show lstAt st _ = some ds from h)
    exact ⟨_, xs, rfl, SqL.of h1, r⟩
  | _ => cases h
/-- set(xs) -/
theorem bf_set (hO : OfX g.T X) (hc : X.calm = true) (hu : X.A.units + 200 < cLine) : CallR X (.type "set") (rF X.K g (bfn .set)) := by
  intro pins s σ H vs us Q I rv h
  obtain ⟨ρ, st, ds, E, R, hv, q⟩ := h
  match ds, hv, q with
  | [], _, q => exact (show False from q).elim
  | _ :: _ :: _, _, q => exact (show False from q).elim
  | [d], hv, q =>
    obtain ⟨x, rfl, hx⟩ := hv.one
    have q : Post X.K g (relD X.K) ρ H E Q (match (lstOf d st).bind (setOfL []) with
      | some es => alloc (.set es) st
      | none => .err) := q
    cases e : (lstOf d st).bind (setOfL []) with
    | none =>
      rw [e] at q
      exact q.elim
    | some es =>
      rw [e] at q
      obtain ⟨ds, e1, e2⟩ := Option.bind_eq_some_iff.mp e
      obtain ⟨a, xs, rfl, ha, r⟩ := lst_of R hx e1
      obtain ⟨its, rx, pl, hz⟩ := I.list ha
      obtain ⟨u, rfl, ru⟩ := vals1 rv
      cases (show u = Value.ref a from ru)
      have hl : its.length = ds.length := rx.length.symm.trans r.length
      refine call_set_of (J := fun i h => ∃ L es' acc, SetA X.w h s.heap.objs.size L ∧ Paired (ElR X.K ρ H) L es' ∧ es'.Perm acc ∧ setOfL [] (ds.take i) = some acc) (I.ok.hd hc) pl.isList ?_ ?_ ?_ ?_
      · rintro i v A' E' s' Q' hA hv ⟨L, es', acc, j1, j2, j3, j4⟩ old hQ
        have hv : its[i]? = some v := by
          rw [← Array.getElem?_toList] at hv
          simpa using hv
        obtain ⟨y, hy⟩ : ∃ y, xs[i]? = some y := ⟨_, List.getElem?_eq_getElem (by rw [rx.length]; exact (List.getElem?_eq_some_iff.mp hv).1)⟩
        obtain ⟨v', hv', ry⟩ := rx.get hy
        rw [hv] at hv'
        cases hv'
        obtain ⟨dd, hd, rd⟩ := r.getV hy
        obtain ⟨acc', k1, k2⟩ := setOfL_at e2 hd j4
        refine set_add j1 (fun p hp => ⟨nis_keep (els_is I j2 p hp).1 old, (els_is I j2 p hp).2⟩) j2 j3 rd ry (fun k hk => nis_keep (key_is I dd y v k rd ry hk) old) k1 (by omega) fun rr h' L' es2 tk htk sb R' p' q' => ?_
        exact hQ rr h' tk htk sb ⟨L', es2, acc', R', p', q', k2⟩
      · rintro i h h' ⟨L, es', acc, j1, j2⟩ k
        exact ⟨L, es', acc, j1.same fun o e => k _ o (Nat.ne_of_lt (Nat.lt_succ_self _)) e, j2⟩
      · exact fun h h1 _ => ⟨[], [], [], setA_new h1, .nil, .refl _, rfl⟩
      · rintro h' tk ⟨L, es', acc, j1, j2, j3, j4⟩ old
        have e3 : acc = es := by
          have z : ds.take its.toArray.size = ds := List.take_of_length_le (by rw [List.size_toArray, hl]; exact Nat.le_refl _)
          rw [z, e2] at j4
          exact (Option.some.inj j4).symm
        subst e3
        have hn : H s.heap.objs.size = none := I.hok.fresh (Nat.le_refl _)
        have ex : Ext ρ H (ρ ++ [s.heap.objs.size]) (upd H s.heap.objs.size (SetO g.T s.heap.objs.size L)) := Ext.alloc hn
        refine ⟨.ref s.heap.objs.size, _, I.laid (t' := tk) old (Nat.le_refl _) (setO_ok hO j1), rfl, ?_⟩
        exact q (.ref _) _ (ρ ++ [s.heap.objs.size]) ex (R.alloc hn ⟨L, es', upd_same, j3, L2.Paired.mapP j2 fun _ _ z => z.ext ex⟩) (.ref (by rw [← R.len, List.getElem?_append_right (Nat.le_refl _), Nat.sub_self]; rfl))
end
end Pd
end
section
set_option Elab.async false
set_option linter.all false
set_option maxRecDepth 100000
set_option autoImplicit false
/-! Sorting of plain data. -/
namespace Pd
open PySem PySem.Spec PyProof.Rows L2

mutual
theorem alike_of : ∀ (a b : D) (k l : Nat), a.fit k = true → b.fit l = true → PySem.W.alike (toPy a) (toPy b) = a.alike b ∨ a.alike b = false
  | .non, b, k, l, ha, hb => by cases b <;> first | (left; simp [toPy, PySem.W.alike, D.alike]; done) | (right; rfl) | cases hb
  | .bl x, b, k, l, ha, hb => by right; cases b <;> rfl
  | .int x, b, k, l, ha, hb => by cases b <;> first | (left; simp [toPy, PySem.W.alike, D.alike]; done) | (right; rfl) | cases hb
  | .str x, b, k, l, ha, hb => by cases b <;> first | (left; simp [toPy, PySem.W.alike, D.alike]; done) | (right; rfl) | cases hb
  | .tup xs, b, 0, l, ha, hb => by cases ha
  | .tup xs, b, k + 1, l, ha, hb => by
    cases b with
    | tup ys =>
      cases l with
      | zero => cases hb
      | succ l =>
        rcases alikes_of xs ys k l ha hb with e | e
        · left
          simp only [toPy, PySem.W.alike, D.alike]
          exact e
        · right
          exact e
    | _ => right; rfl
  | .frz xs, b, k, l, ha, hb => by right; cases b <;> rfl
  | .ref _, b, k, l, ha, hb => by right; cases b <;> rfl
theorem alikes_of : ∀ (a b : List D) (k l : Nat), fits a k = true → fits b l = true → PySem.W.alikeAll (toPys a) (toPys b) = alikes a b ∨ alikes a b = false
  | [], b, k, l, ha, hb => by left; cases b <;> simp [toPys, PySem.W.alikeAll, alikes]
  | x :: xs, [], k, l, ha, hb => by left; simp [toPys, PySem.W.alikeAll, alikes]
  | x :: xs, y :: ys, k, l, ha, hb => by
    obtain ⟨h1, h2⟩ := fits_cons ha
    obtain ⟨h3, h4⟩ := fits_cons hb
    rcases alike_of x y k l h1 h3 with e1 | e1
    · rcases alikes_of xs ys k l h2 h4 with e2 | e2
      · left
        simp only [toPys, PySem.W.alikeAll, alikes]
        rw [e1, e2]
      · right
        simp only [alikes]
        rw [e2, Bool.and_false]
    · right
      simp only [alikes]
      rw [e1, Bool.false_and]
end
theorem alike_yes {a b : D} {k l : Nat} (ha : a.fit k = true) (hb : b.fit l = true) (h : a.alike b = true) : PySem.W.alike (toPy a) (toPy b) = true := by
  rcases alike_of a b k l ha hb with e | e
  · rw [e, h]
  · rw [h] at e
    cases e
mutual
theorem dataLt_of : ∀ (a b : D) (k l : Nat), a.fit k = true → b.fit l = true → a.alike b = true → PySem.W.dataLt (toPy a) (toPy b) = (a.lt b).getD false
  | .non, b, k, l, ha, hb, h => by
    cases b with
    | non =>
      show PySem.W.dataLt .none .none = false
      exact PyProof.Rows.lex_irrefl _
    | _ => cases h
  | .bl x, b, k, l, ha, hb, h => by cases b <;> cases h
  | .int x, b, k, l, ha, hb, h => by
    cases b with
    | int y =>
      show PySem.W.dataLt (.int x) (.int y) = decide (x < y)
      exact PySem.W.dataLt_int x y
    | _ => cases h
  | .str x, b, k, l, ha, hb, h => by
    cases b with
    | str y =>
      show PySem.W.dataLt (.str x) (.str y) = decide (x.cps.toList < y.cps.toList)
      exact PySem.W.dataLt_str x y
    | _ => cases h
  | .tup xs, b, 0, l, ha, hb, h => by cases ha
  | .tup xs, b, k + 1, l, ha, hb, h => by
    cases b with
    | tup ys =>
      cases l with
      | zero => cases hb
      | succ l => exact toksLt_of xs ys k l ha hb h
    | _ => cases h
  | .frz xs, b, k, l, ha, hb, h => by cases b <;> cases h
  | .ref _, b, k, l, ha, hb, h => by cases b <;> cases h
theorem toksLt_of : ∀ (a b : List D) (k l : Nat), fits a k = true → fits b l = true → alikes a b = true → PyProof.Rows.lexLt itemOrd (PySem.W.keyToksAll (toPys a)) (PySem.W.keyToksAll (toPys b)) = (lts a b).getD false
  | [], [], k, l, ha, hb, h => PyProof.Rows.lex_irrefl _
  | [], y :: ys, k, l, ha, hb, h => by
    simp only [toPys, PySem.W.keyToksAll, lts]
    rw [PyProof.Rows.lex_diff (O := itemOrd) (by simp)]
    simp [itemLt]
  | x :: xs, [], k, l, ha, hb, h => by
    simp only [toPys, PySem.W.keyToksAll, lts]
    rw [PyProof.Rows.lex_diff (O := itemOrd) (by simp)]
    simp [itemLt]
  | x :: xs, y :: ys, k, l, ha, hb, h => by
    obtain ⟨h1, h2⟩ := fits_cons ha
    obtain ⟨h3, h4⟩ := fits_cons hb
    obtain ⟨h5, h6⟩ := and2 (show (x.alike y && alikes xs ys) = true from h)
    have al := alike_yes h1 h3 h5
    simp only [toPys, lts]
    by_cases q : D.eq x y = true
    · rw [if_pos q]
      rw [PySem.W.dataLt_all_yes al (by rw [eq_of x y k l h1 h3]; exact q)]
      exact toksLt_of xs ys k l h2 h4 h6
    · rw [if_neg q]
      rw [PySem.W.dataLt_all_no al (by rw [eq_of x y k l h1 h3]; simpa using q)]
      exact dataLt_of x y k l h1 h3 h5
end

/-! ### items with their keys -/
abbrev KB := V × (D × D)
abbrev encK (b : KB) : PyData := toPy b.2.1
theorem zipI {its : List Value} : ∀ {xs : List V} {ks ds : List D}, Vals xs its → ks.length = xs.length → ds.length = xs.length → PySem.W.EachIs (fun v (b : KB) => RelV b.1 v) its (xs.zip (ks.zip ds)) := by
  induction its with
  | nil =>
    intro xs ks ds h _ _
    cases h
    exact .nil
  | cons v its ih =>
    intro xs ks ds h e1 e2
    cases h with
    | cons r rs =>
      cases ks with
      | nil => cases e1
      | cons k ks =>
        cases ds with
        | nil => cases e2
        | cons d ds => exact .cons r (ih rs (Nat.succ.inj e1) (Nat.succ.inj e2))
theorem valsI : ∀ {out : List Value} {bs : List KB}, PySem.W.EachIs (fun v (b : KB) => RelV b.1 v) out bs → Vals (bs.map (·.1)) out
  | _, _, .nil => .nil
  | _, _, .cons r rs => .cons r (valsI rs)
theorem zip_vr {K : PySem.W.Frag} {ρ : List Addr} {H : Hp} : ∀ {xs : List V} {ks ds : List D}, VRs K ρ H xs ds → ∀ b ∈ xs.zip (ks.zip ds), VR K ρ H b.1 b.2.2
  | _, _, _, .nil, b, h => by simp at h
  | _, [], _, .cons _ _, b, h => by simp at h
  | _, k :: ks, _, .cons r rs, b, h => by
    rw [List.zip_cons_cons, List.zip_cons_cons] at h
    rcases List.mem_cons.mp h with e | h
    · subst e
      exact r
    · exact zip_vr rs b h
theorem vrs_of {K : PySem.W.Frag} {ρ : List Addr} {H : Hp} : ∀ {bs : List KB}, (∀ b ∈ bs, VR K ρ H b.1 b.2.2) → VRs K ρ H (bs.map (·.1)) (bs.map (·.2.2))
  | [], _ => .nil
  | b :: bs, h => .cons (h b List.mem_cons_self) (vrs_of fun c hc => h c (List.mem_cons_of_mem _ hc))
theorem zip_keys : ∀ {xs : List V} {ks ds : List D}, ks.length = xs.length → ds.length = xs.length → (xs.zip (ks.zip ds)).map encK = toPys ks
  | [], [], _, _, _ => rfl
  | [], _ :: _, _, h, _ => by cases h
  | _ :: _, [], _, h, _ => by cases h
  | _ :: _, _ :: _, [], _, h => by cases h
  | x :: xs, k :: ks, d :: ds, h1, h2 => by
    rw [List.zip_cons_cons, List.zip_cons_cons, List.map_cons, zip_keys (Nat.succ.inj h1) (Nat.succ.inj h2)]
    rfl
theorem mem_toPys {p : PyData} : ∀ {ks : List D}, p ∈ toPys ks → ∃ k ∈ ks, p = toPy k
  | [], h => by cases h
  | k :: ks, h => by
    rcases List.mem_cons.mp (show p ∈ toPy k :: toPys ks from h) with e | h
    · exact ⟨k, List.mem_cons_self, e⟩
    · obtain ⟨z, h1, h2⟩ := mem_toPys h
      exact ⟨z, List.mem_cons_of_mem _ h1, h2⟩
theorem sortable_of {ks : List D} (h : sortable ks = true) : PySem.W.AllAlike (toPys ks) ∧ PySem.W.Sortable (toPys ks) ∧ ∀ k ∈ ks, k.fit 60 = true ∧ ∀ l ∈ ks, k.alike l = true := by
  obtain ⟨h1, h2⟩ := and2 (show ((ks.all D.isRow || ks.all D.isAtom) && ks.all fun a => a.fit 60 && ks.all fun b => a.alike b) = true from h)
  have each : ∀ k ∈ ks, k.fit 60 = true ∧ ∀ l ∈ ks, k.alike l = true := fun k hk => by
    obtain ⟨a, b⟩ := and2 (List.all_eq_true.mp h2 k hk)
    exact ⟨a, fun l hl => List.all_eq_true.mp b l hl⟩
  refine ⟨fun p hp p' hp' => ?_, ?_, each⟩
  · obtain ⟨k, hk, rfl⟩ := mem_toPys hp
    obtain ⟨l, hl, rfl⟩ := mem_toPys hp'
    exact alike_yes (each k hk).1 (each l hl).1 ((each k hk).2 l hl)
  · rw [Bool.or_eq_true] at h1
    rcases h1 with h1 | h1
    · refine .inl fun p hp => ?_
      obtain ⟨k, hk, rfl⟩ := mem_toPys hp
      have r := List.all_eq_true.mp h1 k hk
      cases k with
      | tup xs =>
        cases xs with
        | nil => cases r
        | cons x xs => exact ⟨toPy x, toPys xs, rfl⟩
      | _ => cases r
    · refine .inr fun p hp => ?_
      obtain ⟨k, hk, rfl⟩ := mem_toPys hp
      have r := List.all_eq_true.mp h1 k hk
      cases k with
      | int i => exact ⟨(fun z => nomatch z), fun _ z => nomatch z⟩
      | str i => exact ⟨(fun z => nomatch z), fun _ z => nomatch z⟩
      | _ => cases r
theorem zip_mem {b : KB} : ∀ {xs : List V} {ks ds : List D}, b ∈ xs.zip (ks.zip ds) → b.2.1 ∈ ks
  | [], _, _, h => by simp at h
  | _ :: _, [], _, h => by simp at h
  | _ :: _, _ :: _, [], h => by simp at h
  | x :: xs, k :: ks, d :: ds, h => by
    rw [List.zip_cons_cons, List.zip_cons_cons] at h
    rcases List.mem_cons.mp h with e | h
    · subst e
      exact List.mem_cons_self
    · exact List.mem_cons_of_mem _ (zip_mem h)
theorem zip_snd : ∀ {xs : List V} {ks ds : List D}, ks.length = xs.length → ds.length = xs.length → (xs.zip (ks.zip ds)).map (·.2) = ks.zip ds
  | [], [], [], _, _ => rfl
  | [], [], _ :: _, _, h => by cases h
  | [], _ :: _, _, h, _ => by cases h
  | _ :: _, [], _, h, _ => by cases h
  | _ :: _, _ :: _, [], _, h => by cases h
  | x :: xs, k :: ks, d :: ds, h1, h2 => by
    rw [List.zip_cons_cons, List.zip_cons_cons, List.map_cons, zip_snd (Nat.succ.inj h1) (Nat.succ.inj h2)]
theorem sortedD {xs : List V} {ks ds : List D} (h : sortable ks = true) (h1 : ks.length = xs.length) (h2 : ds.length = xs.length) :
    ((xs.zip (ks.zip ds)).mergeSort (PySem.W.dataLe false encK)).map (·.2.2) = sortK ks ds := by
  obtain ⟨_, _, each⟩ := sortable_of h
  have e : ((xs.zip (ks.zip ds)).mergeSort (PySem.W.dataLe false encK)).map (·.2) = ((xs.zip (ks.zip ds)).map (·.2)).mergeSort leK := by
    refine List.map_mergeSort fun a ha b hb => ?_
    obtain ⟨f1, al⟩ := each _ (zip_mem hb)
    obtain ⟨f2, _⟩ := each _ (zip_mem ha)
    show (!PySem.W.dataLt (toPy b.2.1) (toPy a.2.1)) = !((D.lt b.2.1 a.2.1).getD false)
    rw [dataLt_of _ _ 60 60 f1 f2 (al _ (zip_mem ha))]
  rw [zip_snd h1 h2] at e
  unfold sortK
  rw [← e, List.map_map]
  rfl
section
variable {X : Cx} {g : Sig}
theorem len_sort {bs : List KB} : (bs.mergeSort (PySem.W.dataLe false encK)).length = bs.length := List.length_mergeSort _
theorem zip_len : ∀ {xs : List V} {ks ds : List D}, ks.length = xs.length → ds.length = xs.length → (xs.zip (ks.zip ds)).length = xs.length := fun h1 h2 => by
  rw [List.length_zip, List.length_zip, h1, h2, Nat.min_self, Nat.min_self]
theorem reads_each {pins : List (Addr × Obj)} {σ : L2.St} {H : Hp} {s : Shared} {ρ : List Addr} (I : Inv X pins σ H s) : ∀ {xs : List V} {ks : List D} {us : List Value}, VRs X.K ρ H xs ks → (∀ k ∈ ks, k.fit 60 = true) → Vals xs us →
    PySem.W.EachIs (fun v d => ∃ as, Reads s.heap v d as) us (toPys ks)
  | _, _, _, .nil, _, .nil => .nil
  | _, _, _, .cons r rs, hf, .cons u us => .cons (Dp.reads I _ _ _ (r.dp (hf _ List.mem_cons_self)) u) (reads_each I rs (fun k hk => hf k (List.mem_cons_of_mem _ hk)) us)
theorem each_of {α : Type} {P : Value → PyData → Prop} : ∀ {us : List Value} {xs : List V} {ks ds : List D}, PySem.W.EachIs P us (toPys ks) → ks.length = xs.length → ds.length = xs.length → PySem.W.EachIs (fun v (b : KB) => P v (encK b)) us (xs.zip (ks.zip ds))
  | _, [], [], _, .nil, _, _ => .nil
  | _, [], _ :: _, _, _, h, _ => by cases h
  | _, _ :: _, [], _, _, h, _ => by cases h
  | _, _ :: _, _ :: _, [], _, _, h => by cases h
  | _, x :: xs, k :: ks, d :: ds, e, h1, h2 => by
    cases e with
    | cons p q => exact .cons p (each_of (α := α) q (Nat.succ.inj h1) (Nat.succ.inj h2))
end
end Pd
end
section
set_option Elab.async false
set_option linter.all false
set_option maxRecDepth 100000
set_option autoImplicit false
/-! Items collected; sorted(xs). -/
namespace Pd
open PySem PySem.Spec PyProof.Rows L2
def CollOk (P : Program) (w : World) (A : Around) (s : Shared) (r : Addr) (Pv : List Value → Prop) : Prop := ∀ (E : Value → Shared → Prop) (Q : List Value → Shared → Prop),
  (∀ s' vs, (∀ b o, s.heap.get? b = some o → s'.heap.get? b = some o) → s'.gens = s.gens → s'.os = s.os → Pv vs → Q vs s') → wpAny (model P w) A (collect (.ref r)) Q E s
/-- the same, where the heap alone has grown -/
def RowsOk (P : Program) (w : World) (A : Around) (s : Shared) (r : Addr) (Pv : List Value → Prop) : Prop := ∀ (E : Value → Shared → Prop) (Q : List Value → Shared → Prop),
  (∀ h' tk vs, (∀ b o, s.heap.get? b = some o → h'.get? b = some o) → s.heap.objs.size ≤ h'.objs.size → Pv vs → Q vs { s with heap := h', toks := tk }) → wpAny (model P w) A (collect (.ref r)) Q E s
theorem RowsOk.coll {P : Program} {w : World} {A : Around} {s : Shared} {r : Addr} {Pv : List Value → Prop} (C : RowsOk P w A s r Pv) : CollOk P w A s r Pv := fun E Q hQ => C E Q fun h' tk vs k _ p => hQ _ vs k rfl rfl p
section
variable {P : Program} {w : World} {A : Around} {E : Value → Shared → Prop} {s : Shared} {r : Addr}
theorem src_collect {T : String} {d : Addr} {n : Nat} {Pi : Nat → Value → Prop} {OK : Heap → Prop} {R : List Value → Shared → Prop} (K : PySem.W.KdlSrc P w T r d n Pi OK) (hh : A.handled = none) (ok : OK s.heap) (hn : n ≤ sizeLine)
    (hR : ∀ h' tk acc, (∀ b o, s.heap.get? b = some o → h'.get? b = some o) → s.heap.objs.size ≤ h'.objs.size → ItemsOf Pi acc n → R acc.toList { s with heap := h', toks := tk }) : wpAny (model P w) A (collect (.ref r)) R E s := by
  obtain ⟨lt1, lt2⟩ := K.there _ ok
  unfold collect
  refine wpAny_bind (wpAny_runValue (codeAny_builtin entry_proto_collect' ?_))
  rw [Around.under_plainId PySem.F.plain_proto_collect _]
  show wpAny _ A.in1 (newList [] >>= fun l => again (.builtin "list.__iadd__" ⟨[l, .ref r], []⟩)) _ _ s
  refine wpAny_bind (wpAny_newObj_type (wpAny_pure ⟨plainId_quiet PySem.F.plain_list_iadd _, codeAny_builtin entry_list_iadd' ?_⟩))
  rw [Around.under_plainId PySem.F.plain_list_iadd _]
  have at0 : (s.heap.push { cls := .type "list", data := .seq ([] : List Value).toArray }).get? s.heap.objs.size = some { cls := .type "list", data := .seq #[] } := Heap.get?_push_size _ rfl
  show wpAny _ A.in1 (Builtin.List.listExtendWith (.ref s.heap.objs.size) (.ref r) (.ref s.heap.objs.size)) _ _ _
  have ext := PySem.W.kdl_extend (A := A) (s := { s with heap := s.heap.push { cls := .type "list", data := .seq ([] : List Value).toArray } })
    (R := fun (q : Result) (t : Shared) => ∃ (h' : Heap) (tk : Nat) (acc : Array Value) (c : Nat), q = .ok (.ret (.ref s.heap.objs.size)) ∧ t = { s with heap := h', toks := tk } ∧ (∀ b o, s.heap.get? b = some o → h'.get? b = some o) ∧
      h'.get? s.heap.objs.size = some { cls := .type "list", dict := none, data := .seq acc c, slots := #[] } ∧ ItemsOf Pi acc n) K hh (K.keep _ _ ok fun b _ o e => Heap.get?_push_of_some _ e) s.heap.objs.size (Nat.ne_of_gt lt1) (Nat.ne_of_gt lt2) (.ref s.heap.objs.size) 0 at0
    (fun h' tk acc c k a its => ⟨h', tk, acc, c, rfl, rfl, fun b o e => k b o (Nat.ne_of_lt (Heap.lt_size e)) (Heap.get?_push_of_some _ e), a, its⟩) hn
  have fin : ∀ (h' : Heap) (tk : Nat) (acc : Array Value) (c : Nat), (∀ b o, s.heap.get? b = some o → h'.get? b = some o) → h'.get? s.heap.objs.size = some { cls := .type "list", dict := none, data := .seq acc c, slots := #[] } → ItemsOf Pi acc n → R acc.toList { s with heap := h', toks := tk } :=
    fun h' tk acc c k a its => hR h' tk acc k (Nat.le_of_lt (Heap.lt_size a)) its
  refine wpAny_mono ext (fun fn t x => ?_) fun e t x => ?_
  · cases fn with
    | done f =>
      obtain ⟨h', tk, acc, c, e, rfl, k, a, its⟩ := x
      cases e
      show wpAny _ A (load s.heap.objs.size >>= _) _ _ _
      exact wpAny_bind (wpAny_load a (wpAny_pure (fin h' tk acc c k a its)))
    | again cd =>
      refine ⟨x.1, codeAny_mono x.2 fun q s2 y => ?_⟩
      obtain ⟨h', tk, acc, c, rfl, rfl, k, a, its⟩ := y
      show wpAny _ A (load s.heap.objs.size >>= _) _ _ _
      exact wpAny_bind (wpAny_load a (wpAny_pure (fin h' tk acc c k a its)))
  · obtain ⟨_, _, _, _, e', _⟩ := x
    cases e'
theorem sorted_coll {Pv : List Value → Prop} {Q : Value → Shared → Prop} (C : CollOk P w A.in1 s r Pv) (hP : ∀ vs, Pv vs → ∃ bs : List KB, PySem.W.EachIs (fun v (b : KB) => RelV b.1 v) vs bs ∧ PySem.W.EachIs (fun v (b : KB) => ∃ as, Reads s.heap v (encK b) as) vs bs ∧
      PySem.W.AllAlike (bs.map encK) ∧ PySem.W.Sortable (bs.map encK) ∧ bs.length ≤ sizeLine ∧ (∀ b, b ∈ bs → A.units + 2 + (encK b).depth < cLine) ∧
      ∀ out s' p c, out.length = bs.length → PySem.W.EachIs (fun v (b : KB) => RelV b.1 v) out (bs.mergeSort (PySem.W.dataLe false encK)) → (∀ b o, s.heap.get? b = some o → s'.heap.get? b = some o) → s'.gens = s.gens → s'.os = s.os → s.heap.get? p = none →
        s'.heap.get? p = some (seqObj "list" (List.toArray out) c) → Q (.ref p) s') : wpAny (model P w) A (call (.builtin "sorted") [.ref r]) Q E s := by
  refine Calls.call_function_entry kind_sorted plain_sorted entry_sorted (args_sorted1 _) ?_
  unfold Builtin.«sorted»
  refine wpAny_bind (m := checkCount "sorted" 1 1 _) (wpAny_pure ?_)
  refine wpAny_bind (C _ _ fun s1 vs k1 g1 o1 pv => ?_)
  obtain ⟨bs, e, er, hal, hso, hz, hd, q⟩ := hP vs pv
  have hl : vs.length = bs.length := e.length
  refine wpAny_bind (wpAny_newList ?_ (by rw [hl]; exact hz))
  have ho : (s1.heap.push { cls := .type "list", data := .seq vs.toArray }).get? s1.heap.objs.size = some (seqObj "list" vs.toArray 0) := Heap.get?_push_size _ rfl
  have kp : ∀ b o, s.heap.get? b = some o → (s1.heap.push { cls := .type "list", data := .seq vs.toArray }).get? b = some o := fun b o z => Heap.get?_push_of_some _ (k1 b o z)
  have hlt : ∀ {b o}, s.heap.get? b = some o → b < s1.heap.objs.size := fun z => Heap.lt_size (k1 _ _ z)
  show wpAny _ _ _ _ _ { s1 with heap := s1.heap.push { cls := .type "list", data := .seq vs.toArray } }
  have hz1 : (s1.heap.push { cls := .type "list", data := .seq vs.toArray }).objs.size = s1.heap.objs.size + 1 := Heap.size_push ..
  generalize s1.heap.push { cls := .type "list", data := .seq vs.toArray } = h1 at ho kp hz1 ⊢
  generalize hD : s1.heap.objs.size = D at ho hlt hz1 ⊢
  have er' : PySem.W.EachIs (fun v (b : KB) => ∃ as, Reads (PySem.W.sortingHeap h1 D vs) v (encK b) as) vs bs :=
    er.mono fun _ _ ⟨as, z⟩ => ⟨as, PyProof.Rows.Reads.keeps (fun b o zz => PySem.W.sortingHeap_old (Nat.ne_of_lt (hlt zz)) (kp b o zz)) z⟩
  have srt := PySem.W.sortVals_data false e er' hal
  have sat := PySem.W.SortsAt.data (prog := P) (w := w) (A := A.in1.in1) (s := { s1 with heap := PySem.W.sortingHeap h1 D vs }) (PySem.W.each_map (R := fun v d => ∃ as, Reads (PySem.W.sortingHeap h1 D vs) v d as) encK er') hal hso (PySem.W.bound_map hd)
  generalize PySem.W.dataKind (PySem.W.sortingHeap h1 D vs) (bs.map encK) = κ at srt sat
  refine wpAny_bind (wpAny_holding (wpAny_call_entry slot_list_sort ⟨_, ho, rfl⟩ entry_list_sort ?_ (args_list_sort _)))
  refine PySem.W.list_sort_vals (s := { s1 with heap := h1 }) (κ := κ) ho sat (by rw [hl]; exact hz) ?_
  have sl : (PySem.W.sortVals κ false vs vs).length = bs.length := by
    rw [PySem.W.sortVals_length false rfl]
    exact hl
  generalize PySem.W.sortVals κ false vs vs = out at srt sl
  obtain ⟨cc, hat⟩ := sortedHeap_at (out := out.toArray) ho
  refine ⟨.none, rfl, wpAny_pure ⟨_, rfl, q out _ D cc sl srt (fun b o z => ?_) g1 o1 ?_ hat⟩⟩
  · have zlt := hlt z
    exact (sortedHeap_old (Nat.ne_of_lt zlt) (by rw [hz1]; exact Nat.lt_succ_of_lt zlt)).trans (kp b o z)
  · cases z : s.heap.get? D with
    | none => rfl
    | some o => exact absurd (hlt z) (Nat.lt_irrefl _)
end
section
variable {X : Cx} {g : Sig} {pins : List (Addr × Obj)} {σ : L2.St} {H : Hp} {s : Shared} {ρ : List Addr} {st : Store} {A : Around}
theorem valsAt : ∀ {xs : List V} {us : List Value}, xs.length = us.length → (∀ (i : Nat) x u, xs[i]? = some x → us[i]? = some u → RelV x u) → Vals xs us
  | [], [], _, _ => .nil
  | [], _ :: _, h, _ => by cases h
  | _ :: _, [], h, _ => by cases h
  | x :: xs, u :: us, h, r => .cons (r 0 x u rfl rfl) (valsAt (Nat.succ.inj h) fun i y v h1 h2 => r (i + 1) y v h1 h2)
theorem paired_at {α β : Type} {F : α → β → Prop} : ∀ {l₁ : List α} {l₂ : List β} {i : Nat} {x : α} {y : β}, Paired F l₁ l₂ → l₁[i]? = some x → l₂[i]? = some y → F x y
  | _, _, _, _, _, .nil, h, _ => by simp at h
  | _, _, 0, _, _, .cons r _, h1, h2 => by
    cases h1
    cases h2
    exact r
  | _, _, i + 1, _, _, .cons _ rs, h1, h2 => paired_at (i := i) rs h1 h2
theorem relK {k : Key} {v : Value} (h : keyIs k v = true) : RelV (kV k) v := by
  rcases keyIs_shape h with ⟨i, t, rfl, rfl⟩ | ⟨x, t, rfl, rfl⟩
  · exact ⟨t, rfl⟩
  · exact ⟨t, rfl⟩
theorem keysVR {K : PySem.W.Frag} : ∀ {xs : List (Key × V)} {kvs : List (D × D)}, Paired (KeyR K ρ H) xs kvs → VRs K ρ H (xs.map fun q => kV q.1) (kvs.map (·.1))
  | _, _, .nil => .nil
  | _, _, .cons r rs => .cons r.1 (keysVR rs)
theorem entsVR {K : PySem.W.Frag} : ∀ {xs : List (NestedKey × Addr × Value)} {kvs : List (D × D)}, Paired (EntR K ρ H) xs kvs → VRs K ρ H (xs.map fun q => V.ref q.2.1) (kvs.map (·.1))
  | _, _, .nil => .nil
  | _, _, .cons r rs => .cons r.2.2.1 (entsVR rs)
theorem elsVR {K : PySem.W.Frag} : ∀ {L : List (Value × NestedKey)} {es : List D}, Paired (ElR K ρ H) L es → ∃ xs, Vals xs (L.map (·.1)) ∧ VRs K ρ H xs es
  | _, _, .nil => ⟨[], .nil, .nil⟩
  | _, _, .cons r rs => by
    obtain ⟨xs, h1, h2⟩ := elsVR rs
    obtain ⟨_, _, v, h3, h4⟩ := r
    exact ⟨v :: xs, .cons h3 h1, .cons h4 h2⟩
/-- the items of a cell, in their order -/
theorem coll_rows (I : Inv X pins σ H s) (hO : OfX g.T X) (hc : A.handled = none) (R : Rep X.K g.T ρ st H) {x : V} {d : D} {ds : List D} (hx : VR X.K ρ H x d) (h : rowsOf d st = some ds) :
    ∃ a xs, x = .ref a ∧ VRs X.K ρ H xs ds ∧ xs.length ≤ sizeLine ∧ RowsOk X.prog X.w A s a (fun vs => Vals xs vs) := by
  have lst : ∀ a xs, SqL X.K H a xs → xs.length ≤ sizeLine ∧ RowsOk X.prog X.w A s a (fun vs => Vals xs vs) := fun a xs ha => by
    obtain ⟨its, rx, pl, hz⟩ := I.list ha
    refine ⟨hz, fun E Q hQ => ?_⟩
    refine PyProof.Rows.collect_list pl.isList (hQ _ s.toks its (fun b o e => ?_) ?_ rx) (by rw [← rx.length]; exact hz)
    rotate_left
    · rw [Heap.size_update, Heap.size_push]
      exact Nat.le_succ _
    have sb := Heap.SameBut.update (s.heap.push (seqObj "list" #[] 0)) s.heap.objs.size (Obj.mapSeq (· ++ its.toArray))
    exact (sb.2 b (Nat.ne_of_lt (Heap.lt_size e))).trans (Heap.get?_push_of_some _ e)
  cases hx with
  | frz ha hs =>
    cases h
    obtain ⟨h1, h2⟩ := lst _ _ ha.sq
    exact ⟨_, _, rfl, hs, h1, h2⟩
  | ref ha =>
    rename_i n a
    obtain ⟨c, hcc, rc⟩ := R.at ha
    unfold rowsOf at h
    simp only [hcc] at h
    cases c with
    | lst ds' =>
      cases h
      obtain ⟨xs, h1, r⟩ := rc
      obtain ⟨h2, h3⟩ := lst _ _ (SqL.of h1)
      exact ⟨_, xs, rfl, r, h2, h3⟩
    | dct kvs =>
      dsimp only at h
      split at h
      · rename_i hz
        cases h
        have raw : ∀ (xs : List V) (es : Array DictEntry) (ep : Nat), (a == sysModules) = false → s.heap.DictRaw a es ep → es.size = xs.length → es.size ≤ sizeLine → (∀ (i : Nat) (hi : i < es.size) y, xs[i]? = some y → RelV y es[i].key) → RowsOk X.prog X.w A s a (fun vs => Vals xs vs) := fun xs es ep hs hr hl hzz hk E Q hQ => by
          refine src_collect (KdlSrc.rawDict hs) hc hr hzz fun h' tk acc old le its => hQ _ tk acc.toList old le ?_
          obtain ⟨i1, i2⟩ := its
          refine valsAt (by rw [← hl, ← i1]; rfl) fun i y u h1 h2 => ?_
          obtain ⟨hi, rfl⟩ := i2 i u (by rw [← Array.getElem?_toList]; exact h2)
          exact hk i hi y h1
        rcases rc with ⟨xs, hx, r⟩ | ⟨⟨hs, _⟩, xs, hx, nd, r⟩
        · obtain ⟨hz2, hs, vs, rel, dof⟩ := dk_of I.hok hx
          obtain ⟨es, ep, hr, hsz, hk⟩ := dof.raw
          have hl : vs.length = xs.length := rel.length.symm
          refine ⟨a, xs.map fun q => kV q.1, rfl, keysVR r, by rw [List.length_map]; exact hz2, raw _ es ep hs hr (by rw [hsz, hl, List.length_map]) (by rw [hsz, hl]; exact hz2) fun i hi y hy => ?_⟩
          rw [List.getElem?_map] at hy
          obtain ⟨q, hq, rfl⟩ := Option.map_eq_some_iff.mp hy
          have hv : i < vs.length := by rw [← hsz]; exact hi
          obtain ⟨p, e1⟩ : ∃ p, vs[i]? = some p := ⟨_, List.getElem?_eq_getElem hv⟩
          obtain ⟨k1, _⟩ := hk i hi p.1 p.2 e1
          have e2 : q.1 = p.1 := (paired_at rel hq e1).1
          rw [← e2] at k1
          exact relK k1
        · have dh := Inv.dctO I hO hx nd r
          obtain ⟨o, es, ep, ho, hex, hd, he, _⟩ := dh
          have hsz : es.size = xs.length := by
            have z := congrArg List.length he
            rwa [Array.length_toList, List.length_map] at z
          have hl : xs.length = kvs.length := r.length
          have hz3 : xs.length ≤ sizeLine := by rw [hl, ← LIM_eq]; exact hz
          refine ⟨a, xs.map fun q => V.ref q.2.1, rfl, entsVR r, by rw [List.length_map]; exact hz3, raw _ es ep hs ⟨o, ho, hex, hd⟩ (by rw [hsz, List.length_map]) (by rw [hsz]; exact hz3) fun i hi y hy => ?_⟩
          rw [List.getElem?_map] at hy
          obtain ⟨q, hq, rfl⟩ := Option.map_eq_some_iff.mp hy
          have e1 : es[i]? = some (entryOfKey (nestedKind X.prog X.w) q) := by
            rw [← Array.getElem?_toList, he, List.getElem?_map, hq]
            rfl
          rw [Array.getElem?_eq_getElem hi] at e1
          rw [Option.some.inj e1]
          rfl
      · cases h
    | _ => cases h
  | _ => cases h
end
end Pd
end
section
set_option Elab.async false
set_option linter.all false
set_option maxRecDepth 100000
set_option autoImplicit false
/-! sorted(xs): lists, dicts, sets. -/
namespace Pd
open PySem PySem.Spec PyProof.Rows L2
mutual
theorem eq_al : ∀ a b : D, a.alike b = true → (a.eq b = true ↔ a = b)
  | .non, b, h => by cases b <;> first | (cases h; done) | (exact ⟨fun _ => rfl, fun _ => rfl⟩)
  | .bl x, b, h => by cases b <;> cases h
  | .int x, b, h => by
    cases b with
    | int y =>
      show ((x == y) = true ↔ _)
      rw [beq_iff_eq]
      exact ⟨fun e => by rw [e], fun e => by cases e; rfl⟩
    | _ => cases h
  | .str x, b, h => by
    cases b with
    | str y =>
      show ((x == y) = true ↔ _)
      rw [beq_iff_eq]
      exact ⟨fun e => by rw [e], fun e => by cases e; rfl⟩
    | _ => cases h
  | .tup xs, b, h => by
    cases b with
    | tup ys =>
      have z := eqs_al xs ys h
      show (eqs xs ys = true ↔ _)
      rw [z]
      exact ⟨fun e => by rw [e], fun e => by cases e; rfl⟩
    | _ => cases h
  | .frz xs, b, h => by cases b <;> cases h
  | .ref _, b, h => by cases b <;> cases h
theorem eqs_al : ∀ xs ys : List D, alikes xs ys = true → (eqs xs ys = true ↔ xs = ys)
  | [], [], _ => ⟨fun _ => rfl, fun _ => rfl⟩
  | [], _ :: _, _ => ⟨fun e => (by cases e), fun e => (by cases e)⟩
  | _ :: _, [], _ => ⟨fun e => (by cases e), fun e => (by cases e)⟩
  | x :: xs, y :: ys, h => by
    obtain ⟨h1, h2⟩ := Bool.and_eq_true_iff.mp (show (x.alike y && alikes xs ys) = true from h)
    have z1 := eq_al x y h1
    have z2 := eqs_al xs ys h2
    show ((x.eq y && eqs xs ys) = true ↔ _)
    rw [Bool.and_eq_true, z1, z2]
    exact ⟨fun ⟨a, b⟩ => by rw [a, b], fun e => by cases e; exact ⟨rfl, rfl⟩⟩
end
mutual
theorem lt_tri : ∀ a b : D, a.alike b = true → b.alike a = true → (a.lt b).getD false = false → (b.lt a).getD false = false → a = b
  | .non, b, h, h', _, _ => by cases b <;> first | rfl | cases h
  | .bl x, b, h, h', _, _ => by cases b <;> cases h
  | .int x, b, h, h', l1, l2 => by
    cases b with
    | int y =>
      have l1 : decide (x < y) = false := l1
      have l2 : decide (y < x) = false := l2
      rw [decide_eq_false_iff_not] at l1 l2
      rw [show x = y by omega]
    | _ => cases h
  | .str x, b, h, h', l1, l2 => by
    cases b with
    | str y =>
      have l1 : decide (x.cps.toList < y.cps.toList) = false := l1
      have l2 : decide (y.cps.toList < x.cps.toList) = false := l2
      rw [decide_eq_false_iff_not] at l1 l2
      have e : x.cps.toList = y.cps.toList := List.le_antisymm (List.not_lt.mp l2) (List.not_lt.mp l1)
      obtain ⟨⟨x⟩⟩ := x
      obtain ⟨⟨y⟩⟩ := y
      cases e
      rfl
    | _ => cases h
  | .tup xs, b, h, h', l1, l2 => by
    cases b with
    | tup ys => rw [lts_tri xs ys h h' l1 l2]
    | _ => cases h
  | .frz xs, b, h, h', _, _ => by cases b <;> cases h
  | .ref _, b, h, h', _, _ => by cases b <;> cases h
theorem lts_tri : ∀ xs ys : List D, alikes xs ys = true → alikes ys xs = true → (lts xs ys).getD false = false → (lts ys xs).getD false = false → xs = ys
  | [], [], _, _, _, _ => rfl
  | [], _ :: _, _, _, l1, _ => by cases l1
  | _ :: _, [], _, _, _, l2 => by cases l2
  | x :: xs, y :: ys, h, h', l1, l2 => by
    obtain ⟨h1, h2⟩ := Bool.and_eq_true_iff.mp (show (x.alike y && alikes xs ys) = true from h)
    obtain ⟨h3, h4⟩ := Bool.and_eq_true_iff.mp (show (y.alike x && alikes ys xs) = true from h')
    have l1 : ((if D.eq x y then lts xs ys else D.lt x y) : Option Bool).getD false = false := l1
    have l2 : ((if D.eq y x then lts ys xs else D.lt y x) : Option Bool).getD false = false := l2
    by_cases c : D.eq x y = true
    · have e := (eq_al x y h1).mp c
      subst e
      rw [if_pos c] at l1 l2
      rw [lts_tri xs ys h2 h4 l1 l2]
    · have c' : ¬ D.eq y x = true := fun z => c (by
        have e := (eq_al y x h3).mp z
        subst e
        exact z)
      rw [if_neg c] at l1
      rw [if_neg c'] at l2
      have e := lt_tri x y h1 h3 l1 l2
      subst e
      exact absurd ((eq_al x x h1).mpr rfl) c
end
theorem sortable_perm {es ds : List D} (p : es.Perm ds) (h : sortable ds = true) : sortable es = true := by
  unfold sortable at h ⊢
  have al : ∀ f : D → Bool, es.all f = ds.all f := fun f => by
    rw [Bool.eq_iff_iff, List.all_eq_true, List.all_eq_true]
    exact ⟨fun z x hx => z x (p.mem_iff.mpr hx), fun z x hx => z x (p.mem_iff.mp hx)⟩
  simp only [al] at h ⊢
  exact h
theorem sortK_one {ks : List D} (h : sortable ks = true) : sortK ks ks = ks.mergeSort (PySem.W.dataLe false toPy) := by
  have z : ks.zip ks = ks.map fun k => (k, k) := by
    clear h
    induction ks with
    | nil => rfl
    | cons k ks ih => rw [List.zip_cons_cons, ih, List.map_cons]
  obtain ⟨_, _, each⟩ := sortable_of h
  have e := List.map_mergeSort (r := PySem.W.dataLe false toPy) (s := leK) (f := fun k : D => (k, k)) (l := ks) fun a ha b hb => by
    show (!PySem.W.dataLt (toPy b) (toPy a)) = !((D.lt b a).getD false)
    rw [dataLt_of b a 60 60 (each b hb).1 (each a ha).1 ((each b hb).2 a ha)]
  unfold sortK
  rw [z, ← e, List.map_map]
  exact List.map_id' _
theorem sortK_perm {es ds : List D} (p : es.Perm ds) (h : sortable ds = true) : sortK es es = sortK ds ds := by
  rw [sortK_one h, sortK_one (sortable_perm p h)]
  obtain ⟨_, _, each⟩ := sortable_of h
  have tr : ∀ a b c : D, PySem.W.dataLe false toPy a b = true → PySem.W.dataLe false toPy b c = true → PySem.W.dataLe false toPy a c = true := fun a b c h1 h2 => by
    have h1 : (!PySem.W.dataLt (toPy b) (toPy a)) = true := h1
    have h2 : (!PySem.W.dataLt (toPy c) (toPy b)) = true := h2
    show (!PySem.W.dataLt (toPy c) (toPy a)) = true
    rw [Bool.not_eq_true'] at h1 h2 ⊢
    cases z : PySem.W.dataLt (toPy c) (toPy a) with
    | false => rfl
    | true =>
      exfalso
      cases y : PySem.W.dataLt (toPy a) (toPy b) with
      | true =>
        have := lex_trans _ _ _ z y
        rw [show PyProof.Rows.lexLt PyProof.Rows.itemOrd (PySem.W.keyToks (toPy c)) (PySem.W.keyToks (toPy b)) = false from h2] at this
        cases this
      | false =>
        have e := lex_total _ _ y h1
        have z' : PyProof.Rows.lexLt PyProof.Rows.itemOrd (PySem.W.keyToks (toPy c)) (PySem.W.keyToks (toPy a)) = true := z
        rw [e, show PyProof.Rows.lexLt PyProof.Rows.itemOrd (PySem.W.keyToks (toPy c)) (PySem.W.keyToks (toPy b)) = false from h2] at z'
        cases z'
  have to : ∀ a b : D, (PySem.W.dataLe false toPy a b || PySem.W.dataLe false toPy b a) = true := fun a b => by
    show ((!PySem.W.dataLt (toPy b) (toPy a)) || (!PySem.W.dataLt (toPy a) (toPy b))) = true
    cases z : PySem.W.dataLt (toPy b) (toPy a) with
    | false => rfl
    | true =>
      cases y : PySem.W.dataLt (toPy a) (toPy b) with
      | false => rfl
      | true =>
        have := lex_trans _ _ _ z y
        rw [lex_irrefl] at this
        cases this
  refine List.Perm.eq_of_pairwise (le := fun a b => PySem.W.dataLe false toPy a b = true) (fun a b ha hb h1 h2 => ?_) (List.pairwise_mergeSort tr to _) (List.pairwise_mergeSort tr to _) (((List.mergeSort_perm _ _).trans p).trans (List.mergeSort_perm _ _).symm)
  have ha := p.mem_iff.mp (List.mem_mergeSort.mp ha)
  have hb := List.mem_mergeSort.mp hb
  have h1 : (!PySem.W.dataLt (toPy b) (toPy a)) = true := h1
  have h2 : (!PySem.W.dataLt (toPy a) (toPy b)) = true := h2
  rw [dataLt_of _ _ 60 60 (each b hb).1 (each a ha).1 ((each b hb).2 a ha), Bool.not_eq_true'] at h1
  rw [dataLt_of _ _ 60 60 (each a ha).1 (each b hb).1 ((each a ha).2 b hb), Bool.not_eq_true'] at h2
  exact lt_tri a b ((each a ha).2 b hb) ((each b hb).2 a ha) h2 h1
section
variable {X : Cx} {g : Sig} {pins : List (Addr × Obj)} {σ : L2.St} {H : Hp} {s : Shared} {ρ : List Addr} {st : Store} {A : Around}
theorem elsP {K : PySem.W.Frag} : ∀ {L : List (Value × NestedKey)} {es : List D}, Paired (ElR K ρ H) L es → Paired (fun u d => ∃ v, RelV v u ∧ VR K ρ H v d) (L.map (·.1)) es
  | _, _, .nil => .nil
  | _, _, .cons r rs => .cons r.2.2 (elsP rs)
theorem splitP {K : PySem.W.Frag} : ∀ {us : List Value} {es : List D}, Paired (fun u d => ∃ v, RelV v u ∧ VR K ρ H v d) us es → ∃ xs, Vals xs us ∧ VRs K ρ H xs es
  | _, _, .nil => ⟨[], .nil, .nil⟩
  | _, _, .cons r rs => by
    obtain ⟨xs, h1, h2⟩ := splitP rs
    obtain ⟨v, h3, h4⟩ := r
    exact ⟨v :: xs, .cons h3 h1, .cons h4 h2⟩
theorem coll_any (I : Inv X pins σ H s) (hO : OfX g.T X) (hc : A.handled = none) (R : Rep X.K g.T ρ st H) {x : V} {d : D} {ds : List D} (hx : VR X.K ρ H x d) (h : collOf d st = some ds) :
    ∃ a, x = .ref a ∧ ds.length ≤ sizeLine ∧ CollOk X.prog X.w A s a (fun vs => ∃ xs es, Vals xs vs ∧ VRs X.K ρ H xs es ∧ es.Perm ds) := by
  have plain : rowsOf d st = some ds → ∃ a, x = .ref a ∧ ds.length ≤ sizeLine ∧ CollOk X.prog X.w A s a (fun vs => ∃ xs es, Vals xs vs ∧ VRs X.K ρ H xs es ∧ es.Perm ds) := fun h => by
    obtain ⟨a, xs, e, r, hz, C⟩ := coll_rows I hO hc R hx h
    exact ⟨a, e, by rw [← r.length]; exact hz, fun E Q hQ => C.coll E Q fun s' vs k g o hv => hQ s' vs k g o ⟨xs, ds, hv, r, .refl _⟩⟩
  cases hx with
  | ref ha =>
    rename_i n a
    obtain ⟨c, hcc, rc⟩ := R.at ha
    unfold collOf at h
    unfold rowsOf at plain
    simp only [hcc] at h plain
    cases c with
    | lst ds' => exact plain h
    | dct kvs => exact plain h
    | set ds' =>
      cases h
      obtain ⟨L, es, hL, pm, pr⟩ := rc
      obtain ⟨o, esA, ep, t, e1, e2, e3, F⟩ := Inv.setA I hO hL
      have hlen : ds.length = L.length := by rw [← pm.length_eq, pr.length]
      have few := F.few
      refine ⟨a, rfl, by rw [hlen]; exact fits_of_scanBound few, fun E Q hQ => ?_⟩
      refine collect_set hc ⟨o, e1, e2.1, e3⟩ F.fits (by rw [F.size]; exact few) F.ris F.led fun s' out k _ g o' p => ?_
      rw [F.rows, List.map_map] at p
      obtain ⟨es', q1, q2⟩ := paired_perm (elsP pr) p
      obtain ⟨xs, q3, q4⟩ := splitP q1
      exact hQ s' out k g o' ⟨xs, es', q3, q4, q2.trans pm⟩
    | _ => cases h
  | frz ha hs => exact plain h
  | _ => cases h
theorem there_of {P : Program} {w : World} {h : Heap} {a : Addr} : ∀ {o : HO}, ObjOk P w H h a o → ∃ u, h.get? a = some u := by
  intro o x
  induction o with
  | lst xs => obtain ⟨_, _, _, _, e⟩ := x; exact ⟨_, e⟩
  | tup xs => obtain ⟨_, _, _, _, e, _⟩ := x; exact ⟨_, e⟩
  | dK kvs => obtain ⟨_, _, _, _, _, _, _, e, _⟩ := x; exact ⟨_, e⟩
  | dT kvs => obtain ⟨_, _, _, _, _, _, _, e, _⟩ := x; exact ⟨_, e⟩
  | set S n => obtain ⟨_, _, _, _, e, _⟩ := x; exact ⟨_, e⟩
  | ins C dx fs => obtain ⟨_, _, _, e, _⟩ := x; exact ⟨_, e⟩
  | own y => obtain ⟨_, e⟩ := x; exact ⟨_, e⟩
  | xd fs => obtain ⟨_, ⟨_, _, _, e, _⟩, _⟩ := x; exact ⟨_, e⟩
  | rng lo hi => obtain ⟨_, _, _, e⟩ := x; exact ⟨_, e⟩
  | frz ob u _ => exact ⟨_, x.1⟩
  | tbl ps => exact ⟨_, x⟩
  | met f y => exact ⟨_, x⟩
  | ext φ => exact x.2.1
/-- a new list behind a call that leaves all else -/
theorem inv_newL (I : Inv X pins σ H s) {s' : Shared} {p : Addr} {ys : List V} {out : List Value} {c : Nat} (k : ∀ b o, s.heap.get? b = some o → s'.heap.get? b = some o) (hg : s'.gens = s.gens) (ho : s'.os = s.os) (hp : s.heap.get? p = none) (hat : s'.heap.get? p = some (seqObj "list" (List.toArray out) c))
    (hv : Vals ys out) (hz : ys.length ≤ sizeLine) : H p = none ∧ Inv X pins σ (upd H p (.lst ys)) s' := by
  have hn : H p = none := by
    cases z : H p with
    | none => rfl
    | some o =>
      obtain ⟨u, e⟩ := there_of (I.hok p o z)
      rw [hp] at e
      cases e
  refine ⟨hn, ?_⟩
  have J : Inv X pins σ (upd H p (.lst ys)) { s with heap := s'.heap, gens := s'.gens, drawn := s'.drawn, toks := s'.toks } :=
    I.call (ch := []) (Un.laidN k hp hn) (HOk.laidN I.hok k hn ⟨hz, out, c, hv, hat⟩) (by rw [hg]; exact I.bare) (fun _ z => nomatch z)
  have e : s' = { s with heap := s'.heap, gens := s'.gens, drawn := s'.drawn, toks := s'.toks } := by
    cases s'
    cases s
    cases ho
    rfl
  rw [e]
  exact J
theorem bf_sorted (hO : OfX g.T X) (hc : X.calm = true) (hu : X.A.units + 200 < cLine) : CallR X (.builtin "sorted") (rF X.K g (bfn .sorted)) := by
  intro pins s σ H vs us Q I rv h
  obtain ⟨ρ, st, ds, E, R, hv, q⟩ := h
  match ds, hv, q with
  | [], _, q => exact (show False from q).elim
  | _ :: _ :: _, _, q => exact (show False from q).elim
  | [d], hv, q =>
    obtain ⟨x, rfl, hx⟩ := hv.one
    have q : Post X.K g (relD X.K) ρ H E Q (match collOf d st with
      | some ds => if sortable ds then alloc (.lst (sortK ds ds)) st else .err
      | none => .err) := q
    cases e : collOf d st with
    | none =>
      rw [e] at q
      exact q.elim
    | some ds =>
      rw [e] at q
      obtain ⟨hs, q⟩ := Post.ite q
      obtain ⟨a, rfl, hz, C⟩ := coll_any (A := X.A.in1) I hO (I.ok.hd hc) R hx e
      obtain ⟨u, rfl, ru⟩ := vals1 rv
      cases (show u = Value.ref a from ru)
      refine sorted_coll C fun vs ⟨xs, es, rx, r, pm⟩ => ?_
      have hs' := sortable_perm pm hs
      obtain ⟨al, so, each⟩ := sortable_of hs'
      have hl := r.length
      have zl := zip_len (xs := xs) (ks := es) (ds := es) hl.symm hl.symm
      have hz' : xs.length ≤ sizeLine := by rw [hl, pm.length_eq]; exact hz
      refine ⟨xs.zip (es.zip es), zipI rx hl.symm hl.symm, each_of (α := Unit) (reads_each I r (fun k hk => (each k hk).1) rx) hl.symm hl.symm, by rw [zip_keys hl.symm hl.symm]; exact al, by rw [zip_keys hl.symm hl.symm]; exact so, by rw [zl]; exact hz',
        fun b hb => ?_, fun out s' p c hlen hout k hg ho hp hat => ?_⟩
      · have := (lay_of _ 60 (each _ (zip_mem hb)).1).2
        show X.A.units + 2 + (toPy b.2.1).depth < cLine
        omega
      · have hvv := valsI hout
        obtain ⟨hn, J⟩ := inv_newL I k hg ho hp hat hvv (by rw [List.length_map, len_sort, zl]; exact hz')
        have rs : VRs X.K ρ H (((xs.zip (es.zip es)).mergeSort (PySem.W.dataLe false encK)).map (·.1)) (sortK ds ds) := by
          rw [← sortK_perm pm hs, ← sortedD (xs := xs) hs' hl.symm hl.symm]
          exact vrs_of fun b hb => zip_vr r b (List.mem_mergeSort.mp hb)
        exact ⟨.ref p, _, J, rfl, q.newL R hn rs⟩
end
end Pd
end
section
set_option Elab.async false
set_option linter.all false
set_option maxRecDepth 100000
set_option autoImplicit false
/-! sorted(xs, key=f), f a def. -/
namespace Pd
open PySem PySem.Spec PyProof.Rows L2
/-- a def's promise: it comes to what F says -/
def spF (K : PySem.W.Frag) (g : Sig) (n : Nat) (F : List D → Store → R D) : Sp := fun vs H Q E => vs.length = n ∧ ∃ ρ st ds, Rep K g.T ρ st H ∧ VRs K ρ H vs ds ∧ Post K g (relD K) ρ H E Q (F ds st)
theorem sameOn_eq : ∀ {st st' : Store}, sameOn st st' = true → st'.take st.length = st ∧ older st.length st st' = true
  | [], st', _ => ⟨by simp, by simp [older]⟩
  | c :: cs, [], h => by cases h
  | c :: cs, c' :: cs', h => by
    obtain ⟨h1, h2⟩ := and2 (show (c'.same c && sameOn cs cs') = true from h)
    have e : c' = c := Cell.same_eq h1
    subst e
    obtain ⟨e1, _⟩ := sameOn_eq h2
    refine ⟨?_, ?_⟩
    · show c' :: cs'.take cs.length = c' :: cs
      rw [e1]
    · have all : ∀ (xs ys : Store) (n : Nat), sameOn xs ys = true → older n xs ys = true := by
        intro xs
        induction xs with
        | nil => intro ys n _; rfl
        | cons x xs ih =>
          intro ys n h
          cases ys with
          | nil => cases h
          | cons y ys =>
            obtain ⟨a, b⟩ := and2 (show (y.same x && sameOn xs ys) = true from h)
            show ((y.same x || y.under n) && older n xs ys) = true
            rw [a, ih ys n b]
            rfl
      exact all _ _ _ h
theorem keysBy_cons {f : D → Store → R D} {st st' : Store} {d : D} {ds ks : List D} (h : keysBy f st (d :: ds) = .ok ks st') :
    ∃ k st1 ks', f d st = .ok k st1 ∧ sameOn st st1 = true ∧ k.under 0 = true ∧ keysBy f st ds = .ok ks' st' ∧ ks = k :: ks' := by
  have h' : ((f d st).bind fun k st' => if sameOn st st' && k.under 0 then (keysBy f st ds).bind fun ks st => .ok (k :: ks) st else .err) = .ok ks st' := h
  cases e : f d st with
  | ok k st1 =>
    rw [e] at h'
    have h2 : (if sameOn st st1 && k.under 0 then (keysBy f st ds).bind fun ks st => .ok (k :: ks) st else .err) = .ok ks st' := h'
    by_cases c : (sameOn st st1 && k.under 0) = true
    · rw [if_pos c] at h2
      cases e2 : keysBy f st ds with
      | ok ks' st2 =>
        rw [e2] at h2
        cases h2
        exact ⟨k, st1, ks', rfl, (and2 c).1, (and2 c).2, rfl, rfl⟩
      | exc _ _ _ =>
        rw [e2] at h2
        cases h2
      | err =>
        rw [e2] at h2
        cases h2
    · rw [if_neg c] at h2
      cases h2
  | exc _ _ _ =>
    rw [e] at h'
    cases h'
  | err =>
    rw [e] at h'
    cases h'
theorem keysBy_len {f : D → Store → R D} {st : Store} : ∀ {ds ks : List D} {st' : Store}, keysBy f st ds = .ok ks st' → ks.length = ds.length ∧ st' = st
  | [], ks, st', h => by
    cases h
    exact ⟨rfl, rfl⟩
  | d :: ds, ks, st', h => by
    obtain ⟨k, st1, ks', _, _, _, h4, rfl⟩ := keysBy_cons h
    obtain ⟨a, b⟩ := keysBy_len h4
    exact ⟨by rw [List.length_cons, List.length_cons, a], b⟩
theorem keysBy_at {f : D → Store → R D} {st : Store} : ∀ {ds ks : List D} {st' : Store} {i : Nat} {d : D}, keysBy f st ds = .ok ks st' → ds[i]? = some d → ∃ k st1, ks[i]? = some k ∧ f d st = .ok k st1 ∧ sameOn st st1 = true ∧ k.under 0 = true
  | [], _, _, _, _, _, h => by simp at h
  | e :: ds, ks, st', 0, d, h, hi => by
    obtain ⟨k, st1, ks', h1, h2, h3, _, rfl⟩ := keysBy_cons h
    simp at hi
    subst hi
    exact ⟨k, st1, rfl, h1, h2, h3⟩
  | e :: ds, ks, st', i + 1, d, h, hi => by
    obtain ⟨k, st1, ks', _, _, _, h4, rfl⟩ := keysBy_cons h
    obtain ⟨k2, st2, a, b⟩ := keysBy_at (i := i) h4 (by simpa using hi)
    exact ⟨k2, st2, by simpa using a, b⟩
theorem VR.nocell {K : PySem.W.Frag} {ρ : List Addr} {H : Hp} {v : V} {d : D} (h : VR K ρ H v d) (u : d.under 0 = true) (ρ' : List Addr) : VR K ρ' H v d := by
  have h1 : VR K ([] ++ ρ) H v d := h
  have h2 := h1.cut u
  have h3 := VR.grow (l := ρ') h2
  exact h3
section
variable {X : Cx} {g : Sig}
/-- the two lists that sorting holds end: what was sorted is known from now on -/
theorem inv_sorted {pins : List (Addr × Obj)} {σ : L2.St} {H : Hp} {s : Shared} {a kS : Addr} {h' : Heap} {tk : Nat} {outV : List V} (I : Inv X pins σ H s) (fa : FpOk X pins H a) (fk : FpOk X pins H kS)
    (k : ∀ b o, b ≠ a → b ≠ kS → s.heap.get? b = some o → h'.get? b = some o) (new : ObjOk X.prog X.w (upd H a (.lst outV)) h' a (.lst outV)) :
    Inv X pins σ (upd H a (.lst outV)) { s with heap := h', toks := tk } := by
  obtain ⟨a0, a1, a2, a3, a4, a5⟩ := fa
  obtain ⟨k0, k1, k2, k3, k4, k5⟩ := fk
  have nk : ∀ {b u}, H b = some u → b ≠ kS := fun e z => by
    rw [z, k0] at e
    cases e
  have na : ∀ {b u}, H b = some u → b ≠ a := fun e z => by
    rw [z, a0] at e
    cases e
  refine I.step (g' := s.gens) (d' := s.drawn) (ch := [a, kS]) (fun b hb => ?_) (fun b o _ _ hc e _ => k b o (fun z => hc (by simp [z])) (fun z => hc (by simp [z])) e)
    (fun b o _ _ hc e _ => ⟨o.slots, k b o (fun z => hc (by simp [z])) (fun z => hc (by simp [z])) e⟩) (fun b o hc e n => ?_) (fun b o hc e => ⟨o, k b o (fun z => hc (by simp [z])) (fun z => hc (by simp [z])) e⟩)
    (fun b xs e => by rw [upd_ne (na e)]; exact e) (fun b o u e => by rw [upd_ne (na e)]; exact e) (fun b ps e => ⟨#[], by rw [upd_ne (na e), e]; simp⟩) (fun m hm => ?_) (fun b u e => ?_) I.bare
  · rcases List.mem_cons.mp hb with z | z
    · rw [z]
      exact ⟨a3, a1, a4, a5⟩
    · rw [List.mem_singleton.mp z]
      exact ⟨k3, k1, k4, k5⟩
  · rw [upd_ne (fun z => hc (by simp [z]))]
    exact n
  · obtain ⟨o, es, ep, ho, r⟩ := hm
    exact ⟨o, es, ep, k _ o (Ne.symm a1) (Ne.symm k1) ho, r⟩
  · by_cases hb : b = a
    · subst hb
      rw [upd_same] at e
      cases e
      exact new
    · rw [upd_ne hb] at e
      refine (I.hok b u e).stay (fun c v hc q => ?_) (fun c q => by rw [upd_ne (na q)]; exact q) (fun c xs q => by rw [upd_ne (na q)]; exact q)
      rcases hc with z | z
      · subst z
        exact k _ v hb (nk e) q
      · exact k c v (na z) (nk z) q
theorem FpOk.mono {pins : List (Addr × Obj)} {H H' : Hp} {b : Addr} (f : FpOk X pins H b) (h : H' b = none) : FpOk X pins H' b := ⟨h, f.2⟩
theorem seqL_nocell (items : Array Value) (n : Nat) : ∀ v, (seqObj "list" items n).data ≠ .cell v := fun v z => by cases z
theorem takeSucc {α : Type} {l : List α} {i : Nat} {x : α} (h : l[i]? = some x) : l.take (i + 1) = l.take i ++ [x] := by
  rw [List.take_add_one, h]
  rfl
theorem sort_rest {k : Nat} {f : Addr} {fd : FuncData} {p : Str} {F : List D → Store → R D} (G : FnOk X.prog X.w X.K X.mg X.base (L2.CX X.prog X.w) k f fd [p] (spF X.K g 1 F)) (hb : Binds X.K fd [p] []) (hr : Room (k + 2) X.A) (hu : X.A.units + 200 < cLine)
    {pins : List (Addr × Obj)} {s : Shared} {σ : L2.St} {H : Hp} {Q : VK} {ρ : List Addr} {st st' : Store} {ds ks : List D} {xs : List V} {its : List Value} {a kS : Addr} {e1 : Nat} {E' : Value → Shared → Prop}
    (I : Inv X ((a, seqObj "list" #[] e1) :: (kS, seqObj "list" #[] 0) :: pins) σ H s) (fa : FpOk X pins H a) (fk : FpOk X pins H kS) (hka : kS ≠ a) (R : Rep X.K g.T ρ st H) (r : VRs X.K ρ H xs ds) (ri : Vals xs its) (hz : xs.length ≤ sizeLine)
    (hk : keysBy (fun d st => F [d] st) st ds = .ok ks st') (hs : sortable ks = true) {E : XK} (q : Post X.K g (relD X.K) ρ H E Q (alloc (.lst (sortK ks ds)) st)) :
    wpAny (model X.prog X.w) X.A.in1.in1 (ksk_rest a (.ref f) false its.toArray e1 (.ref kS)) (fun fin s' => fin = .done (.ret .none) ∧ EP X pins σ Q (.ref a) s') E' s := by
  obtain ⟨al, so, each⟩ := sortable_of hs
  obtain ⟨hkl, _⟩ := keysBy_len hk
  have hl := r.length
  have hli := ri.length
  have ok := I.ok
  unfold ksk_rest
  refine wpAny_bind (wpAny_rule ?_)
  rw [List.forIn_toArray]
  refine wpAny_bind (ksk_fold (fun i s' => ∃ (H' : Hp) (kA : Array Value) (e : Nat) (kV : List V), Inv X ((a, seqObj "list" #[] e1) :: (kS, seqObj "list" kA e) :: pins) σ H' s' ∧ Ext ρ H ρ H' ∧ Rep X.K g.T ρ st H' ∧
      VRs X.K ρ H' kV (ks.take i) ∧ Vals kV kA.toList) its 0 s ⟨H, #[], 0, [], I, Ext.refl _ _, R, .nil, .nil⟩ ?step ?done)
  case step =>
    rintro j u s1 hj ⟨H1, kA, e, kV, I1, x1, R1, rk, rv⟩
    simp only [Nat.zero_add] at rk ⊢
    have hjl : j < its.length := (List.getElem?_eq_some_iff.mp hj).1
    obtain ⟨v, hv⟩ : ∃ v, xs[j]? = some v := ⟨_, List.getElem?_eq_getElem (by omega)⟩
    obtain ⟨u', hu', ru⟩ := ri.get hv
    have eu : u' = u := by
      rw [hj] at hu'
      exact (Option.some.inj hu').symm
    subst eu
    obtain ⟨d, hd, rd⟩ := r.getV hv
    obtain ⟨kd, st1, hkd, hF, hsame, hund⟩ := keysBy_at hk hd
    obtain ⟨htake, hold⟩ := sameOn_eq hsame
    have hF : F [d] st = .ok kd st1 := hF
    have c0 := G.run X.A.in1.in1 X.stack s1 H1 ⟨[u'], []⟩ [u'] [v] (fun v' H' => ∃ l, Ext ρ H1 (ρ ++ l) H' ∧ Rep X.K g.T (ρ ++ l) st1 H' ∧ VR X.K (ρ ++ l) H' v' kd) E0 hr.in1.in1 I1.env0.in1.in1 (by
        have := hb s1 [u'] I1.kIn rfl
        simpa using this) (.cons ru .nil) ⟨rfl, ρ, st, [d], R1, .cons (rd.ext x1) .nil, by
        rw [hF]
        intro v' H' ρ' ex R' r'
        obtain ⟨l, e2, _⟩ := id ex.pre
        subst e2
        exact ⟨l, ex, R', r'⟩⟩
    have cw : wpAny (model X.prog X.w) X.A.in1.in1 (call (.ref f) [u']) (EP X ((a, seqObj "list" #[] e1) :: (kS, seqObj "list" kA e) :: pins) σ (fun v' H' => ∃ l, Ext ρ H1 (ρ ++ l) H' ∧ Rep X.K g.T (ρ ++ l) st1 H' ∧ VR X.K (ρ ++ l) H' v' kd)) (fun _ _ => False) s1 := by
      refine wpAny_call (codeAny_mono c0 fun rr s2 hq => ?_)
      cases rr with
      | error e =>
        obtain ⟨_, _, _, _, _, _, _, _, _, _, _, _, z⟩ := (show L2.CX X.prog X.w X.stack H1 s1 E0 e s2 from hq)
        exact z.elim
      | ok fl =>
        cases fl with
        | ret u => exact I1.after hq
        | next => exact False.elim hq
        | brk => exact False.elim hq
        | cont => exact False.elim hq
    refine wpAny_bind (wpAny_attempt (wpAny_mono cw (fun w s2 hw => ?_) fun _ _ hF => hF.elim))
    obtain ⟨v', H2, I2, r2, l, ex2, R2, rk2⟩ := hw
    have nkS : s2.heap.get? kS = some (seqObj "list" kA e) := (I2.pin (kS, _) (by simp)).1
    have hkAl : kA.size = j := by
      have h1 := rv.length
      have h2 := rk.length
      rw [List.length_take] at h2
      simp only [Array.length_toList] at h1
      omega
    have hzj : kA.size ≤ sizeLine := by omega
    try dsimp only
    have sb := Heap.SameBut.update s2.heap kS (Obj.mapSeq (·.push w))
    obtain ⟨c2, hc2⟩ : ∃ c2, (s2.heap.update kS (Obj.mapSeq (·.push w))).get? kS = some (seqObj "list" (kA.push w) c2) := ⟨_, get?_update_seq nkS (·.push w)⟩
    refine wpAny_bind (listUpdate_at nkS rfl ?_ hzj (by rw [Array.size_push]; omega))
    refine wpAny_pure ⟨rfl, H2, kA.push w, c2, kV ++ [v'], ?_, x1.trans ex2.cutTo, ?_, ?_, ?_⟩
    · have I3 : Inv X ((a, seqObj "list" #[] e1) :: pins) σ H2 s2 := I2.pins_of fun q hq => I2.pin q (List.mem_append_right _ (by
        rcases List.mem_cons.mp hq with z | z
        · rw [z]; exact List.mem_cons_self
        · exact List.mem_cons_of_mem _ (List.mem_cons_of_mem _ z)))
      have hn2 : H2 kS = none := (I2.pin (kS, seqObj "list" kA e) (List.mem_append_right _ (by simp))).2.1
      obtain ⟨_, k1, k2, k3, k4, k5⟩ := fk
      have I4 := I3.turned (t' := s2.toks) (h' := s2.heap.update kS (Obj.mapSeq (·.push w))) (it := kS) (fun b o hbk e => (sb.2 b hbk).trans e) hn2 k1 k3 k4 (fun q hq => by
        rcases List.mem_append.mp hq with z | z
        · exact k5 q (List.mem_append_left _ z)
        · rcases List.mem_cons.mp z with z | z
          · rw [z]; exact hka.symm
          · exact k5 q (List.mem_append_right _ z))
      refine I4.pins_of fun q hq => ?_
      rcases List.mem_cons.mp hq with z | z
      · rw [z]
        exact I4.pin _ (List.mem_append_right _ List.mem_cons_self)
      · rcases List.mem_cons.mp z with z | z
        · rw [z]
          exact ⟨hc2, hn2, k1, k2, seqL_nocell _ _⟩
        · exact I4.pin _ (List.mem_append_right _ (List.mem_cons_of_mem _ z))
    · have := R1.cutTo R2 hold
      rwa [htake] at this
    · rw [takeSucc hkd]
      exact (VRs.ext ex2.cutTo rk).append (.cons (rk2.nocell hund _) .nil)
    · have e2 : (kA.push w).toList = kA.toList ++ [w] := by simp
      rw [e2]
      exact rv.append (.cons r2 .nil)
  case done =>
    rintro s1 ⟨H1, kA, e, kV, I1, x1, R1, rk, rv⟩
    have e0 : ks.take (0 + its.length) = ks := List.take_of_length_le (by omega)
    rw [e0] at rk
    try dsimp only
    have nkS : s1.heap.get? kS = some (seqObj "list" kA e) := (I1.pin (kS, _) (by simp)).1
    have na : s1.heap.get? a = some (seqObj "list" #[] e1) := (I1.pin (a, _) (by simp)).1
    have hn1 : H1 kS = none := (I1.pin (kS, seqObj "list" kA e) (List.mem_append_right _ (by simp))).2.1
    have ha1 : H1 a = none := (I1.pin (a, seqObj "list" #[] e1) (List.mem_append_right _ (by simp))).2.1
    have hsz : kA.size = its.length := by
      have h1 := rv.length
      have h2 := rk.length
      simp only [Array.length_toList] at h1
      omega
    refine wpAny_bind (listItems_at nkS rfl ?_)
    have hu2 : ∀ d ∈ toPys ks, X.A.in1.in1.units + d.depth < cLine := fun d hd => by
      obtain ⟨k, hk, rfl⟩ := mem_toPys hd
      have := (lay_of k 60 (each k hk).1).2
      show X.A.units + 1 + 1 + (toPy k).depth < cLine
      omega
    have re := reads_each I1 rk (fun k hk => (each k hk).1) rv
    refine PySem.W.keyH_end (κ := PySem.W.dataKind s1.heap (toPys ks)) (h₁ := PySem.W.hideAll s1.heap [kS]) (fun b o _ e => PySem.W.of_hideAll [kS] e) (PySem.W.hideAll_none [kS] (by simp)) nkS na hka
      (PySem.W.SortsAt.data re al so hu2) hsz (by omega) (fun h3 tk3 c k3 n3 => ⟨rfl, ?_⟩)
    have zl := zip_len (xs := xs) (ks := ks) (ds := ds) (by omega) hl.symm
    have out := PySem.W.keyedOut_each (rev := false) (bs := xs.zip (ks.zip ds)) encK (R := fun v b => RelV b.1 v) (vs := its) (by
      rw [zip_keys (by omega) hl.symm]
      exact ⟨s1.heap, kA.toList, al, rfl, re⟩) (zipI ri (by omega) hl.symm)
    have rs : VRs X.K ρ H1 (((xs.zip (ks.zip ds)).mergeSort (PySem.W.dataLe false encK)).map (·.1)) (sortK ks ds) := by
      rw [← sortedD (xs := xs) hs (by omega) hl.symm]
      exact vrs_of fun b hb => zip_vr (VRs.ext x1 r) b (List.mem_mergeSort.mp hb)
    have I3 : Inv X pins σ H1 s1 := I1.pins_of fun q hq => I1.pin q (List.mem_append_right _ (List.mem_cons_of_mem _ (List.mem_cons_of_mem _ hq)))
    have I4 := inv_sorted (tk := tk3) (h' := h3) (outV := ((xs.zip (ks.zip ds)).mergeSort (PySem.W.dataLe false encK)).map (·.1)) I3 ⟨ha1, fa.2⟩ ⟨hn1, fk.2⟩
      (fun b o hba hbk e => k3 b o hba (PySem.W.hideAll_get _ e (by simpa using hbk))) ⟨by rw [List.length_map, len_sort, zl]; exact hz, _, c, valsI out, n3⟩
    exact ⟨.ref a, _, I4, rfl, (Post.ext x1 q).newL R1 ha1 rs⟩
/-- sorted(xs, ..): list.sort(..) of a new list of the items -/
theorem sorted_kw {pins : List (Addr × Obj)} {s : Shared} {σ : L2.St} {Q : VK} {r : Addr} {xs : List V} {kw : List (Str × Value)} (C : RowsOk X.prog X.w X.A.in1 s r (fun vs => Vals xs vs)) (hz : xs.length ≤ sizeLine) (ha1 : argsOk "sorted" ⟨[.ref r], kw⟩) (ha2 : ∀ x, argsOk "list.sort" ⟨[.ref x], kw⟩)
    (body : ∀ (h0 : Heap) (D tk : Nat) (its : List Value) (E' : Value → Shared → Prop), Vals xs its → h0.get? D = some (seqObj "list" its.toArray 0) → (∀ b o, s.heap.get? b = some o → h0.get? b = some o) → s.heap.objs.size ≤ D → D < h0.objs.size →
      wpAny (model X.prog X.w) X.A.in1.in1 (Builtin.«list.sort» ⟨[.ref D], kw⟩) (fun f s' => f = .done (.ret .none) ∧ EP X pins σ Q (.ref D) s') E' { s with heap := h0, toks := tk }) : wpAny (model X.prog X.w) X.A (call (.builtin "sorted") [.ref r] kw) (EP X pins σ Q) X.xe s := by
  refine call_function_entry_kw kind_sorted plain_sorted entry_sorted ha1 ?_
  unfold Builtin.«sorted»
  refine wpAny_bind (m := checkCount "sorted" 1 1 _) (wpAny_pure ?_)
  refine wpAny_bind (C _ _ fun h1 tk its k1 le rx => ?_)
  refine wpAny_bind (wpAny_newList ?_ (by rw [← rx.length]; exact hz))
  have ho : (h1.push { cls := .type "list", data := .seq its.toArray }).get? h1.objs.size = some (seqObj "list" its.toArray 0) := Heap.get?_push_size _ rfl
  refine wpAny_bind (wpAny_holding (wpAny_call_entry_kw slot_list_sort ⟨_, ho, rfl⟩ entry_list_sort ?_ (ha2 _)))
  refine wpAny_mono (body _ h1.objs.size tk its _ rx ho (fun b o e => Heap.get?_push_of_some _ (k1 b o e)) le (Heap.lt_size ho)) (fun f s' hf => ?_) fun _ _ e => e
  obtain ⟨rfl, hq⟩ := hf
  exact ⟨_, rfl, wpAny_pure ⟨_, rfl, hq⟩⟩
theorem sort_key {k : Nat} {f : Addr} {fd : FuncData} {p : Str} {F : List D → Store → R D} (hO : OfX g.T X) (hc : X.calm = true) (G : FnOk X.prog X.w X.K X.mg X.base (L2.CX X.prog X.w) k f fd [p] (spF X.K g 1 F)) (hb : Binds X.K fd [p] []) (hr : Room (k + 2) X.A) (hu : X.A.units + 200 < cLine)
    {pins : List (Addr × Obj)} {s : Shared} {σ : L2.St} {H : Hp} {x : V} {v : Value} {Q : VK} {ρ : List Addr} {st st' : Store} {d : D} {ds ks : List D} (I : Inv X pins σ H s) (rx : RelV x v) (R : Rep X.K g.T ρ st H) (hx : VR X.K ρ H x d) (hd : rowsOf d st = some ds)
    (hk : keysBy (fun d st => F [d] st) st ds = .ok ks st') (hs : sortable ks = true) {E : XK} (q : Post X.K g (relD X.K) ρ H E Q (alloc (.lst (sortK ks ds)) st)) :
    wpAny (model X.prog X.w) X.A (call (.builtin "sorted") [v] [(Str.ofString "key", .ref f)]) (EP X pins σ Q) X.xe s := by
  obtain ⟨l, xs, rfl, r, hz, C⟩ := coll_rows (A := X.A.in1) I hO (I.ok.hd hc) R hx hd
  cases (show v = Value.ref l from rx)
  refine sorted_kw C hz (ksk_s1 _ _) (fun _ => ksk_l1 _ _) fun h0 D tk its E' ri ho keep0 hD hal => ?_
  have hli := ri.length
  rw [ksk_t1]
  obtain ⟨e1, ho1⟩ : ∃ e1, (h0.update D (Obj.mapSeq fun _ => (#[] : Array Value))).get? D = some (seqObj "list" #[] e1) := ⟨_, get?_update_seq ho fun _ => #[]⟩
  have sb := Heap.SameBut.update h0 D (Obj.mapSeq fun _ => (#[] : Array Value))
  unfold ksk_tree
  refine wpAny_bind (listItems_at ho rfl ?_)
  refine wpAny_bind (listUpdate_at ho rfl ?_ (by rw [List.size_toArray, ← hli]; exact hz) (Nat.zero_le _))
  refine wpAny_bind (seqEpoch_at ho1 rfl ?_)
  refine wpAny_bind (wpAny_newTuple ?_ (by show its.length ≤ _; rw [← hli]; exact hz))
  refine wpAny_bind (wpAny_newList ?_ (Nat.zero_le _))
  refine wpAny_holding ?_
  have hsz : (h0.update D (Obj.mapSeq fun _ => (#[] : Array Value))).objs.size = h0.objs.size := Heap.size_update ..
  have I0 : Inv X pins σ H { s with heap := ((h0.update D (Obj.mapSeq fun _ => (#[] : Array Value))).push (seqObj "tuple" its.toArray 0)).push (seqObj "list" #[] 0), toks := tk } := I.kept (t' := tk) fun b o e => by
    have hlt : b < s.heap.objs.size := Heap.lt_size e
    exact Heap.get?_push_of_some _ (Heap.get?_push_of_some _ ((sb.2 b (Nat.ne_of_lt (Nat.lt_of_lt_of_le hlt hD))).trans (keep0 b o e)))
  have hk1 : s.heap.objs.size ≤ ((h0.update D (Obj.mapSeq fun _ => (#[] : Array Value))).push (seqObj "tuple" its.toArray 0)).objs.size := by
    rw [Heap.size_push, hsz]
    exact Nat.le_succ_of_le (Nat.le_of_lt (Nat.lt_of_le_of_lt hD hal))
  have fa : FpOk X pins H D := I.fpOk hD (I.hok.fresh hD)
  have fk : FpOk X pins H ((h0.update D (Obj.mapSeq fun _ => (#[] : Array Value))).push (seqObj "tuple" its.toArray 0)).objs.size := I.fpOk hk1 (I.hok.fresh hk1)
  have hka : ((h0.update D (Obj.mapSeq fun _ => (#[] : Array Value))).push (seqObj "tuple" its.toArray 0)).objs.size ≠ D := by
    rw [Heap.size_push, hsz]
    exact Nat.ne_of_gt (Nat.lt_succ_of_lt hal)
  refine sort_rest G hb hr hu (I0.pins_of fun q hq => ?_) fa fk hka R r ri hz hk hs q
  rcases List.mem_cons.mp hq with z | z
  · rw [z]
    exact ⟨Heap.get?_push_of_some _ (Heap.get?_push_of_some _ ho1), fa.1, fa.2.1, fa.2.2.1, seqL_nocell _ _⟩
  · rcases List.mem_cons.mp z with z | z
    · rw [z]
      exact ⟨Heap.get?_push_size _ rfl, fk.1, fk.2.1, fk.2.2.1, seqL_nocell _ _⟩
    · exact I0.pin _ (List.mem_append_right _ z)
end
end Pd
end
section
set_option Elab.async false
set_option linter.all false
set_option maxRecDepth 100000
set_option autoImplicit false
/-! An expression comes to what den says: construct by construct. -/
namespace Pd
open PySem PySem.Spec PyProof.Rows L2

theorem peW {X : Cx} {e : Expr} {t t' : TE} (h : PE X e t) (w : ∀ σ H Q, t' σ H Q → t σ H Q) : PE X e t' := ⟨fun pins s σ H Q I q => h.run pins s σ H Q I (w σ H Q q)⟩
theorem ptW {X : Cx} {e : Expr} {t t' : TT} (h : PT X e t) (w : ∀ σ H Q, t' σ H Q → t σ H Q) : PT X e t' := ⟨fun pins s σ H Q I q => h.run pins s σ H Q I (w σ H Q q)⟩
theorem pwW {X : Cx} {e : Expr} {t t' : TT} (h : PW X e t) (w : ∀ σ H Q, t' σ H Q → t σ H Q) : PW X e t' := ⟨fun wh pins s σ H Q I q => h.run wh pins s σ H Q I (w σ H Q q)⟩
theorem paW {X : Cx} {es : List Expr} {t t' : TA} (h : PA X es t) (w : ∀ σ H Q, t' σ H Q → t σ H Q) : PA X es t' := ⟨fun pos pins s σ H Q I q => h.run pos pins s σ H Q I (w σ H Q q)⟩
theorem poW {X : Cx} {e : Option Expr} {t t' : TO} (h : PO X e t) (w : ∀ σ H Q, t' σ H Q → t σ H Q) : PO X e t' := ⟨fun pins s σ H Q I q => h.run pins s σ H Q I (w σ H Q q)⟩
theorem psW {X : Cx} {st : Stmt} {t t' : TS} (h : PS X st t) (w : ∀ D σ H, t' D σ H → t D σ H) : PS X st t' := ⟨fun pins s σ H D I q => h.run pins s σ H D I (w D σ H q)⟩
theorem pssW {X : Cx} {st : List Stmt} {t t' : TS} (h : PSs X st t) (w : ∀ D σ H, t' D σ H → t D σ H) : PSs X st t' := ⟨fun pins s σ H D I q => h.run pins s σ H D I (w D σ H q)⟩
theorem piW {X : Cx} {tg it : Expr} {t t' : TI} (h : PI X tg it t) (w : ∀ σ H Q, t' σ H Q → t σ H Q) : PI X tg it t' := ⟨fun pins s σ H Q I q => h.run pins s σ H Q I (w σ H Q q)⟩
theorem ptsW {X : Cx} {es : List Expr} {t t' : TT} (h : PTs X es t) (w : ∀ σ H Q, t' σ H Q → t σ H Q) : PTs X es t' := ⟨fun pins s σ H Q I q => h.run pins s σ H Q I (w σ H Q q)⟩

section
variable {K : PySem.W.Frag} {g : Sig} {α β γ δ : Type} {rel : List Addr → Hp → β → α → Prop} {rel' : List Addr → Hp → δ → γ → Prop} {ρ ρ' : List Addr} {H H' : Hp} {E : XK} {W : WX} {σ : L2.St} {env : Env} {st st' : Store}
theorem Post.mono {Q Q' : β → Hp → Prop} {r : R α} (h : Post K g rel ρ H E Q r) (w : ∀ b H', Q b H' → Q' b H') : Post K g rel ρ H E Q' r := by
  cases r with
  | ok a s => exact fun b H' ρ' e R r => w _ _ (h b H' ρ' e R r)
  | exc c d s => exact h
  | err => exact h
/-- a first part, then what follows it -/
theorem seqX {F : Env → Store → R α} {G : α → Store → R γ} {Q : δ → Hp → Prop} (R : Rep K g.T ρ st H) (En : EnvR K ρ H σ env) (q : Post K g rel' ρ H (fun cls dx H' => W cls dx σ H') Q ((F env st).bind G)) {Q' : β → Hp → Prop}
    (k : ∀ b H1 ρ1 st1 a, F env st = .ok a st1 → Ext ρ H ρ1 H1 → Rep K g.T ρ1 st1 H1 → EnvR K ρ1 H1 σ env → rel ρ1 H1 b a → Post K g rel' ρ1 H1 (fun cls dx H' => W cls dx σ H') Q (G a st1) → Q' b H1) : tX K g rel W F σ H Q' :=
  ⟨ρ, env, st, R, En, Post.mono (Post.bind (rel := rel) q) fun b H1 ⟨a, st1, ρ1, e, ex, R1, r1, q1⟩ => k b H1 ρ1 st1 a e ex R1 (En.ext ex) r1 q1⟩
end
section
variable {X : Cx} {g : Sig} {W : WX} {a b c : Expr} {Fa Fb Fc : Env → Store → R D} {pos : Pos}
theorem c_bin {op : Operator} {f : D → D → Store → R D} (ho : OpR X (binaryOp op) (rB X.K g f)) (ha : PE X a ((tE X.K g W) Fa)) (hb : PE X b ((tE X.K g W) Fb)) :
    PE X (.BinOp a op b pos) ((tE X.K g W) fun env st => (Fa env st).bind fun x st => (Fb env st).bind fun y st => f x y st) :=
  peW (pe_op ho ha hb) fun σ H Q ⟨ρ, env, st, R, En, q⟩ => seqX R En q fun x H1 ρ1 st1 d _ _ R1 En1 rx q => seqX R1 En1 q fun y H2 ρ2 st2 e _ ex2 R2 _ ry q => ⟨ρ2, st2, d, e, _, R2, rx.ext ex2, ry, q⟩
theorem c_idx (hO : OfX g.T X) (hu : X.A.units + 200 < cLine) (ha : PE X a ((tE X.K g W) Fa)) (hb : PE X b ((tE X.K g W) Fb)) (hp : PlainIx b) : PE X (.Subscript a b pos) ((tE X.K g W) fun env st => (Fa env st).bind fun x st => (Fb env st).bind fun k st => idx x k st) :=
  peW (pe_ix (ix_pd hO hu) ha hb hp) fun σ H Q ⟨ρ, env, st, R, En, q⟩ => seqX R En q fun x H1 ρ1 st1 d _ _ R1 En1 rx q => seqX R1 En1 q fun y H2 ρ2 st2 e _ ex2 R2 _ ry q => ⟨ρ2, st2, d, e, _, R2, rx.ext ex2, ry, q⟩
theorem c_neg (ha : PE X a ((tE X.K g W) Fa)) : PE X (.UnaryOp .USub a pos) ((tE X.K g W) fun env st => (Fa env st).bind fun x st => match x with
    | .int i => .ok (.int (-i)) st
    | _ => .err) :=
  peW (pe_un un_neg ha) fun σ H Q ⟨ρ, env, st, R, En, q⟩ => seqX R En q fun x H1 ρ1 st1 d _ _ R1 En1 rx q => by
    cases rx with
    | int i => exact ⟨i, rfl, q.here R1 (.int _)⟩
    | _ => exact (show False from q).elim
/-- what a test asks -/
theorem tru_go {ρ : List Addr} {H : Hp} {st : Store} {x : V} {d : D} {α β : Type} {rel : List Addr → Hp → β → α → Prop} {E : XK} {Q : β → Hp → Prop} {G : Bool → Store → R α} (R : Rep X.K g.T ρ st H) (hx : VR X.K ρ H x d)
    (q : Post X.K g rel ρ H E Q ((Pd.R.of (truth d st) st).bind G)) : ∃ k, TruV X.K x H k ∧ Post X.K g rel ρ H E Q (G k st) := by
  cases e : truth d st with
  | none =>
    rw [e] at q
    exact q.elim
  | some k =>
    rw [e] at q
    exact ⟨k, tru_of R hx e, q⟩
theorem c_notV (ha : PE X a ((tE X.K g W) Fa)) : PE X (.UnaryOp .Not a pos) ((tE X.K g W) fun env st => (Fa env st).bind fun x st => (Pd.R.of (truth x st) st).bind fun b st => .ok (.bl (!b)) st) :=
  peW (pe_notT ha) fun σ H Q ⟨ρ, env, st, R, En, q⟩ => seqX R En q fun x H1 ρ1 st1 d _ _ R1 En1 rx q => by
    obtain ⟨k, t, q⟩ := tru_go R1 rx q
    exact ⟨k, t, q.here R1 (.bl _)⟩
abbrev tru (F : Env → Store → R D) : Env → Store → R Bool := fun env st => (F env st).bind fun x st => Pd.R.of (truth x st) st
theorem of_bind {ρ : List Addr} {H : Hp} {st : Store} {E : XK} {Q : Bool → Hp → Prop} {o : Option Bool} (q : Post X.K g relE ρ H E Q (R.of o st)) (R : Rep X.K g.T ρ st H) : ∃ k, o = some k ∧ Q k H := by
  obtain ⟨k, e, q⟩ := Post.of q
  exact ⟨k, e, q k H ρ (Ext.refl _ _) R rfl⟩
theorem t_plain (ha : PE X a ((tE X.K g W) Fa)) (he : ∀ whole, isTrue a X.env whole = (do let v ← whole; standAt a.pos; holding [v] (truthy v))) : PT X a ((tT X.K g W) (tru Fa)) :=
  ptW (pt_truth ha he) fun σ H Q ⟨ρ, env, st, R, En, q⟩ => seqX R En q fun x H1 ρ1 st1 d _ _ R1 En1 rx q => by
    obtain ⟨k, e, q⟩ := of_bind q R1
    exact ⟨k, tru_of R1 rx e, q⟩
theorem t_not (ha : PT X a ((tT X.K g W) (tru Fa))) : PT X (.UnaryOp .Not a pos) ((tT X.K g W) (tru fun env st => (Fa env st).bind fun x st => (Pd.R.of (truth x st) st).bind fun b st => .ok (.bl (!b)) st)) :=
  ptW (pt_not ha) fun σ H Q ⟨ρ, env, st, R, En, q⟩ => by
    have e : (tru (fun env st => (Fa env st).bind fun x st => (Pd.R.of (truth x st) st).bind fun b st => .ok (.bl (!b)) st) env st) = (tru Fa env st).bind fun b st => .ok (!b) st := by
      show ((Fa env st).bind _).bind _ = ((Fa env st).bind _).bind _
      cases Fa env st with
      | ok d st1 =>
        show ((Pd.R.of (truth d st1) st1).bind _).bind _ = (Pd.R.of (truth d st1) st1).bind _
        cases truth d st1 <;> rfl
      | exc _ _ _ => rfl
      | err => rfl
    rw [e] at q
    exact seqX R En q fun k H1 ρ1 st1 k' _ _ R1 En1 rx q => by
      have rx : k = k' := rx
      subst rx
      exact q (!k) H1 ρ1 (Ext.refl _ _) R1 rfl
/-- comparisons -/
theorem c_cmp {op : COp} (hO : OfX g.T X) (hu : X.A.units + 200 < cLine) (ha : PE X a ((tE X.K g W) Fa)) (hb : PE X b ((tE X.K g W) Fb)) (hm : behindInMarks (pyC op) b = false) :
    PE X (.Compare a [pyC op] [b] pos) ((tE X.K g W) fun env st => (Fa env st).bind fun x st => (Fb env st).bind fun y st => (Pd.R.of (cop op x y st) st).bind fun k st => .ok (.bl k) st) :=
  peW (pe_cmpR (op_cop (g := g) hO hu op) ha hb hm) fun σ H Q ⟨ρ, env, st, R, En, q⟩ => seqX R En q fun x H1 ρ1 st1 d _ _ R1 En1 rx q => seqX R1 En1 q fun y H2 ρ2 st2 e _ ex2 R2 _ ry q => by
    cases z : cop op d e st2 with
    | none =>
      rw [z] at q
      exact q.elim
    | some k =>
      rw [z] at q
      exact ⟨ρ2, st2, d, e, k, R2, rx.ext ex2, ry, z, q.here R2 (.bl _)⟩
theorem t_cmp {op : COp} (hO : OfX g.T X) (hu : X.A.units + 200 < cLine) (ha : PE X a ((tE X.K g W) Fa)) (hb : PE X b ((tE X.K g W) Fb)) (hm : behindInMarks (pyC op) b = false) :
    PT X (.Compare a [pyC op] [b] pos) ((tT X.K g W) (tru fun env st => (Fa env st).bind fun x st => (Fb env st).bind fun y st => (Pd.R.of (cop op x y st) st).bind fun k st => .ok (.bl k) st)) :=
  ptW (pt_cmpR (op_cop (g := g) hO hu op) ha hb hm) fun σ H Q ⟨ρ, env, st, R, En, q⟩ => by
    have e : tru (fun env st => (Fa env st).bind fun x st => (Fb env st).bind fun y st => (Pd.R.of (cop op x y st) st).bind fun k st => .ok (.bl k) st) env st = (Fa env st).bind fun x st => (Fb env st).bind fun y st => Pd.R.of (cop op x y st) st := by
      show ((Fa env st).bind _).bind _ = (Fa env st).bind _
      cases Fa env st with
      | ok d st1 =>
        show ((Fb env st1).bind _).bind _ = (Fb env st1).bind _
        cases Fb env st1 with
        | ok y st2 =>
          show ((Pd.R.of (cop op d y st2) st2).bind _).bind _ = Pd.R.of (cop op d y st2) st2
          cases cop op d y st2 <;> rfl
        | exc _ _ _ => rfl
        | err => rfl
      | exc _ _ _ => rfl
      | err => rfl
    rw [e] at q
    exact seqX R En q fun x H1 ρ1 st1 d _ _ R1 En1 rx q => seqX R1 En1 q fun y H2 ρ2 st2 e _ ex2 R2 _ ry q => by
      obtain ⟨k, z, q⟩ := of_bind q R2
      exact ⟨ρ2, st2, d, e, k, R2, rx.ext ex2, ry, z, k, rfl, q⟩
abbrev chainF (o1 o2 : COp) (Fa Fb Fc : Env → Store → R D) : Env → Store → R D := fun env st => (Fa env st).bind fun x st => (Fb env st).bind fun y st => (Pd.R.of (cop o1 x y st) st).bind fun k st =>
  if k = true then (Fc env st).bind fun z st => (Pd.R.of (cop o2 y z st) st).bind fun k st => .ok (.bl k) st else .ok (.bl false) st
theorem chain_go {o1 o2 : COp} {σ : L2.St} {H : Hp} {Q : VK} (h : (tE X.K g W) (chainF o1 o2 Fa Fb Fc) σ H Q) : tChain (rC X.K g (cop o1)) (rC X.K g (cop o2)) ((tE X.K g W) Fa) ((tE X.K g W) Fb) ((tE X.K g W) Fc) σ H Q := by
  obtain ⟨ρ, env, st, R, En, q⟩ := h
  refine seqX R En q fun x H1 ρ1 st1 d _ _ R1 En1 rx q => seqX R1 En1 q fun y H2 ρ2 st2 e _ ex2 R2 En2 ry q => ?_
  cases z : cop o1 d e st2 with
  | none =>
    rw [z] at q
    exact q.elim
  | some k =>
    rw [z] at q
    refine ⟨ρ2, st2, d, e, k, R2, rx.ext ex2, ry, z, k, rfl, ?_⟩
    cases k with
    | false => exact q.here R2 (.bl _)
    | true =>
      refine seqX R2 En2 q fun w H3 ρ3 st3 f _ ex3 R3 En3 rw' q => ?_
      cases z2 : cop o2 e f st3 with
      | none =>
        rw [z2] at q
        exact q.elim
      | some k2 =>
        rw [z2] at q
        exact ⟨ρ3, st3, e, f, k2, R3, ry.ext ex3, rw', z2, q.here R3 (.bl _)⟩
theorem c_chain {o1 o2 : COp} (hO : OfX g.T X) (hu : X.A.units + 200 < cLine) (ha : PE X a ((tE X.K g W) Fa)) (hb : PE X b ((tE X.K g W) Fb)) (hc : PE X c ((tE X.K g W) Fc)) (hm : lastMarks [pyC o1, pyC o2] [b, c] = false) : PE X (.Compare a [pyC o1, pyC o2] [b, c] pos) ((tE X.K g W) (chainF o1 o2 Fa Fb Fc)) :=
  peW (pe_chain (op_cop (g := g) hO hu o1) (op_cop (g := g) hO hu o2) ha hb hc hm) fun σ H Q h => chain_go h
theorem chain_bl {o1 o2 : COp} {env : Env} {st st' : Store} {d : D} (h : chainF o1 o2 Fa Fb Fc env st = .ok d st') : ∃ k, d = .bl k := by
  have h : ((Fa env st).bind fun x st => (Fb env st).bind fun y st => (Pd.R.of (cop o1 x y st) st).bind fun k st =>
    if k = true then (Fc env st).bind fun z st => (Pd.R.of (cop o2 y z st) st).bind fun k st => .ok (.bl k) st else .ok (.bl false) st) = .ok d st' := h
  cases e1 : Fa env st with
  | ok x s1 =>
    rw [e1] at h
    have h : ((Fb env s1).bind fun y st => (Pd.R.of (cop o1 x y st) st).bind fun k st =>
      if k = true then (Fc env st).bind fun z st => (Pd.R.of (cop o2 y z st) st).bind fun k st => .ok (.bl k) st else .ok (.bl false) st) = .ok d st' := h
    cases e2 : Fb env s1 with
    | ok y s2 =>
      rw [e2] at h
      have h : ((Pd.R.of (cop o1 x y s2) s2).bind fun k st => if k = true then (Fc env st).bind fun z st => (Pd.R.of (cop o2 y z st) st).bind fun k st => .ok (.bl k) st else .ok (.bl false) st) = .ok d st' := h
      cases e3 : cop o1 x y s2 with
      | none =>
        rw [e3] at h
        cases h
      | some k =>
        rw [e3] at h
        cases k with
        | false =>
          cases h
          exact ⟨_, rfl⟩
        | true =>
          have h : ((Fc env s2).bind fun z st => (Pd.R.of (cop o2 y z st) st).bind fun k st => .ok (.bl k) st) = .ok d st' := h
          cases e4 : Fc env s2 with
          | ok z s3 =>
            rw [e4] at h
            have h : ((Pd.R.of (cop o2 y z s3) s3).bind fun k st => .ok (.bl k) st) = .ok d st' := h
            cases e5 : cop o2 y z s3 with
            | none =>
              rw [e5] at h
              cases h
            | some k =>
              rw [e5] at h
              cases h
              exact ⟨_, rfl⟩
          | exc _ _ _ =>
            rw [e4] at h
            cases h
          | err =>
            rw [e4] at h
            cases h
    | exc _ _ _ =>
      rw [e2] at h
      cases h
    | err =>
      rw [e2] at h
      cases h
  | exc _ _ _ =>
    rw [e1] at h
    cases h
  | err =>
    rw [e1] at h
    cases h
/-- a value that is True or False, read as a test -/
theorem bl_test {ρ : List Addr} {H : Hp} {E : XK} {Q : Bool → Hp → Prop} {r : R D} (hb : ∀ d st', r = .ok d st' → ∃ k, d = .bl k) (q : Post X.K g relE ρ H E Q (r.bind fun x st => Pd.R.of (truth x st) st)) :
    Post X.K g (relD X.K) ρ H E (fun x H' => ∃ k, x = .bl k ∧ Q k H') r := by
  cases r with
  | ok d st' =>
    obtain ⟨k, rfl⟩ := hb d st' rfl
    intro v H' ρ' e R r
    cases r
    exact ⟨k, rfl, q k H' ρ' e R rfl⟩
  | exc _ _ _ => exact q
  | err => exact q
theorem t_chain {o1 o2 : COp} (hO : OfX g.T X) (hu : X.A.units + 200 < cLine) (ha : PE X a ((tE X.K g W) Fa)) (hb : PE X b ((tE X.K g W) Fb)) (hc : PE X c ((tE X.K g W) Fc)) (hm : lastMarks [pyC o1, pyC o2] [b, c] = false) : PT X (.Compare a [pyC o1, pyC o2] [b, c] pos) ((tT X.K g W) (tru (chainF o1 o2 Fa Fb Fc))) :=
  ptW (pt_chain (op_cop (g := g) hO hu o1) (op_cop (g := g) hO hu o2) ha hb hc hm) fun σ H Q ⟨ρ, env, st, R, En, q⟩ => chain_go ⟨ρ, env, st, R, En, bl_test (fun d st' h => chain_bl h) q⟩
/-- a if t else b -/
theorem c_ite (hc : PT X c ((tT X.K g W) (tru Fc))) (ha : PE X a ((tE X.K g W) Fa)) (hb : PE X b ((tE X.K g W) Fb)) : PE X (.IfExp c a b pos) ((tE X.K g W) fun env st => (Fc env st).bind fun x st => (Pd.R.of (truth x st) st).bind fun k st => if k = true then Fa env st else Fb env st) :=
  peW (pe_ifExp hc ha hb) fun σ H Q ⟨ρ, env, st, R, En, q⟩ => by
    have e : ((Fc env st).bind fun x st => (Pd.R.of (truth x st) st).bind fun k st => if k = true then Fa env st else Fb env st) = (tru Fc env st).bind fun k st => if k = true then Fa env st else Fb env st := by
      show _ = ((Fc env st).bind _).bind _
      cases Fc env st <;> rfl
    dsimp only at q
    rw [e] at q
    refine seqX R En q fun k H1 ρ1 st1 k' _ _ R1 En1 rx q => ?_
    have rx : k = k' := rx
    subst rx
    cases k with
    | true => exact ⟨ρ1, env, st1, R1, En1, q⟩
    | false => exact ⟨ρ1, env, st1, R1, En1, q⟩
theorem pt_ifExp {tc ta tb : TT} (hc : PT X c tc) (ha : PT X a ta) (hb : PT X b tb) : PT X (.IfExp c a b pos) (fun σ H Q => tc σ H fun k H1 => if k = true then ta σ H1 Q else tb σ H1 Q) := by
  refine ⟨fun pins s σ H Q I h => isTrue_IfExp (thn (hc.run pins s σ H _ I h) fun k s1 ⟨H1, I1, q1⟩ => ?_)⟩
  cases k with
  | true => exact ha.run pins s1 σ H1 Q I1 q1
  | false => exact hb.run pins s1 σ H1 Q I1 q1
theorem t_ite (hc : PT X c ((tT X.K g W) (tru Fc))) (ha : PT X a ((tT X.K g W) (tru Fa))) (hb : PT X b ((tT X.K g W) (tru Fb))) : PT X (.IfExp c a b pos) ((tT X.K g W) (tru fun env st => (Fc env st).bind fun x st => (Pd.R.of (truth x st) st).bind fun k st => if k = true then Fa env st else Fb env st)) :=
  ptW (pt_ifExp hc ha hb) fun σ H Q ⟨ρ, env, st, R, En, q⟩ => by
    have e : tru (fun env st => (Fc env st).bind fun x st => (Pd.R.of (truth x st) st).bind fun k st => if k = true then Fa env st else Fb env st) env st = (tru Fc env st).bind fun k st => if k = true then tru Fa env st else tru Fb env st := by
      show ((Fc env st).bind _).bind _ = ((Fc env st).bind _).bind _
      cases Fc env st with
      | ok d s1 =>
        show ((Pd.R.of (truth d s1) s1).bind _).bind _ = (Pd.R.of (truth d s1) s1).bind _
        cases truth d s1 with
        | none => rfl
        | some k => cases k <;> rfl
      | exc _ _ _ => rfl
      | err => rfl
    rw [e] at q
    refine seqX R En q fun k H1 ρ1 st1 k' _ _ R1 En1 rx q => ?_
    have rx : k = k' := rx
    subst rx
    cases k with
    | true => exact ⟨ρ1, env, st1, R1, En1, q⟩
    | false => exact ⟨ρ1, env, st1, R1, En1, q⟩
/-! ### rows -/
variable {es : List Expr} {Fs : Env → Store → R (List D)} {e : Expr}
theorem a_nil : PA X [] ((tA X.K g W) fun _ st => .ok [] st) := paW pa_nil fun σ H Q ⟨ρ, env, st, R, En, q⟩ => q [] H ρ (Ext.refl _ _) R .nil
theorem a_cons (ha : PE X e ((tE X.K g W) Fa)) (hr : PA X es ((tA X.K g W) Fs)) (hs : starEach (e :: es) X.env = (false, eval e X.env) :: starEach es X.env) : PA X (e :: es) ((tA X.K g W) fun env st => (Fa env st).bind fun d st => (Fs env st).bind fun ds st => .ok (d :: ds) st) :=
  paW (pa_cons ha hr hs) fun σ H Q ⟨ρ, env, st, R, En, q⟩ => seqX R En q fun x H1 ρ1 st1 d _ _ R1 En1 rx q => seqX R1 En1 q fun ys H2 ρ2 st2 ds _ ex2 R2 _ ry q => q (x :: ys) H2 ρ2 (Ext.refl _ _) R2 (.cons (rx.ext ex2) ry)
theorem c_tup {x1 : Nat} (ha : PA X es ((tA X.K g W) Fs)) : PE X (.Tuple es x1 pos) ((tE X.K g W) fun env st => (Fs env st).bind fun ds st => if ds.length ≤ LIM then .ok (.tup ds) st else .err) :=
  peW (pe_tup ha) fun σ H Q ⟨ρ, env, st, R, En, q⟩ => seqX R En q fun xs H1 ρ1 st1 ds _ _ R1 _ rx q => by
    obtain ⟨hc, q⟩ := Post.ite q
    exact ⟨by rw [VRs.length rx, ← LIM_eq]; exact hc, fun p hp => q.newT R1 hp rx⟩
theorem c_lst (ha : PA X es ((tA X.K g W) Fs)) : PE X (.List es pos) ((tE X.K g W) fun env st => (Fs env st).bind fun ds st => if ds.length ≤ LIM then alloc (.lst ds) st else .err) :=
  peW (pe_lst ha) fun σ H Q ⟨ρ, env, st, R, En, q⟩ => seqX R En q fun xs H1 ρ1 st1 ds _ _ R1 _ rx q => by
    obtain ⟨hc, q⟩ := Post.ite q
    exact ⟨by rw [VRs.length rx, ← LIM_eq]; exact hc, fun p hp => q.newL R1 hp rx⟩
/-! ### and, or -/
variable {rest : List Expr} {Gs : Env → Store → R D}
abbrev andF (Fa Gs : Env → Store → R D) : Env → Store → R D := fun env st => (Fa env st).bind fun x st => (Pd.R.of (truth x st) st).bind fun k st => if k = true then Gs env st else .ok x st
abbrev orF (Fa Gs : Env → Store → R D) : Env → Store → R D := fun env st => (Fa env st).bind fun x st => (Pd.R.of (truth x st) st).bind fun k st => if k = true then .ok x st else Gs env st
theorem c_and (ha : PE X a ((tE X.K g W) Fa)) (hb : PE X (.BoolOp .And (b :: rest) pos) ((tE X.K g W) Gs)) : PE X (.BoolOp .And (a :: b :: rest) pos) ((tE X.K g W) (andF Fa Gs)) :=
  peW (pe_andT ha hb) fun σ H Q ⟨ρ, env, st, R, En, q⟩ => seqX R En q fun x H1 ρ1 st1 d _ _ R1 En1 rx q => by
    obtain ⟨k, t, q⟩ := tru_go R1 rx q
    refine ⟨k, t, ?_⟩
    cases k with
    | true => exact ⟨ρ1, env, st1, R1, En1, q⟩
    | false => exact q.here R1 rx
theorem c_or (ha : PE X a ((tE X.K g W) Fa)) (hb : PE X (.BoolOp .Or (b :: rest) pos) ((tE X.K g W) Gs)) : PE X (.BoolOp .Or (a :: b :: rest) pos) ((tE X.K g W) (orF Fa Gs)) :=
  peW (pe_orT ha hb) fun σ H Q ⟨ρ, env, st, R, En, q⟩ => seqX R En q fun x H1 ρ1 st1 d _ _ R1 En1 rx q => by
    obtain ⟨k, t, q⟩ := tru_go R1 rx q
    refine ⟨k, t, ?_⟩
    cases k with
    | true => exact q.here R1 rx
    | false => exact ⟨ρ1, env, st1, R1, En1, q⟩
theorem tru_and {env : Env} {st : Store} : tru (andF Fa Gs) env st = (tru Fa env st).bind fun k st => if k = true then tru Gs env st else .ok false st := by
  show ((Fa env st).bind _).bind _ = ((Fa env st).bind _).bind _
  cases Fa env st with
  | ok d s1 =>
    show ((Pd.R.of (truth d s1) s1).bind _).bind _ = (Pd.R.of (truth d s1) s1).bind _
    cases z : truth d s1 with
    | none => rfl
    | some k =>
      cases k with
      | true => rfl
      | false =>
        show Pd.R.of (truth d s1) s1 = _
        rw [z]
        rfl
  | exc _ _ _ => rfl
  | err => rfl
theorem tru_or {env : Env} {st : Store} : tru (orF Fa Gs) env st = (tru Fa env st).bind fun k st => if k = true then .ok true st else tru Gs env st := by
  show ((Fa env st).bind _).bind _ = ((Fa env st).bind _).bind _
  cases Fa env st with
  | ok d s1 =>
    show ((Pd.R.of (truth d s1) s1).bind _).bind _ = (Pd.R.of (truth d s1) s1).bind _
    cases z : truth d s1 with
    | none => rfl
    | some k =>
      cases k with
      | false => rfl
      | true =>
        show Pd.R.of (truth d s1) s1 = _
        rw [z]
        rfl
  | exc _ _ _ => rfl
  | err => rfl
theorem w_and (ha : PT X a ((tT X.K g W) (tru Fa))) (hb : PW X (.BoolOp .And (b :: rest) pos) ((tT X.K g W) (tru Gs))) : PW X (.BoolOp .And (a :: b :: rest) pos) ((tT X.K g W) (tru (andF Fa Gs))) :=
  pwW (pw_and ha hb) fun σ H Q ⟨ρ, env, st, R, En, q⟩ => by
    rw [tru_and] at q
    refine seqX R En q fun k H1 ρ1 st1 k' _ _ R1 En1 rx q => ?_
    have rx : k = k' := rx
    subst rx
    cases k with
    | true => exact ⟨ρ1, env, st1, R1, En1, q⟩
    | false => exact q false H1 ρ1 (Ext.refl _ _) R1 rfl
theorem w_or (ha : PT X a ((tT X.K g W) (tru Fa))) (hb : PW X (.BoolOp .Or (b :: rest) pos) ((tT X.K g W) (tru Gs))) : PW X (.BoolOp .Or (a :: b :: rest) pos) ((tT X.K g W) (tru (orF Fa Gs))) :=
  pwW (pw_or ha hb) fun σ H Q ⟨ρ, env, st, R, En, q⟩ => by
    rw [tru_or] at q
    refine seqX R En q fun k H1 ρ1 st1 k' _ _ R1 En1 rx q => ?_
    have rx : k = k' := rx
    subst rx
    cases k with
    | true => exact q true H1 ρ1 (Ext.refl _ _) R1 rfl
    | false => exact ⟨ρ1, env, st1, R1, En1, q⟩
/-! ### slices -/
variable {lo hi : Option Expr} {Fl Fh : Env → Store → R (Option Int)}
abbrev tO (K : PySem.W.Frag) (g : Sig) (W : WX) (F : Env → Store → R (Option Int)) : TO := tX K g relE W F
theorem o_none : PO X none ((tO X.K g W) fun _ st => .ok none st) := poW po_none fun σ H Q ⟨ρ, env, st, R, En, q⟩ => q none H ρ (Ext.refl _ _) R rfl
theorem o_some (ha : PE X a ((tE X.K g W) Fa)) : PO X (some a) ((tO X.K g W) fun env st => (Fa env st).bind fun x st => match x with
    | .int i => .ok (some i) st
    | _ => .err) :=
  poW (po_some ha) fun σ H Q ⟨ρ, env, st, R, En, q⟩ => seqX R En q fun x H1 ρ1 st1 d _ _ R1 En1 rx q => by
    cases rx with
    | int i => exact ⟨i, rfl, q (some i) H1 ρ1 (Ext.refl _ _) R1 rfl⟩
    | _ => exact (show False from q).elim
theorem c_slice {p2 : Pos} (ha : PE X a ((tE X.K g W) Fa)) (hl : PO X lo ((tO X.K g W) Fl)) (hh : PO X hi ((tO X.K g W) Fh)) : PE X (.Subscript a (.Slice lo hi none p2) pos) ((tE X.K g W) fun env st => (Fa env st).bind fun x st => (Fl env st).bind fun l st => (Fh env st).bind fun h st => slice x l h st) :=
  peW (pe_slice (sl_pd (g := g)) ha hl hh) fun σ H Q ⟨ρ, env, st, R, En, q⟩ => seqX R En q fun x H1 ρ1 st1 d _ _ R1 En1 rx q => seqX R1 En1 q fun l H2 ρ2 st2 l' _ ex2 R2 En2 rl q => seqX R2 En2 q fun h H3 ρ3 st3 h' _ ex3 R3 _ rh q => by
    have rl : l = l' := rl
    have rh : h = h' := rh
    subst rl rh
    exact ⟨ρ3, st3, d, _, R3, (rx.ext ex2).ext ex3, q⟩
/-! ### calls -/
theorem gc_post {ρ ρ1 : List Addr} {H H1 : Hp} {st st1 : Store} {d : D} {v : V} {E : XK} {Q : VK} (R : Rep X.K g.T ρ st H) (e : Ext ρ H ρ1 H1) (R1 : Rep X.K g.T ρ1 st1 H1) (r : VR X.K ρ1 H1 v d) (q : Post X.K g (relD X.K) ρ H E Q (gc st d st1)) : Q v H1 := by
  obtain ⟨d', s', z⟩ := gc_is st d st1
  obtain ⟨ρ2, e2, R2, r2⟩ := gc_ok (H0 := H) (ρ0 := ρ) R e R1 r z
  rw [z] at q
  exact q v H1 ρ2 e2 R2 r2
theorem post_bind_inv {α γ β δ : Type} {rel' : List Addr → Hp → δ → γ → Prop} {rel : List Addr → Hp → β → α → Prop} {ρ : List Addr} {H : Hp} {E : XK} {Q : δ → Hp → Prop} {r : R α} {f : α → Store → R γ} (h : Post X.K g rel' ρ H E Q (r.bind f)) :
    Post X.K g rel ρ H E (fun b H1 => ∃ a st1 ρ1, r = .ok a st1 ∧ Ext ρ H ρ1 H1 ∧ Rep X.K g.T ρ1 st1 H1 ∧ rel ρ1 H1 b a ∧ Post X.K g rel' ρ H E Q (f a st1)) r := by
  cases r with
  | ok a s => exact fun b H1 ρ1 e R r => ⟨a, s, ρ1, rfl, e, R, r, h⟩
  | exc c d s => exact h
  | err => exact h
theorem c_call {k : Nat} {f : Addr} {fd : FuncData} {ps : List Str} {n : Nat} {cl : List D → Store → R D} {x : Str} {p : Pos} (G : FnOk X.prog X.w X.K X.mg X.base (L2.CX X.prog X.w) k f fd ps (spF X.K g n cl)) (hr : Room k X.A) (hg : Gl X x) (hm : X.mg x = some (.ref f))
    (hk : PySem.W.keepIn X.K (.ref f) = true) (hb : Binds X.K fd ps []) (tk : Takes X W) (hn : ∀ env st ds st', Fs env st = .ok ds st' → ds.length = n) (ha : PA X (e :: es) ((tA X.K g W) Fs)) (hdb : (x == ("__debug__" : Str)) = false)
    (he : starEach (e :: es) X.env = (false, eval e X.env) :: starEach es X.env) (hpl : (backTo pos (starEach es X.env)).any (·.1) = false) :
    PE X (.Call (.Name x p) (e :: es) [] pos) ((tE X.K g W) fun env st => (Fs env st).bind fun ds st1 => (cl ds st1).bind fun d st2 => gc st d st2) :=
  peW (pe_callS G hr hg hm hk hb (E := WE W) (fun σ => passAt tk σ) ha hdb he hpl) fun σ H Q ⟨ρ, env, st, R, En, q⟩ => by
    refine ⟨ρ, env, st, R, En, Post.mono (post_bind_inv (rel := relDs X.K) q) ?_⟩
    rintro vs H1 ⟨ds, st1, ρ1, e1, ex1, R1, r1, q1⟩
    have lv : vs.length = n := (VRs.length r1).trans (hn _ _ _ _ e1)
    refine ⟨lv, ρ1, st1, ds, R1, r1, ?_⟩
    cases z : cl ds st1 with
    | ok d st2 =>
      rw [z] at q1
      exact fun v H2 ρ2 ex2 R2 r2 => gc_post R (ex1.trans ex2) R2 r2 q1
    | exc c d st2 =>
      rw [z] at q1
      exact fun cls dx H2 ρ2 ex2 R2 x2 => q1 cls dx H2 ρ2 (ex1.trans ex2) R2 x2
    | err =>
      rw [z] at q1
      exact q1
theorem bfn_go {b : Bif} {σ : L2.St} {H : Hp} {Q : VK} (h : (tE X.K g W) (fun env st => (Fs env st).bind fun ds st1 => (bfn b ds st1).bind fun d st2 => gc st d st2) σ H Q) : tCB (rF X.K g (bfn b)) ((tA X.K g W) Fs) σ H Q := by
  obtain ⟨ρ, env, st, R, En, q⟩ := h
  refine ⟨ρ, env, st, R, En, Post.mono (post_bind_inv (rel := relDs X.K) q) ?_⟩
  rintro vs H1 ⟨ds, st1, ρ1, e1, ex1, R1, r1, q1⟩
  refine ⟨ρ1, st1, ds, (fun cls dx H' => W cls dx σ H'), R1, r1, ?_⟩
  cases z : bfn b ds st1 with
  | ok d st2 =>
    rw [z] at q1
    exact fun v H2 ρ2 ex2 R2 r2 => gc_post R (ex1.trans ex2) R2 r2 q1
  | exc c d st2 =>
    rw [z] at q1
    exact fun cls dx H2 ρ2 ex2 R2 x2 => q1 cls dx H2 ρ2 (ex1.trans ex2) R2 x2
  | err =>
    rw [z] at q1
    exact q1
end
end Pd
end
section
set_option Elab.async false
set_option linter.all false
set_option maxRecDepth 100000
set_option autoImplicit false
/-! Targets, what is walked, comprehensions. -/
namespace Pd
open PySem PySem.Spec PyProof.Rows L2

/-! ### targets -/
def gNames : List Nat → TGs
  | [] => gNil
  | i :: is => gCons (gName i) (gNames is)
def gT (K : PySem.W.Frag) : Tg → TG
  | .one i => gName i
  | .many is => gTup K is.length (gNames is)
def Tg.slots : Tg → List Nat
  | .one i => [i]
  | .many is => is
theorem wipe_set {σ : L2.St} {i : Nat} {x : Option V} : ∀ {vs : List Nat}, i ∈ vs → L2.wipe (σ.set i x) vs = L2.wipe σ vs
  | [], h => by cases h
  | v :: vs, h => by
    unfold L2.wipe
    by_cases hi : i ∈ vs
    · rw [wipe_set hi]
    · have e : i = v := by
        rcases List.mem_cons.mp h with h | h
        · exact h
        · exact absurd h hi
      subst e
      have : ∀ (ws : List Nat), i ∉ ws → L2.wipe (σ.set i x) ws = (L2.wipe σ ws).set i x := by
        intro ws
        induction ws with
        | nil => intro _; rfl
        | cons w ws ih =>
          intro hw
          unfold L2.wipe
          rw [ih fun z => hw (List.mem_cons_of_mem _ z), List.set_comm]
          intro e
          exact hw (e ▸ List.mem_cons_self)
      rw [this vs hi, List.set_set]
theorem wipe_wipe {σ : L2.St} {vs : List Nat} : ∀ {ws : List Nat}, (∀ i ∈ ws, i ∈ vs) → L2.wipe (L2.wipe σ ws) vs = L2.wipe σ vs
  | [], _ => rfl
  | w :: ws, h => by
    have e := wipe_set (σ := L2.wipe σ ws) (x := none) (h w List.mem_cons_self)
    have e2 := wipe_wipe (σ := σ) (vs := vs) fun i hi => h i (List.mem_cons_of_mem _ hi)
    have : L2.wipe σ (w :: ws) = (L2.wipe σ ws).set w none := rfl
    rw [this, e, e2]
section
variable {K : PySem.W.Frag} {T : Tb} {ρ : List Addr} {H : Hp} {σ : L2.St} {env env' : Env} {v : V} {d : D}
theorem gNames_ok {Q : L2.St → Hp → Prop} : ∀ {is : List Nat} {ds : List D} {vs : List V} {σ : L2.St} {env env' : Env}, EnvR K ρ H σ env → VRs K ρ H vs ds → setMany env is ds = some env' →
    (∀ σ', EnvR K ρ H σ' env' → (∀ ws, (∀ i ∈ is, i ∈ ws) → L2.wipe σ' ws = L2.wipe σ ws) → Q σ' H) → gNames is vs σ H Q
  | [], [], _, _, _, _, En, r, h, q => by
    cases h
    cases r
    exact ⟨rfl, q _ En fun _ _ => rfl⟩
  | i :: is, d :: ds, _, σ, env, env', En, r, h, q => by
    cases r with
    | cons r rs =>
      refine ⟨_, _, rfl, ?_⟩
      refine gNames_ok (En.set i r) rs h fun σ' En' w => q σ' En' fun ws hw => ?_
      rw [w ws fun j hj => hw j (List.mem_cons_of_mem _ hj)]
      exact wipe_set (hw i List.mem_cons_self)
  | [], _ :: _, _, _, _, _, _, _, h, _ => by cases h
  | _ :: _, [], _, _, _, _, _, _, h, _ => by cases h
theorem setMany_len : ∀ {is : List Nat} {ds : List D} {env env' : Env}, setMany env is ds = some env' → is.length = ds.length
  | [], [], _, _, _ => rfl
  | _ :: is, _ :: ds, _, _, h => by
    rw [List.length_cons, List.length_cons, setMany_len (is := is) (ds := ds) h]
  | [], _ :: _, _, _, h => by cases h
  | _ :: _, [], _, _, h => by cases h
theorem gT_ok {tg : Tg} {Q : L2.St → Hp → Prop} (En : EnvR K ρ H σ env) (r : VR K ρ H v d) (h : assignTg env tg d = some env') (q : ∀ σ', EnvR K ρ H σ' env' → (∀ ws, (∀ i ∈ tg.slots, i ∈ ws) → L2.wipe σ' ws = L2.wipe σ ws) → Q σ' H) :
    gT K tg v σ H Q := by
  cases tg with
  | one i =>
    cases h
    exact q _ (En.set i r) fun ws hw => wipe_set (hw i (List.mem_singleton.mpr rfl))
  | many is =>
    cases d with
    | tup ds =>
      cases r with
      | tup ht rs =>
        have h' : setMany env is ds = some env' := h
        exact ⟨_, _, rfl, ht, by rw [rs.length]; exact (setMany_len h').symm, gNames_ok En rs h' q⟩
    | _ => cases h
end

/-! ### a thing that is no cell yet -/
/-- it is written while it grows: no tuple, no table -/
structure Loose (Dl : Addr) (u : HO) : Prop where
  mu : Mut (some u)
  code : ∀ q, u ≠ LamX.CodeO Dl q
theorem loose_lst {Dl : Addr} {xs : List V} : Loose Dl (.lst xs) := ⟨trivial, fun q z => by unfold LamX.CodeO at z; cases z⟩
section
variable {K : PySem.W.Frag} {T : Tb} {ρ ρ' : List Addr} {H H' : Hp} {st : Store} {Dl : Addr} {o u : HO}
theorem Loose.ne {a : Addr} {w : HO} (L : Loose Dl u) (h : H Dl = some u) (e : H a = some w) (m : ¬ Mut (some w)) : a ≠ Dl := fun z => by
  rw [z, h] at e
  cases e
  exact m L.mu
mutual
theorem VR.put (L : Loose Dl u) (h : H Dl = some u) : ∀ {v : V} {d : D}, VR K ρ H v d → VR K ρ (upd H Dl o) v d
  | _, _, .non => .non
  | _, _, .bl b => .bl b
  | _, _, .int i => .int i
  | _, _, .str x => .str x
  | _, _, .tup ht hs => .tup (by
      rcases ht with (e | ⟨o', e⟩) | e
      · exact .inl (.inl (by rw [upd_ne (L.ne h e (fun z => z))]; exact e))
      · exact .inl (.inr ⟨o', by rw [upd_ne (L.ne h e (fun z => z))]; exact e⟩)
      · exact .inr e) (VRs.put L h hs)
  | _, _, .frz ht hs => .frz (by
      rcases ht with ⟨o', e⟩ | e
      · exact .inl ⟨o', by rw [upd_ne (L.ne h e (fun z => z))]; exact e⟩
      · exact .inr e) (VRs.put L h hs)
  | _, _, .ref e => .ref e
theorem VRs.put (L : Loose Dl u) (h : H Dl = some u) : ∀ {vs : List V} {ds : List D}, VRs K ρ H vs ds → VRs K ρ (upd H Dl o) vs ds
  | _, _, .nil => .nil
  | _, _, .cons r rs => .cons (VR.put L h r) (VRs.put L h rs)
end
theorem Ext.put (e : Ext ρ H ρ' H') (h : H Dl = none) : Ext ρ H ρ' (upd H' Dl o) := by
  refine ⟨e.pre, fun a ha => ?_, fun a u hu na nt => ?_, fun a xs hx => ?_, fun a w u hu => ?_, fun a x hx => ?_⟩
  · by_cases q : a = Dl
    · rw [q]
      exact h
    · rw [upd_ne q] at ha
      exact e.dom a ha
  · rw [upd_ne (ne_of_none hu h)]
    exact e.keep a u hu na nt
  · rw [upd_ne (ne_of_none hx h)]
    exact e.tup a xs hx
  · rw [upd_ne (ne_of_none hu h)]
    exact e.frz a w u hu
  · rw [upd_ne (ne_of_none hx h)]
    exact e.own a x hx
theorem Ext.notMem (e : Ext ρ H ρ' H') (n : Dl ∉ ρ) (h : H Dl = some o) : Dl ∉ ρ' := fun z => by
  obtain ⟨l, e1, f⟩ := e.pre
  rw [e1] at z
  rcases List.mem_append.mp z with z | z
  · exact n z
  · rw [f _ z] at h
    cases h
theorem Ext.adopt (e : Ext ρ H ρ' H') (h : H Dl = none) (n : Dl ∉ ρ') : Ext ρ H (ρ' ++ [Dl]) H' := by
  obtain ⟨l, e1, f⟩ := e.pre
  refine ⟨⟨l ++ [Dl], by rw [e1, List.append_assoc], fun a ha => ?_⟩, e.dom, e.keep, e.tup, e.frz, e.own⟩
  rcases List.mem_append.mp ha with z | z
  · exact f a z
  · rw [List.mem_singleton.mp z]
    exact h
theorem CellR.put {a : Addr} {c : Cell} (L : Loose Dl u) (h : H Dl = some u) (na : a ≠ Dl) (r : CellR K T ρ H a c) : CellR K T ρ (upd H Dl o) a c := by
  cases c with
  | lst ds =>
    obtain ⟨ys, e, r⟩ := r
    exact ⟨ys, by rw [upd_ne na]; exact e, r.put L h⟩
  | dct kvs =>
    rcases r with ⟨xs, e, r⟩ | ⟨z, xs, e, nd, r⟩
    · exact .inl ⟨xs, by rw [upd_ne na]; exact e, L2.Paired.mapP r fun _ _ q => ⟨q.1.put L h, q.2.put L h⟩⟩
    · refine .inr ⟨z, xs, by rw [upd_ne na]; exact e, nd, L2.Paired.mapP r fun _ _ q => ?_⟩
      obtain ⟨h1, h2, h3, v, h4, h5⟩ := q
      exact ⟨h1, h2, h3.put L h, v, h4, h5.put L h⟩
  | set ds =>
    obtain ⟨Ls, es, e, pm, r⟩ := r
    refine ⟨Ls, es, by rw [upd_ne na]; exact e, pm, L2.Paired.mapP r fun _ _ q => ?_⟩
    obtain ⟨h1, h2, v, h3, h4⟩ := q
    exact ⟨h1, h2, v, h3, h4.put L h⟩
  | ins c fs =>
    obtain ⟨dx, xs, e, hd, r⟩ := r
    exact ⟨dx, xs, by rw [upd_ne na]; exact e, by rw [upd_ne (L.ne h hd fun z => z)]; exact hd, L2.Paired.mapP r fun _ _ q => ⟨q.1, q.2.put L h⟩⟩
theorem Rep.put (R : Rep K T ρ st H) (n : Dl ∉ ρ) (L : Loose Dl u) (h : H Dl = some u) : Rep K T ρ st (upd H Dl o) := by
  refine ⟨R.nd, R.len, fun m a c h1 h2 => ?_, fun p hp => ?_⟩
  · exact (R.cell m a c h1 h2).put L h fun z => n (z ▸ List.mem_of_getElem? h1)
  · obtain ⟨t1, ps, t2, t3, t4⟩ := R.tab p hp
    refine ⟨t1, ps, by rw [upd_ne (L.ne h t2 fun z => z)]; exact t2, t3, fun pos cv hc => ?_⟩
    obtain ⟨c, c1, c2, c3⟩ := t4 pos cv hc
    refine ⟨c, c1, c2, ?_⟩
    rw [upd_ne fun z => ?_]
    · exact c3
    · subst z
      rw [h] at c3
      exact L.code _ (Option.some.inj c3)
theorem Rep.adopt {c : Cell} (R : Rep K T ρ st H) (n : Dl ∉ ρ) (L : Loose Dl u) (h : H Dl = some u) (r : CellR K T (ρ ++ [Dl]) H Dl c) : Rep K T (ρ ++ [Dl]) (st ++ [c]) H := by
  refine ⟨?_, by rw [List.length_append, List.length_append, R.len]; rfl, fun m a c h1 h2 => ?_, fun p hp => ?_⟩
  · rw [List.nodup_append]
    refine ⟨R.nd, by simp, fun x hx y hy e => ?_⟩
    rw [List.mem_singleton] at hy
    rw [hy] at e
    rw [e] at hx
    exact n hx
  · by_cases hn : m < ρ.length
    · rw [List.getElem?_append_left hn] at h1
      rw [List.getElem?_append_left (by rw [← R.len]; exact hn)] at h2
      exact (R.cell m a c h1 h2).grow
    · rw [List.getElem?_append_right (by omega)] at h1
      rw [List.getElem?_append_right (by rw [← R.len]; omega), ← R.len] at h2
      have h0 : m - ρ.length = 0 := by
        have := (List.getElem?_eq_some_iff.mp h1).1
        simp at this
        omega
      rw [h0] at h1 h2
      simp at h1 h2
      subst h1 h2
      exact r
  · obtain ⟨t1, ps, t2, t3, t4⟩ := R.tab p hp
    refine ⟨fun z => ?_, ps, t2, t3, fun pos cv hc => ?_⟩
    · rcases List.mem_append.mp z with z | z
      · exact t1 z
      · exact L.ne h t2 (fun z => z) (List.mem_singleton.mp z)
    · obtain ⟨c, c1, c2, c3⟩ := t4 pos cv hc
      refine ⟨c, c1, fun z => ?_, c3⟩
      rcases List.mem_append.mp z with z | z
      · exact c2 z
      · rw [List.mem_singleton.mp z] at c3
        rw [h] at c3
        exact L.code _ (Option.some.inj c3)
end
/-! ### what is walked -/
structure ExtW (ρ : List Addr) (H : Hp) (ρ' : List Addr) (H' : Hp) : Prop where
  pre : ∃ l, ρ' = ρ ++ l
  tup : ∀ a xs, H a = some (.tup xs) → H' a = some (.tup xs)
  frz : ∀ a o u, H a = some (.frz o u) → H' a = some (.frz o u)
section
variable {K : PySem.W.Frag} {ρ ρ' ρ2 : List Addr} {H H' H2 : Hp} {a : Addr} {xs : List V} {n : Nat}
theorem Ext.w (e : Ext ρ H ρ' H') : ExtW ρ H ρ' H' := ⟨e.pre.elim fun l z => ⟨l, z.1⟩, e.tup, e.frz⟩
theorem ExtW.trans (e : ExtW ρ H ρ' H') (f : ExtW ρ' H' ρ2 H2) : ExtW ρ H ρ2 H2 := by
  obtain ⟨l, h1⟩ := e.pre
  obtain ⟨m, h2⟩ := f.pre
  exact ⟨⟨l ++ m, by rw [h2, h1, List.append_assoc]⟩, fun a xs h => f.tup a xs (e.tup a xs h), fun a o u h => f.frz a o u (e.frz a o u h)⟩
theorem ExtW.put {Dl : Addr} {xs : List V} {o : HO} (h : H Dl = some (.lst xs)) : ExtW ρ H ρ (upd H Dl o) := by
  refine ⟨⟨[], by simp⟩, fun a ys e => ?_, fun a w u e => ?_⟩
  · rw [upd_ne (fun z => by rw [z, h] at e; cases e)]
    exact e
  · rw [upd_ne (fun z => by rw [z, h] at e; cases e)]
    exact e
theorem ExtW.sqT (e : ExtW ρ H ρ' H') (h : SqT K H a xs) : SqT K H' a xs := by
  rcases h with (h | ⟨o, h⟩) | h
  · exact .inl (.inl (e.tup _ _ h))
  · exact .inl (.inr ⟨o, e.frz _ _ _ h⟩)
  · exact .inr h
theorem ExtW.fzL (e : ExtW ρ H ρ' H') (h : FzL K H a xs) : FzL K H' a xs := by
  rcases h with ⟨o, h⟩ | h
  · exact .inl ⟨o, e.frz _ _ _ h⟩
  · exact .inr h
theorem ExtW.ix (e : ExtW ρ H ρ' H') (h : ρ[n]? = some a) : ρ'[n]? = some a := by
  obtain ⟨l, e⟩ := e.pre
  rw [e, List.getElem?_append_left (List.getElem?_eq_some_iff.mp h).1]
  exact h
mutual
theorem VR.extW (e : ExtW ρ H ρ' H') : ∀ {v : V} {d : D}, VR K ρ H v d → VR K ρ' H' v d
  | _, _, .non => .non
  | _, _, .bl b => .bl b
  | _, _, .int i => .int i
  | _, _, .str x => .str x
  | _, _, .tup h hs => .tup (e.sqT h) (VRs.extW e hs)
  | _, _, .frz h hs => .frz (e.fzL h) (VRs.extW e hs)
  | _, _, .ref h => .ref (e.ix h)
theorem VRs.extW (e : ExtW ρ H ρ' H') : ∀ {vs : List V} {ds : List D}, VRs K ρ H vs ds → VRs K ρ' H' vs ds
  | _, _, .nil => .nil
  | _, _, .cons h hs => .cons (VR.extW e h) (VRs.extW e hs)
end
end
def ItOk (K : PySem.W.Frag) (T : Tb) (ρ : List Addr) (H : Hp) (J : L2.It) (w : Items) : Prop :=
  ∀ ρ' st' H', ExtW ρ H ρ' H' → Rep K T ρ' st' H' → srcOk st' w = true →
    (∀ i d, w.ds[i]? = some d → J.go i H' ∧ ∀ x H'', J.yld i H' x H'' → H'' = H' ∧ VR K ρ' H' x d) ∧ J.stop w.ds.length H'
abbrev relIt (K : PySem.W.Frag) (g : Sig) : List Addr → Hp → L2.It → Items → Prop := fun ρ H J w => ItOk K g.T ρ H J w
abbrev tI (K : PySem.W.Frag) (g : Sig) (W : WX) (F : Env → Store → R Items) : TI := tX K g (relIt K g) W F
section
variable {X : Cx} {g : Sig} {W : WX} {a b c tg : Expr} {Fa Fb Fc : Env → Store → R D} {pos p : Pos}
theorem pi_seq (hl : PE X a ((tE X.K g W) Fa)) : PI X tg a ((tI X.K g W) fun env st => (Fa env st).bind fun x st => R.of (itemsOf x st) st) := by
  refine ⟨fun pins s σ H Rr I h => ?_⟩
  obtain ⟨ρ, env, st, R0, En, q⟩ := h
  dsimp only at q
  cases e : Fa env st with
  | err =>
    rw [e] at q
    exact q.elim
  | exc c d s1 =>
    rw [e] at q
    refine (pi_list hl).run pins s σ H Rr I ⟨ρ, env, st, R0, En, ?_⟩
    rw [e]
    exact q
  | ok d s1 =>
    rw [e] at q
    have q : Post X.K g (relIt X.K g) ρ H (fun cls dx H' => W cls dx σ H') Rr (R.of (itemsOf d s1) s1) := q
    obtain ⟨w, hw, q⟩ := Post.of q
    cases d with
    | tup ds =>
      cases hw
      refine (pi_tup hl).run pins s σ H Rr I ⟨ρ, env, st, R0, En, ?_⟩
      rw [e]
      intro v H1 ρ1 e1 R1 r
      cases r with
      | tup ht rs =>
        refine ⟨_, rfl, ⟨_, ht⟩, q _ H1 ρ1 e1 R1 ?_⟩
        intro ρ' st' H' e' R' _
        have h' := e'.sqT ht
        have r' := VRs.extW e' rs
        refine ⟨fun i d hd => ?_, ⟨_, h', Nat.le_of_eq r'.length⟩⟩
        obtain ⟨v, hv, rv⟩ := r'.get hd
        refine ⟨⟨_, v, h', hv⟩, fun x H'' y => ⟨y.1, ?_⟩⟩
        have := y.2 _ h'
        rw [hv] at this
        cases this
        exact rv
    | frz ds =>
      cases hw
      refine (pi_list hl).run pins s σ H Rr I ⟨ρ, env, st, R0, En, ?_⟩
      rw [e]
      intro v H1 ρ1 e1 R1 r
      cases r with
      | frz ht rs =>
        refine ⟨_, rfl, ⟨_, ht.sq⟩, q _ H1 ρ1 e1 R1 ?_⟩
        intro ρ' st' H' e' R' _
        have h' := (e'.fzL ht).sq
        have r' := VRs.extW e' rs
        refine ⟨fun i d hd => ?_, ⟨_, h', Nat.le_of_eq r'.length⟩⟩
        obtain ⟨v, hv, rv⟩ := r'.get hd
        refine ⟨⟨_, v, h', hv⟩, fun x H'' y => ⟨y.1, ?_⟩⟩
        have := y.2 _ h'
        rw [hv] at this
        cases this
        exact rv
    | ref n =>
      have hw : (lstAt s1 n).map (fun ds => (⟨ds, some n⟩ : Items)) = some w := hw
      cases hn : lstAt s1 n with
      | none =>
        rw [hn] at hw
        cases hw
      | some ds =>
        rw [hn] at hw
        cases hw
        refine (pi_list hl).run pins s σ H Rr I ⟨ρ, env, st, R0, En, ?_⟩
        rw [e]
        intro v H1 ρ1 e1 R1 r
        cases r with
        | ref hr =>
          obtain ⟨xs, hx, rs⟩ := R1.lst hr hn
          refine ⟨_, rfl, ⟨_, .inl (.inl hx)⟩, q _ H1 ρ1 e1 R1 ?_⟩
          intro ρ' st' H' e' R' so
          have so : (match st'[n]? with
            | some (.lst ds') => sames ds' ds
            | _ => false) = true := so
          have hr' := e'.ix hr
          cases hc : st'[n]? with
          | none =>
            rw [hc] at so
            cases so
          | some cc =>
            rw [hc] at so
            cases cc with
            | lst ds' =>
              have es := sames_eq _ _ so
              subst es
              obtain ⟨xs', hx', rs'⟩ := R'.cell n _ _ hr' hc
              have h' : SqL X.K H' _ xs' := .inl (.inl hx')
              refine ⟨fun i d hd => ?_, ⟨_, h', Nat.le_of_eq rs'.length⟩⟩
              obtain ⟨v, hv, rv⟩ := rs'.get hd
              refine ⟨⟨_, v, h', hv⟩, fun x H'' y => ⟨y.1, ?_⟩⟩
              have := y.2 _ h'
              rw [hv] at this
              cases this
              exact rv
            | _ => cases so
    | str x =>
      cases hw
      refine (pi_str hl).run pins s σ H Rr I ⟨ρ, env, st, R0, En, ?_⟩
      rw [e]
      intro v H1 ρ1 e1 R1 r
      cases r with
      | str _ =>
        refine ⟨x, rfl, q _ H1 ρ1 e1 R1 ?_⟩
        intro ρ' st' H' e' R' _
        refine ⟨fun i d hd => ?_, ?_⟩
        · have hd : (x.cps.toList.map fun c => D.str ⟨#[c]⟩)[i]? = some d := hd
          rw [List.getElem?_map, Array.getElem?_toList] at hd
          cases hx : x.cps[i]? with
          | none =>
            rw [hx] at hd
            cases hd
          | some c =>
            rw [hx] at hd
            cases hd
            refine ⟨(Array.getElem?_eq_some_iff.mp hx).1, fun y H'' yy => ?_⟩
            obtain ⟨e1, c', e2, e3⟩ := yy
            rw [hx] at e2
            cases e2
            subst e3
            exact ⟨e1, .str _⟩
        · show x.cps.size ≤ (x.cps.toList.map _).length
          rw [List.length_map, Array.length_toList]
          exact Nat.le_refl _
    | _ => cases hw
theorem rng_ok {ρ : List Addr} {H : Hp} {lo hi : Int} {w : Items} (h : rngItems lo hi = some w) : (-(2 ^ 62) ≤ lo ∧ lo < 2 ^ 62 ∧ -(2 ^ 62) ≤ hi ∧ hi < 2 ^ 62) ∧ ItOk X.K g.T ρ H (Itr lo (hi - lo).toNat) w := by
  unfold rngItems at h
  split at h
  · rename_i hb
    cases h
    refine ⟨hb, fun ρ' st' H' e' R' _ => ⟨fun i d hd => ?_, ?_⟩⟩
    · have hd : ((List.range (hi - lo).toNat).map fun k => D.int (lo + (k : Nat)))[i]? = some d := hd
      rw [List.getElem?_map] at hd
      by_cases hlt : i < (hi - lo).toNat
      · rw [List.getElem?_range hlt] at hd
        cases hd
        exact ⟨hlt, fun x H'' y => by
          obtain ⟨e1, e2⟩ := y
          subst e2
          exact ⟨e1, .int _⟩⟩
      · rw [List.getElem?_eq_none (by rw [List.length_range]; omega)] at hd
        cases hd
    · show (hi - lo).toNat ≤ _
      rw [List.length_map, List.length_range]
      exact Nat.le_refl _
  · cases h
theorem pi_rng1 (hg : Gl X "range") (hm : X.mg "range" = none) (ha : PE X a ((tE X.K g W) Fa)) (hs : starEach [a] X.env = [(false, eval a X.env)]) : PI X tg (.Call (.Name "range" p) [a] [] pos) ((tI X.K g W) fun env st => (Fa env st).bind fun x st => match x with
    | .int j => R.of (rngItems 0 j) st
    | _ => .err) :=
  piW (pi_range1 hg hm (a_cons ha a_nil hs) hs) fun σ H Q ⟨ρ, env, st, R, En, q⟩ => by
    refine ⟨ρ, env, st, R, En, ?_⟩
    dsimp only at q ⊢
    cases e : Fa env st with
    | err =>
      rw [e] at q
      exact q.elim
    | exc c d s1 =>
      rw [e] at q
      exact q
    | ok d s1 =>
      rw [e] at q
      cases d with
      | int j =>
        have q : Post X.K g (relIt X.K g) ρ H (fun cls dx H' => W cls dx σ H') Q (Pd.R.of (rngItems 0 j) s1) := q
        obtain ⟨w, hw, q⟩ := Post.of q
        intro vs H1 ρ1 e1 R1 r
        cases r with
        | cons r rr =>
          cases rr
          cases r
          obtain ⟨hb, io⟩ := rng_ok (X := X) (g := g) (ρ := ρ1) (H := H1) hw
          refine ⟨j, rfl, hb.2.2.1, hb.2.2.2, q _ H1 ρ1 e1 R1 ?_⟩
          rw [show j.toNat = (j - 0).toNat by simp]
          exact io
      | _ => exact (show False from q).elim
theorem pi_rng2 (hg : Gl X "range") (hm : X.mg "range" = none) (ha : PE X a ((tE X.K g W) Fa)) (hb : PE X b ((tE X.K g W) Fb)) (hs : starEach [a, b] X.env = [(false, eval a X.env), (false, eval b X.env)]) (hs2 : starEach [b] X.env = [(false, eval b X.env)]) :
    PI X tg (.Call (.Name "range" p) [a, b] [] pos) ((tI X.K g W) fun env st => (Fa env st).bind fun x st => (Fb env st).bind fun y st => match x, y with
    | .int i, .int j => R.of (rngItems i j) st
    | _, _ => .err) :=
  piW (pi_range2 hg hm (a_cons ha (a_cons hb a_nil hs2) (by rw [hs, hs2])) hs hs2) fun σ H Q ⟨ρ, env, st, R, En, q⟩ => by
    refine ⟨ρ, env, st, R, En, ?_⟩
    dsimp only at q ⊢
    cases e : Fa env st with
    | err =>
      rw [e] at q
      exact q.elim
    | exc c d s1 =>
      rw [e] at q
      exact q
    | ok d s1 =>
      rw [e] at q
      simp only [Pd.R.bind_ok] at q ⊢
      cases e' : Fb env s1 with
      | err =>
        rw [e'] at q
        exact q.elim
      | exc c d s1 =>
        rw [e'] at q
        exact q
      | ok d' s2 =>
        rw [e'] at q
        cases d with
        | int i =>
          cases d' with
          | int j =>
            have q : Post X.K g (relIt X.K g) ρ H (fun cls dx H' => W cls dx σ H') Q (Pd.R.of (rngItems i j) s2) := q
            obtain ⟨w, hw, q⟩ := Post.of q
            intro vs H1 ρ1 e1 R1 r
            cases r with
            | cons r rr =>
              cases rr with
              | cons r' rr =>
                cases rr
                cases r
                cases r'
                obtain ⟨hb, io⟩ := rng_ok (X := X) (g := g) (ρ := ρ1) (H := H1) hw
                exact ⟨i, j, rfl, hb, q _ H1 ρ1 e1 R1 io⟩
          | _ => exact (show False from q).elim
        | _ => exact (show False from q).elim

/-! ### comprehensions -/
variable {elt iter : Expr} {ifs : List Expr} {Fi : Env → Store → R Items} {Fe : Env → Store → R D} {Fw : Env → Store → R Bool}
theorem post_still {α γ δ : Type} {rel' : List Addr → Hp → δ → γ → Prop} {ρ : List Addr} {H : Hp} {E : XK} {Q : δ → Hp → Prop} {r : R α} {f : α → Store → R γ} (q : Post X.K g rel' ρ H E Q (r.still.bind f)) : ∃ a st1, r = .ok a st1 ∧ Post X.K g rel' ρ H E Q (f a st1) := by
  cases r with
  | ok a s => exact ⟨a, s, rfl, q⟩
  | exc _ _ _ => exact q.elim
  | err => exact q.elim
abbrev noW : WX := fun _ _ _ _ => False
/-- the loop of a comprehension: what stands at its start of a turn -/
def CompW (K : PySem.W.Frag) (g : Sig) (ρ1 : List Addr) (H1 : Hp) (E : XK) (Q : VK) (ds : List D) (go : List D → List D → Store → R D) (Dl : Addr) : Nat → Nat → Hp → Prop := fun i m H' =>
  ∃ ρ' st' acc accV, m = ds.length - i ∧ i ≤ ds.length ∧ Ext ρ1 H1 ρ' H' ∧ Rep K g.T ρ' st' H' ∧ Dl ∉ ρ' ∧ H' Dl = some (.lst accV) ∧ VRs K ρ' H' accV acc ∧ Post K g (relD K) ρ1 H1 E Q (go (ds.drop i) acc st')
theorem drop_some {α : Type} {l : List α} {i : Nat} {d : α} (h : l[i]? = some d) : l.drop i = d :: l.drop (i + 1) := by
  obtain ⟨h1, e⟩ := List.getElem?_eq_some_iff.mp h
  rw [List.drop_eq_getElem_cons h1, e]
theorem lc_go {tgt : Tg} {vs : List Nat} (hv : ∀ i ∈ tgt.slots, i ∈ vs) {σ : L2.St} {H : Hp} {Q : VK}
    (h : (tE X.K g W) (fun env st => (Fi env st).bind fun w st => compLoop (wipeE env vs) tgt w (fun env st => (Fw env st).still) (fun env st => (Fe env st).still) w.ds [] st) σ H Q) :
    tLc ((tI X.K g W) Fi) (gT X.K tgt) (tT X.K g noW Fw) (tE X.K g noW Fe) vs σ H Q := by
  obtain ⟨ρ, env, st, R0, En, q⟩ := h
  refine seqX R0 En q fun J H1 ρ1 st1 w _ ex1 R1 En1 hJ q => fun Dl hD => ?_
  refine ⟨CompW X.K g ρ1 H1 (fun cls dx H' => W cls dx σ H') Q w.ds (compLoop (wipeE env vs) tgt w (fun env st => (Fw env st).still) (fun env st => (Fe env st).still)) Dl, ⟨w.ds.length, ρ1, st1, [], [], by simp, Nat.zero_le _, Ext.new hD, R1.new hD, R1.no hD, upd_same, .nil, q⟩, ?_⟩
  rintro i m H' ⟨ρ', st', acc, accV, rfl, hi, e', R', nD, hDl, rA, q⟩
  cases hd : w.ds[i]? with
  | none =>
    have hl : w.ds.length ≤ i := List.getElem?_eq_none_iff.mp hd
    have ei : i = w.ds.length := Nat.le_antisymm hi hl
    subst ei
    rw [List.drop_length] at q
    unfold compLoop at q
    obtain ⟨so, q⟩ := Post.ite q
    refine .inl ⟨(hJ ρ' st' H' e'.w R' so).2, ?_⟩
    exact q _ H' (ρ' ++ [Dl]) (e'.adopt hD nD) (R'.adopt nD loose_lst hDl ⟨_, hDl, rA.grow⟩) (.ref (by rw [← R'.len, List.getElem?_append_right (Nat.le_refl _), Nat.sub_self]; rfl))
  | some d =>
    have hlt : i < w.ds.length := (List.getElem?_eq_some_iff.mp hd).1
    rw [drop_some hd] at q
    unfold compLoop at q
    obtain ⟨so, q⟩ := Post.ite q
    obtain ⟨go, yl⟩ := (hJ ρ' st' H' e'.w R' so).1 i d hd
    cases hb : assignTg (wipeE env vs) tgt d with
    | none =>
      rw [hb] at q
      exact q.elim
    | some env' =>
      rw [hb] at q
      dsimp only at q
      obtain ⟨b, st2, e2, q⟩ := post_still q
      refine .inr ⟨go, CompW X.K g ρ1 H1 (fun cls dx H' => W cls dx σ H') Q w.ds (compLoop (wipeE env vs) tgt w (fun env st => (Fw env st).still) (fun env st => (Fe env st).still)) Dl (i + 1) (w.ds.length - (i + 1)), fun H' z => ⟨_, by omega, z⟩, fun x H'' y => ?_⟩
      obtain ⟨e3, rx⟩ := yl x H'' y
      subst e3
      refine gT_ok (En1.ext e' |>.wipe vs) rx hb fun σ2 En2 hw => ⟨?_, ?_⟩
      · rw [hw vs hv, wipe_wipe fun _ h => h]
      · refine ⟨ρ', env', st', R', En2, ?_⟩
        rw [e2]
        intro k H3 ρ3 e3 R3 rk
        have rk : k = b := rk
        subst rk
        have hD3 : H3 Dl = some (.lst accV) := e3.keep _ _ hDl nD fun ps z => by cases z
        have nD3 : Dl ∉ ρ3 := e3.notMem nD hDl
        cases k with
        | false =>
          rw [if_neg Bool.false_ne_true] at q
          rw [if_neg Bool.false_ne_true]
          exact ⟨ρ3, st2, acc, accV, rfl, hlt, e'.trans e3, R3, nD3, hD3, rA.ext e3, q⟩
        | true =>
          rw [if_pos rfl] at q
          rw [if_pos rfl]
          obtain ⟨y, st4, e5, q⟩ := post_still q
          refine ⟨ρ3, env', st2, R3, En2.ext e3, ?_⟩
          rw [e5]
          intro yv H4 ρ4 e4 R4 ry
          obtain ⟨hacc, q⟩ := Post.ite q
          have hD4 : H4 Dl = some (.lst accV) := e4.keep _ _ hD3 nD3 fun ps z => by cases z
          have nD4 : Dl ∉ ρ4 := e4.notMem nD3 hD3
          have rA4 := (rA.ext e3).ext e4
          refine ⟨accV, hD4, by rw [rA4.length, ← LIM_eq]; exact hacc, ρ4, st4, acc ++ [y], accV ++ [yv], rfl, hlt, (e'.trans (e3.trans e4)).put hD, R4.put nD4 loose_lst hD4, nD4, upd_same, (rA4.put loose_lst hD4).append (.cons (VR.put loose_lst hD4 ry) .nil), q⟩
theorem c_lc {scope : Scope} {own : List (Str × Nat)} {tgt : Tg} (hc : X.calm = true) (hN : X.N.Nodup) (hi : PI X tg iter ((tI X.K g W) Fi)) (ok : BlkOk X.N X.env.scope scope own) (hv : ∀ i ∈ tgt.slots, i ∈ own.map (·.2))
    (hg : ∀ (s : Shared) (H : Hp) (C : Addr) (cl : List (Str × Addr)) (fp : List Addr), PG (X.blk s H scope (compEnvC scope cl C X.env) fp) tg (gT X.K tgt)) (ht : ∀ (s : Shared) (H : Hp) (C : Addr) (cl : List (Str × Addr)) (fp : List Addr), PTs (X.blk s H scope (compEnvC scope cl C X.env) fp) ifs (tT X.K g noW Fw))
    (he : ∀ (s : Shared) (H : Hp) (C : Addr) (cl : List (Str × Addr)) (fp : List Addr), PE (X.blk s H scope (compEnvC scope cl C X.env) fp) elt (tE X.K g noW Fe)) (hs : ∀ x, foldedSetIterable iter X.env x = pure x) :
    PE X (.ListComp elt [⟨tg, iter, ifs, 0⟩] scope pos) ((tE X.K g W) fun env st => (Fi env st).bind fun w st => compLoop (wipeE env (own.map (·.2))) tgt w (fun env st => (Fw env st).still) (fun env st => (Fe env st).still) w.ds [] st) :=
  peW (pe_lc hc hN hi ok hg ht he hs) fun σ H Q h => lc_go hv h
theorem ts_nil : PTs X [] (tT X.K g W fun _ st => .ok true st) := ptsW pts_nil fun σ H Q ⟨ρ, env, st, R, En, q⟩ => q true H ρ (Ext.refl _ _) R rfl
theorem ts_one {Fc : Env → Store → R D} (h : PT X c ((tT X.K g W) (tru Fc))) : PTs X [c] ((tT X.K g W) (tru Fc)) := pts_one h
end
end Pd
end
section
set_option Elab.async false
set_option linter.all false
set_option maxRecDepth 100000
set_option autoImplicit false
/-! Dicts made, instances, list(range). -/
namespace Pd
open PySem PySem.Spec PyProof.Rows L2
section
variable {K : PySem.W.Frag} {ρ : List Addr} {H : Hp}
theorem lookF_of {f : Str} {d : D} : ∀ {xs : List (Str × V)} {fs : List (Str × D)}, Paired (FldR K ρ H) xs fs → lookF f fs = some d → ∃ v, xs.lookup f = some v ∧ VR K ρ H v d
  | _, _, .nil, h => by cases h
  | x :: xs, q :: fs, .cons r rs, h => by
    obtain ⟨e, rv⟩ := r
    obtain ⟨x1, x2⟩ := x
    obtain ⟨q1, q2⟩ := q
    dsimp only at e rv
    subst e
    have h' : (if x1 = f then some q2 else lookF f fs) = some d := h
    by_cases z : x1 = f
    · rw [if_pos z] at h'
      cases h'
      refine ⟨x2, ?_, rv⟩
      rw [List.lookup_cons, z]
      simp
    · rw [if_neg z] at h'
      obtain ⟨v, h1, h2⟩ := lookF_of rs h'
      refine ⟨v, ?_, h2⟩
      rw [List.lookup_cons, beq_eq_false_iff_ne.mpr (fun y => z y.symm)]
      exact h1
theorem lookF_none {f : Str} : ∀ {xs : List (Str × V)} {fs : List (Str × D)}, Paired (FldR K ρ H) xs fs → lookF f fs = none → xs.lookup f = none
  | _, _, .nil, _ => rfl
  | x :: xs, q :: fs, .cons r rs, h => by
    obtain ⟨e, rv⟩ := r
    obtain ⟨x1, x2⟩ := x
    obtain ⟨q1, q2⟩ := q
    dsimp only at e rv
    subst e
    have h' : (if x1 = f then some q2 else lookF f fs) = none := h
    by_cases z : x1 = f
    · rw [if_pos z] at h'
      cases h'
    · rw [if_neg z] at h'
      rw [List.lookup_cons, beq_eq_false_iff_ne.mpr (fun y => z y.symm)]
      exact lookF_none rs h'
theorem putF_of {f : Str} {v : V} {d : D} (rv : VR K ρ H v d) : ∀ {xs : List (Str × V)} {fs : List (Str × D)}, Paired (FldR K ρ H) xs fs → Paired (FldR K ρ H) (putF f v xs) (putFD f d fs)
  | _, _, .nil => .cons ⟨rfl, rv⟩ .nil
  | x :: xs, q :: fs, .cons r rs => by
    obtain ⟨e, r2⟩ := r
    obtain ⟨x1, x2⟩ := x
    obtain ⟨q1, q2⟩ := q
    dsimp only at e r2
    subst e
    show Paired (FldR K ρ H) (if x1 = f then (x1, v) :: xs else (x1, x2) :: putF f v xs) (if x1 = f then (x1, d) :: fs else (x1, q2) :: putFD f d fs)
    by_cases z : x1 = f
    · rw [if_pos z, if_pos z]
      exact .cons ⟨rfl, rv⟩ rs
    · rw [if_neg z, if_neg z]
      exact .cons ⟨rfl, r2⟩ (putF_of rv rs)
end
section
variable {X : Cx} {g : Sig} {W : WX} {a o e v : Expr} {Fa Fb Fe : Env → Store → R D} {Fs : Env → Store → R (List D)} {es : List Expr} {pos p p1 p2 q1 : Pos}
theorem c_dnew : PE X (.Dict [] [] pos) ((tE X.K g W) fun _ st => alloc (.dct []) st) := peW pe_dnewK fun σ H Q ⟨ρ, env, st, R, En, q⟩ pp hp =>
  q _ _ (ρ ++ [pp]) (Ext.alloc hp) (R.alloc hp (.inl ⟨[], upd_same, .nil⟩)) (.ref (by rw [← R.len, List.getElem?_append_right (Nat.le_refl _), Nat.sub_self]; rfl))
/-- what an instance is -/
theorem ins_of {ρ : List Addr} {H : Hp} {st : Store} {x : V} {d : D} {c : Nat} {fs : List (Str × D)} (R : Rep X.K g.T ρ st H) (hx : VR X.K ρ H x d) (h : insOf c d st = some fs) :
    ∃ n ad dx xs, d = .ref n ∧ x = .ref ad ∧ ρ[n]? = some ad ∧ st[n]? = some (.ins c fs) ∧ H ad = some (.ins (g.T.cls c) dx xs) ∧ H dx = some (.own ad) ∧ Paired (FldR X.K ρ H) xs fs := by
  unfold insOf at h
  cases hx with
  | ref ha =>
    obtain ⟨cc, hc, rc⟩ := R.at ha
    simp only [hc] at h
    cases cc with
    | ins c' fs' =>
      dsimp only at h
      split at h
      · rename_i z
        cases h
        subst z
        obtain ⟨dx, xs, h1, h2, h3⟩ := rc
        exact ⟨_, _, dx, xs, rfl, rfl, ha, hc, h1, h2, h3⟩
      · cases h
    | _ => cases h
  | _ => cases h
theorem c_fld {c : Nat} {f : Str} (hC : Cls X.K (g.T.cls c)) (hN : NoAttr X.K (g.T.cls c) f) (ha : PE X a ((tE X.K g W) Fa)) (hb : attributeBase a f X.env (eval a X.env) = eval a X.env) :
    PE X (.Attribute a f pos) ((tE X.K g W) fun env st => (Fa env st).bind fun x st => Pd.R.of ((insOf c x st).bind fun fs => lookF f fs) st) :=
  peW (pe_fld ha hb) fun σ H Q ⟨ρ, env, st, R, En, q⟩ => seqX R En q fun x H1 ρ1 st1 d _ _ R1 _ rx q => by
    cases e : (insOf c d st1).bind fun fs => lookF f fs with
    | none =>
      rw [e] at q
      exact q.elim
    | some y =>
      rw [e] at q
      obtain ⟨fs, e1, e2⟩ := Option.bind_eq_some_iff.mp e
      obtain ⟨n, ad, dx, xs, rfl, rfl, h1, h2, h3, h4, h5⟩ := ins_of R1 rx e1
      obtain ⟨v, h6, h7⟩ := lookF_of h5 e2
      exact ⟨ad, _, dx, xs, v, rfl, h3, hC, hN, h6, q.here R1 h7⟩
theorem passE0 : Passes (L2.CX X.prog X.w) X (fun _ _ _ => False) := fun _ _ _ _ _ _ _ h => by
  obtain ⟨_, _, _, _, _, _, _, _, _, _, _, _, z⟩ := h
  exact z.elim
theorem c_meth {k c n : Nat} {m : Str} {f : Addr} {fd : FuncData} {ps : List Str} {cl : List D → Store → R D} {pl : Sem Bool} (hC : Cls X.K (g.T.cls c)) (hm : Meth X.K (g.T.cls c) m f) (G : FnOk X.prog X.w X.K X.mg X.base (L2.CX X.prog X.w) k f fd ps (spF X.K g (n + 1) cl)) (hr : Room k X.A)
    (hb : Binds X.K fd ps []) (hn : ∀ env st ds st', Fs env st = .ok ds st' → ds.length = n) (ha : PE X o ((tE X.K g W) Fa)) (hes : PA X (e :: es) (tA X.K g W Fs)) (hst : starEach (e :: es) X.env = (false, eval e X.env) :: starEach es X.env) (hpl : (backTo pos (starEach es X.env)).any (·.1) = false)
    (ht : eval (.Call (.Attribute o m p1) (e :: es) [] pos) X.env = (do
      let ov ← eval o X.env
      standAt p1.atName
      let (f, first) ← holding [ov] (getMethod ov m pl)
      callWith pos f first (backTo pos (starEach (e :: es) X.env)) (backToKw pos (keywordEach [] X.env)))) :
    PE X (.Call (.Attribute o m p1) (e :: es) [] pos) ((tE X.K g W) fun env st => (Fa env st).bind fun x st1 => (Pd.R.of (insOf c x st1) st1).bind fun fs st1 => if noneF m fs then (Fs env st1).bind fun ds st2 => (cl (x :: ds) st2).still.bind fun d st3 => gc st d st3 else .err) :=
  peW (pe_meth ha hC hm G hr hb .nil passE0 hes hst hpl ht) fun σ H Q ⟨ρ, env, st, R, En, q⟩ => by
    refine ⟨ρ, env, st, R, En, Post.mono (post_bind_inv (rel := relD X.K) q) ?_⟩
    rintro x H1 ⟨d, st1, ρ1, e1, ex1, R1, rx, q2⟩
    obtain ⟨fs, hi, q3⟩ : ∃ fs, insOf c d st1 = some fs ∧ Post X.K g (relD X.K) ρ H (fun cls dx H' => W cls dx σ H') Q (if noneF m fs then (Fs env st1).bind fun ds st2 => (cl (d :: ds) st2).still.bind fun d st3 => gc st d st3 else .err) := by
      cases z : insOf c d st1 with
      | none =>
        rw [z] at q2
        exact q2.elim
      | some fs =>
        rw [z] at q2
        exact ⟨fs, rfl, q2⟩
    obtain ⟨hnf, q4⟩ := Post.ite q3
    obtain ⟨nn, ad, dx, xs, rfl, rfl, h1, h2, h3, h4, h5⟩ := ins_of R1 rx hi
    have hnf : lookF m fs = none := by
      unfold noneF at hnf
      cases z : lookF m fs with
      | none => rfl
      | some _ =>
        rw [z] at hnf
        cases hnf
    refine ⟨ad, dx, xs, rfl, h3, lookF_none h5 hnf, ?_⟩
    have En1 := En.ext ex1
    refine ⟨ρ1, env, st1, R1, En1, ?_⟩
    cases er : Fs env st1 with
    | err =>
      rw [er] at q4
      exact q4.elim
    | exc c d s =>
      rw [er] at q4
      exact fun cls dx H' ρ' e' R' x => q4 cls dx H' ρ' (ex1.trans e') R' x
    | ok ds st2 =>
      rw [er] at q4
      intro vs H2 ρ2 ex2 R2 rs
      have lv : vs.length = n := rs.length.trans (hn _ _ _ _ er)
      obtain ⟨y, st3, e3, q5⟩ := post_still (show Post X.K g (relD X.K) ρ H (fun cls dx H' => W cls dx σ H') Q ((cl (.ref nn :: ds) st2).still.bind fun d st3 => gc st d st3) from q4)
      refine ⟨by rw [List.length_cons, List.append_nil, lv], ρ2, st2, .ref nn :: ds, R2, by rw [List.append_nil]; exact .cons (rx.ext ex2) rs, ?_⟩
      rw [e3]
      exact fun w H3 ρ3 ex3 R3 r3 => gc_post R ((ex1.trans ex2).trans ex3) R3 r3 q5
theorem c_mk {k c n : Nat} {x : Str} {f : Addr} {fd : FuncData} {ps : List Str} {cl : List D → Store → R D} (M : Mk X.K (g.T.cls c) f) (G : FnOk X.prog X.w X.K X.mg X.base (L2.CX X.prog X.w) k f fd ps (spF X.K g (n + 1) cl)) (hr : Room (k + 1) X.A) (hg : Gl X x) (hm : X.mg x = some (.ref (g.T.cls c)))
    (hb : Binds X.K fd ps []) (hn : ∀ env st ds st', Fs env st = .ok ds st' → ds.length = n) (hes : PA X (e :: es) (tA X.K g W Fs)) (hdb : (x == ("__debug__" : Str)) = false) (hst : starEach (e :: es) X.env = (false, eval e X.env) :: starEach es X.env) (hpl : (backTo pos (starEach es X.env)).any (·.1) = false) :
    PE X (.Call (.Name x p) (e :: es) [] pos) ((tE X.K g W) fun env st => (Fs env st).bind fun ds st1 => (cl (.ref st1.length :: ds) (st1 ++ [.ins c []])).still.bind fun r st2 => match r with
      | .non => gc st (.ref st1.length) st2
      | _ => .err) :=
  peW (pe_make M G hr hg hm hb .nil passE0 hes hdb hst hpl) fun σ H Q ⟨ρ, env, st, R, En, q⟩ => by
    refine ⟨ρ, env, st, R, En, Post.mono (post_bind_inv (rel := relDs X.K) q) ?_⟩
    rintro vs H1 ⟨ds, st1, ρ1, e1, ex1, R1, rs, q2⟩ y dx hy hdx hne
    obtain ⟨r, st2, e3, q5⟩ := post_still q2
    have lv : vs.length = n := rs.length.trans (hn _ _ _ _ e1)
    have a1 : Ext ρ1 H1 ρ1 (upd H1 dx (.own y)) := Ext.new hdx
    have hy1 : upd H1 dx (.own y) y = none := by rw [upd_ne (Ne.symm hne)]; exact hy
    have R2 : Rep X.K g.T ρ1 st1 (upd H1 dx (.own y)) := R1.new hdx
    have a2 := Ext.alloc (ρ := ρ1) (o := .ins (g.T.cls c) dx []) hy1
    have R3 : Rep X.K g.T (ρ1 ++ [y]) (st1 ++ [.ins c []]) (upd (upd H1 dx (.own y)) y (.ins (g.T.cls c) dx [])) := R2.alloc hy1 ⟨dx, [], upd_same, by rw [upd_ne hne, upd_same], .nil⟩
    have a3 := a1.trans a2
    have hix : (ρ1 ++ [y])[st1.length]? = some y := by rw [← R1.len, List.getElem?_append_right (Nat.le_refl _), Nat.sub_self]; rfl
    refine ⟨by rw [List.length_cons, List.append_nil, lv], ρ1 ++ [y], st1 ++ [.ins c []], .ref st1.length :: ds, R3, by rw [List.append_nil]; exact .cons (.ref hix) (rs.ext a3), ?_⟩
    rw [e3]
    intro w H3 ρ3 ex3 R4 rw'
    cases r with
    | non =>
      cases rw'
      exact ⟨rfl, gc_post R ((ex1.trans a3).trans ex3) R4 (.ref (ex3.ix hix)) q5⟩
    | _ => exact q5.elim
/-! ### list(range(..)) -/
theorem rg_rel {K : PySem.W.Frag} {ρ : List Addr} {H : Hp} {lo hi : Int} : VRs K ρ H (rgV lo hi) ((List.range (hi - lo).toNat).map fun k => D.int (lo + (k : Nat))) := by
  unfold rgV
  generalize List.range (hi - lo).toNat = l
  induction l with
  | nil => exact .nil
  | cons k l ih => exact .cons (.int _) ih
theorem c_lrng1 {Fn : Env → Store → R D} {b : Expr} (hc : X.calm = true) (hg : Gl X "list") (hm : X.mg "list" = none) (hgr : Gl X "range") (hmr : X.mg "range" = none) (hb : PE X b ((tE X.K g W) Fn)) (hs : starEach [b] X.env = [(false, eval b X.env)]) :
    PE X (.Call (.Name "list" p) [.Call (.Name "range" p1) [b] [] p2] [] pos) ((tE X.K g W) fun env st => ((Fn env st).bind fun x st => match x with
      | .int j => Pd.R.of (rngItems 0 j) st
      | _ => .err).bind fun w st => if w.ds.length ≤ LIM then alloc (.lst w.ds) st else .err) :=
  peW (pe_listRg hc hg hm (prg_1 hgr hmr hb hs) rfl) fun σ H Q ⟨ρ, env, st, R, En, q⟩ => by
    refine ⟨ρ, env, st, R, En, ?_⟩
    dsimp only at q ⊢
    cases er : Fn env st with
    | err =>
      rw [er] at q
      exact q.elim
    | exc c d s =>
      rw [er] at q
      exact q
    | ok d s1 =>
      rw [er] at q
      intro x H1 ρ1 e1 R1 rx
      cases d with
      | int j =>
        have q : Post X.K g (relD X.K) ρ H (fun cls dx H' => W cls dx σ H') Q ((Pd.R.of (rngItems 0 j) s1).bind fun w st => if w.ds.length ≤ LIM then alloc (.lst w.ds) st else .err) := q
        cases ew : rngItems 0 j with
        | none =>
          rw [ew] at q
          exact q.elim
        | some w =>
          rw [ew] at q
          obtain ⟨hl, q⟩ := Post.ite (show Post X.K g (relD X.K) ρ H (fun cls dx H' => W cls dx σ H') Q (if w.ds.length ≤ LIM then alloc (.lst w.ds) s1 else .err) from q)
          cases rx
          unfold rngItems at ew
          split at ew
          · rename_i hb
            cases ew
            have hl : ((List.range (j - 0).toNat).map fun k => D.int (0 + (k : Nat))).length ≤ LIM := hl
            rw [List.length_map, List.length_range] at hl
            refine ⟨j, rfl, ⟨hb.1, hb.2.1, hb.2.2.1, hb.2.2.2, hl⟩, fun pq hq => ?_⟩
            exact (Post.ext e1 q).newL R1 hq rg_rel
          · cases ew
      | _ => exact (show False from q).elim
theorem c_lrng2 {Fn Fm : Env → Store → R D} {b c : Expr} (hc : X.calm = true) (hg : Gl X "list") (hm : X.mg "list" = none) (hgr : Gl X "range") (hmr : X.mg "range" = none) (hb : PE X b ((tE X.K g W) Fn)) (hd : PE X c ((tE X.K g W) Fm)) (hs : starEach [b, c] X.env = [(false, eval b X.env), (false, eval c X.env)]) (hs2 : starEach [c] X.env = [(false, eval c X.env)]) :
    PE X (.Call (.Name "list" p) [.Call (.Name "range" p1) [b, c] [] p2] [] pos) ((tE X.K g W) fun env st => ((Fn env st).bind fun x st => (Fm env st).bind fun y st => match x, y with
      | .int i, .int j => Pd.R.of (rngItems i j) st
      | _, _ => .err).bind fun w st => if w.ds.length ≤ LIM then alloc (.lst w.ds) st else .err) :=
  peW (pe_listRg hc hg hm (prg_2 hgr hmr hb hd (by rw [hs, hs2]) hs2 (by rw [hs2]; rfl)) rfl) fun σ H Q ⟨ρ, env, st, R, En, q⟩ => by
    have e0 : (((Fn env st).bind fun x st => (Fm env st).bind fun y st => match x, y with
      | .int i, .int j => Pd.R.of (rngItems i j) st
      | _, _ => .err).bind fun w st => if w.ds.length ≤ LIM then alloc (.lst w.ds) st else (.err : Pd.R D)) = (Fn env st).bind fun x st => (Fm env st).bind fun y st => (match x, y with
      | .int i, .int j => Pd.R.of (rngItems i j) st
      | _, _ => .err : Pd.R Items).bind fun w st => if w.ds.length ≤ LIM then alloc (.lst w.ds) st else .err := by
      cases Fn env st with
      | ok d s =>
        show ((Fm env s).bind _).bind _ = (Fm env s).bind _
        cases Fm env s <;> rfl
      | exc _ _ _ => rfl
      | err => rfl
    dsimp only at q
    rw [e0] at q
    refine seqX R En q fun x H1 ρ1 st1 d _ ex1 R1 En1 rx q => seqX R1 En1 q fun y H2 ρ2 st2 d2 _ ex2 R2 _ ry q => ?_
    cases rx with
    | int i =>
      cases ry with
      | int j =>
        have q : Post X.K g (relD X.K) ρ2 H2 (fun cls dx H' => W cls dx σ H') Q ((Pd.R.of (rngItems i j) st2).bind fun w st => if w.ds.length ≤ LIM then alloc (.lst w.ds) st else .err) := q
        cases ew : rngItems i j with
        | none =>
          rw [ew] at q
          exact q.elim
        | some w =>
          rw [ew] at q
          obtain ⟨hl, q⟩ := Post.ite (show Post X.K g (relD X.K) ρ2 H2 (fun cls dx H' => W cls dx σ H') Q (if w.ds.length ≤ LIM then alloc (.lst w.ds) st2 else .err) from q)
          unfold rngItems at ew
          split at ew
          · rename_i hb
            cases ew
            have hl : ((List.range (j - i).toNat).map fun k => D.int (i + (k : Nat))).length ≤ LIM := hl
            rw [List.length_map, List.length_range] at hl
            exact ⟨i, j, rfl, rfl, ⟨hb.1, hb.2.1, hb.2.2.1, hb.2.2.2, hl⟩, fun pq hq => q.newL R2 hq rg_rel⟩
          · cases ew
      | _ => exact (show False from q).elim
    | _ => exact (show False from q).elim
end
end Pd
namespace Pd
open PySem PySem.Spec PyProof.Rows L2
theorem meth_eq {o : Expr} {m : Str} {apos pos : Pos} {args : List Expr} {env : PySem.Env} (hb : attributeBase o m env (eval o env) = eval o env) (hf : methodCallForm args.length (backTo pos (starEach args env)) (backToKw pos (keywordEach [] env)) = true) (hl : (apos.endLine == pos.line) = true) :
    eval (.Call (.Attribute o m apos) args [] pos) env = (do
      let ov ← eval o env
      standAt apos.atName
      let (f, first) ← holding [ov] (getMethod ov m (do return (← importBound o env).getD true))
      callWith pos f first (backTo pos (starEach args env)) (backToKw pos (keywordEach [] env))) := by
  show (do
    let ov ← attributeBase o m env (eval o env)
    standAt apos.atName
    methodCall o m apos pos env ov (args.length + 0) (backTo pos (starEach args env)) (backToKw pos (keywordEach [] env))) = _
  rw [hb]
  have e : ∀ ov, methodCall o m apos pos env ov (args.length + 0) (backTo pos (starEach args env)) (backToKw pos (keywordEach [] env)) = (do
      let (f, first) ← holding [ov] (getMethod ov m (do return (← importBound o env).getD true))
      callWith pos f first (backTo pos (starEach args env)) (backToKw pos (keywordEach [] env))) := fun ov => by
    unfold methodCall calleeOf methodCallPos
    rw [Nat.add_zero, hf]
    simp only [hl, Bool.not_true, Bool.false_or, if_true]
    rfl
  simp only [e]
end Pd
end
section
set_option Elab.async false
set_option linter.all false
set_option maxRecDepth 100000
set_option maxHeartbeats 2000000
set_option autoImplicit false
/-! Set comprehensions. -/
namespace Pd
open PySem PySem.Spec PyProof.Rows L2
/-- what adding y to the set at D asks, and what stands behind it -/
def AddO (K : PySem.W.Frag) (T : Tb) (D : Addr) (y : V) (H : Hp) (Nx : Hp → Prop) : Prop := ∃ (ρ : List Addr) (d : Pd.D) (ds ds' es : List Pd.D) (L : List (Value × NestedKey)), VR K ρ H y d ∧ H D = some (SetO T D L) ∧ Paired (ElR K ρ H) L es ∧ es.Perm ds ∧ saddD ds d = some ds' ∧
  ∀ L' es', Paired (ElR K ρ H) L' es' → es'.Perm ds' → Nx (upd H D (SetO T D L'))
section
variable {X : Cx}
theorem addO_ok {T : Tb} {pins : List (Addr × Obj)} {σ : L2.St} {H : Hp} {s : Shared} {E : Value → Shared → Prop} {D : Addr} {y : V} {z : Value} {Nx : Hp → Prop} {Q : Value → Shared → Prop} (hO : OfX T X) (hu : X.A.units + 200 < cLine) (I : Inv X pins σ H s) (rz : RelV y z) (h : AddO X.K T D y H Nx)
    (hQ : ∀ s' H', Inv X pins σ H' s' → Nx H' → Q .none s') : wpAny (model X.prog X.w) X.A (call (.builtin "set.add") [.ref D, z]) Q E s := by
  obtain ⟨ρ, d, ds, ds', es, L, hy, hD, pr, pm, hs, nx⟩ := h
  have R := Inv.setA I hO hD
  have ty : s.TypeIs (.ref D) "set" := by
    obtain ⟨o, _, _, _, e1, e2, _⟩ := R
    exact ⟨o, e1, e2.1⟩
  refine wpAny_call_entry PySem.F.slot_set_add ty PySem.F.entry_set_add ?_ (PySem.F.args_set_add_2 _ _)
  unfold Builtin.«set.add» Builtin.Frozenset.oneOther
  simp only [List.isEmpty_nil, bind_assoc]
  unfold Builtin.Frozenset.addrOf
  refine wpAny_bind (wpAny_pure ?_)
  try dsimp only
  refine wpAny_bind (wpAny_pure ?_)
  try dsimp only
  refine wpAny_bind (set_add R (els_is I pr) pr pm hy rz (fun k hk => key_is I d y z k hy rz hk) hs (by show X.A.units + 1 + 8 < cLine; omega) fun r h' L' es' tk _ sb R' p' q' => ?_)
  show wpAny _ _ (ret Value.none) _ _ _
  have heo : ∃ u, h'.get? D = some u := by
    obtain ⟨o, _, _, _, e1, _⟩ := id R'
    exact ⟨o, e1⟩
  exact wpAny_pure ⟨_, rfl, hQ _ _ (I.write (e := D) (t' := tk) (by rw [hD]; trivial) (.inl rfl) (fun b u hb e => (sb.2 b hb).trans e) heo (setO_ok hO R')) (nx L' es' p' q')⟩
def tSc (K : PySem.W.Frag) (T : Tb) (wi : TI) (g : TG) (tt : TT) (te : TE) (vs : List Nat) : TE := fun σ H Q => wi σ H fun J H1 => ∀ D, H1 D = none → ∃ W : Nat → Nat → Hp → Prop, (∃ m, W 0 m (upd H1 D (SetO T D []))) ∧ ∀ i m H, W i m H →
  (J.stop i H ∧ Q (.ref D) H) ∨ (J.go i H ∧ ∃ Nx : Hp → Prop, (∀ H', Nx H' → ∃ m', m' < m ∧ W (i + 1) m' H') ∧ ∀ x H', J.yld i H x H' → g x (L2.wipe σ vs) H' fun σ2 H2 => L2.wipe σ2 vs = L2.wipe σ vs ∧ tt σ2 H2 fun b H3 =>
    if b = true then te σ2 H3 fun y H4 => AddO K T D y H4 Nx else Nx H3)
theorem sc_run {T : Tb} {pins : List (Addr × Obj)} {s : Shared} {σ : L2.St} {H : Hp} {Q : VK} {elt tg iter : Expr} {ifs : List Expr} {scope : Scope} {own : List (Str × Nat)} {pos pos' : Pos} {wi : TI} {g : TG} {tt : TT} {te : TE} {use : Option (Value → Sem Unit)} {Qf : Value → Shared → Prop}
    (hO : OfX T X) (hu : X.A.units + 200 < cLine) (hc : X.calm = true) (hN : X.N.Nodup) (I : Inv X pins σ H s) (hi : PI X tg iter wi) (ok : BlkOk X.N X.env.scope scope own) (hg : ∀ (s : Shared) (H : Hp) (C : Addr) (cl : List (Str × Addr)) (fp : List Addr), PG (X.blk s H scope (compEnvC scope cl C X.env) fp) tg g)
    (ht : ∀ (s : Shared) (H : Hp) (C : Addr) (cl : List (Str × Addr)) (fp : List Addr), PTs (X.blk s H scope (compEnvC scope cl C X.env) fp) ifs tt) (he : ∀ (s : Shared) (H : Hp) (C : Addr) (cl : List (Str × Addr)) (fp : List Addr), PE (X.blk s H scope (compEnvC scope cl C X.env) fp) elt te)
    (hs : ∀ x, foldedSetIterable iter X.env x = pure x) (h : tSc X.K T wi g tt te (own.map (·.2)) σ H Q) (hF : ∀ D C s' m H', Inv X pins σ H' s' → Q (.ref D) H' → s'.heap.Ns C m → FpOk X pins H' C → compPost (model X.prog X.w) X.A X.xe use Qf (.ref D) C (.ok .next) s') :
    wpAny (model X.prog X.w) X.A (comprehension (.SetComp elt [⟨tg, iter, ifs, 0⟩] scope pos) scope X.env pos' (newSet (.type "set")) false (eval iter X.env) use) Qf X.xe s := by
  have free : ∀ y ∈ scope.names, y.2 = .free → ∃ c, X.env.cells.lookup y.1 = some c := fun y hy e => (ok.free y hy e).elim (fun k => I.ok.has _ (.inl k)) fun k => I.ok.has _ (.inr k)
  refine wpAny_comprehension_free (use := use) rfl hs (closure_ok free) ok.kind (fun y hy e => by rw [ok.uniq y hy, e]) (thn (hi.run pins s σ H _ I h) fun xv s1 hx => thn hx fun itv s2 h2 => ?_)
  obtain ⟨it, fp, tn, J, H2, e, I2, T2, start, apart, q⟩ := h2
  subst e
  refine PpSet.newSet_ok (newEnv_comp ?_)
  obtain ⟨D, hD⟩ : ∃ D, s2.heap.objs.size = D := ⟨_, rfl⟩
  obtain ⟨W, ⟨m0, w0⟩, turn⟩ := q D (I2.hok.fresh (Nat.le_of_eq hD))
  obtain ⟨s3, es3⟩ : ∃ s3 : Shared, s3 = { s2 with heap := s2.heap.push (newSetO X.w) } := ⟨_, rfl⟩
  obtain ⟨H3, eH3⟩ : ∃ H3 : Hp, H3 = upd H2 D (SetO T D []) := ⟨_, rfl⟩
  have hh3 : s3.heap = s2.heap.push (newSetO X.w) := by rw [es3]
  have I3 : Inv X pins σ H3 s3 := by
    rw [es3, eH3]
    refine I2.laid (t' := s2.toks) (fun b o z => Heap.get?_push_of_some _ z) (Nat.le_of_eq hD) (setO_ok hO ?_)
    rw [← hD]
    exact setA_new (Heap.get?_push_size _ rfl)
  have apart3 : ∀ b ∈ fp, FpOk X pins H3 b ∧ b < s3.heap.objs.size := fun b hb => by
    obtain ⟨o, z, _⟩ := T2.obj _ _ start b hb
    have lt := Heap.lt_size z
    refine ⟨⟨?_, (apart b hb).2⟩, by rw [hh3, Heap.size_push]; exact Nat.lt_succ_of_lt lt⟩
    rw [eH3, upd_ne (by rw [← hD]; exact Nat.ne_of_lt lt)]
    exact (apart b hb).1
  have start3 : tn 0 s3.heap := T2.keep _ _ _ start fun b _ o z => by rw [hh3]; exact Heap.get?_push_of_some _ z
  have I4 := block_start I3 ok hN apart3
  have pg := hg s3 H3 s3.heap.objs.size (cellsFrom (s3.heap.objs.size + 1) scope.names (cloFrom X.env.cells scope.names [])) fp
  have pt := ht s3 H3 s3.heap.objs.size (cellsFrom (s3.heap.objs.size + 1) scope.names (cloFrom X.env.cells scope.names [])) fp
  have pe := he s3 H3 s3.heap.objs.size (cellsFrom (s3.heap.objs.size + 1) scope.names (cloFrom X.env.cells scope.names [])) fp
  rw [hD, show ({ s2 with heap := s2.heap.push { cls := .type "set", dict := none, data := .set #[] 0 (.fresh 0 0 (!X.w.params.followText "set-order")) } } : Shared) = s3 from es3.symm]
  show codeAny _ _ (.compStart (.SetComp elt [⟨tg, iter, ifs, 0⟩] scope pos) 0 (.ref it) (.ref D) (compEnvC scope (cellsFrom (s3.heap.objs.size + 1) scope.names (cloFrom X.env.cells scope.names [])) s3.heap.objs.size X.env)) (compPost (model X.prog X.w) X.A X.xe use Qf (.ref D) s3.heap.objs.size) { s3 with heap := pushCells (s3.heap.push { cls := .type "dict", data := .dict #[] }) scope.names }
  rw [← eH3] at w0
  generalize hce : compEnvC scope (cellsFrom (s3.heap.objs.size + 1) scope.names (cloFrom X.env.cells scope.names [])) s3.heap.objs.size X.env = ce at I4 pg pt pe ⊢
  have cL : ce.locals = s3.heap.objs.size := by
    rw [← hce]
    rfl
  obtain ⟨s4, es4⟩ : ∃ s4 : Shared, s4 = { s3 with heap := pushCells (s3.heap.push { cls := .type "dict", data := .dict #[] }) scope.names } := ⟨_, rfl⟩
  rw [← es4] at I4 ⊢
  have start4 : tn 0 s4.heap := T2.keep _ _ _ start3 fun b _ o z => by
    rw [es4]
    exact pushCells_keeps _ _ _ _ (Heap.get?_push_of_some _ z)
  have none3 : ∀ b ∈ fp, H3 b = none := fun b hb => (apart3 b hb).1.1
  have held : ∀ {τ : L2.St} {H' : Hp} {t : Shared}, Inv (X.blk s3 H3 scope ce fp) [] τ H' t → (∀ b ∈ fp, H' b = none) → ∀ b ∈ fp, FpOk (X.blk s3 H3 scope ce fp) [] H' b := fun {τ H' t} I' hn b hb =>
    ⟨hn b hb, (I'.ok.exf b hb).1, I'.ok.exfs b hb, .inl hb, fun x c z => (I'.ok.exf b hb).2 x c z, fun p hp => absurd (show p ∈ ([] : List (Addr × Obj)) ++ [] from hp) (by simp)⟩
  have loop : codeAny (model X.prog X.w) X.A (.compLoop (.SetComp elt [⟨tg, iter, ifs, 0⟩] scope pos) 0 (.ref it) (.ref D) ce) (compPost (model X.prog X.w) X.A X.xe use Qf (.ref D) s3.heap.objs.size) s4 := by
    refine PpSet.compLoopS_any (fun n t => ∃ i H', Inv (X.blk s3 H3 scope ce fp) [] (L2.wipe σ (own.map (·.2))) H' t ∧ tn i t.heap ∧ (∀ b ∈ fp, H' b = none) ∧ W i n H') ?_ m0 ⟨0, H3, I4, start4, none3, w0⟩
    rintro n s5 ⟨i, H5, I5, st5, n5, w5⟩
    rcases turn i n H5 w5 with ⟨stop, qq⟩ | ⟨go, Nx, hNx, step⟩
    · refine thnF (T2.done (X.blk s3 H3 scope ce fp) rfl rfl rfl hc i [] s5 _ H5 (fun _ _ => False) I5 (held I5 n5) st5 stop) fun r s6 ⟨hr, I6⟩ => ?_
      subst hr
      have I7 : Inv X pins σ H5 s6 := I3.call' (ch := fp) I6.os I6.base I6.hok I6.bare fun b hb => ⟨(apart3 b hb).1.2.2.2.1, (apart3 b hb).1.2.1, (apart3 b hb).1.2.2.2.2.1, (apart3 b hb).1.2.2.2.2.2⟩
      have nC : H5 s3.heap.objs.size = none := by
        have z : H5 ce.locals = none := I6.free
        rw [cL] at z
        exact z
      obtain ⟨m, hn, _⟩ := I6.loc
      have hn : s6.heap.Ns ce.locals m := hn
      rw [cL] at hn
      exact hF D s3.heap.objs.size s6 m H5 I7 qq hn (I3.fpOk (Nat.le_refl _) nC)
    · refine thnF (T2.item (X.blk s3 H3 scope ce fp) rfl rfl rfl hc i [] s5 _ H5 (fun _ _ => False) I5 (held I5 n5) st5 go) fun r s6 ⟨u, hr, h6⟩ => ?_
      subst hr
      refine thnF h6 fun _ s7 ⟨x, H7, I7, r7, y7, st7, n7⟩ => ?_
      have I8 := I7.pinned (held I7 n7) (T2.obj _ _ st7)
      refine thnF (pg.run _ s7 _ H7 x u _ I8 r7 (step x H7 y7)) fun _ s8 ⟨σ8, H8, I9, hw8, q8⟩ => ?_
      refine thnF (pt.run _ s8 σ8 H8 _ I9 q8) fun b s9 ⟨H9, I10, q9⟩ => ?_
      have next : ∀ {t : Shared} {H' : Hp}, Inv (X.blk s3 H3 scope ce fp) ([] ++ pinsAt fp s7.heap) σ8 H' t → Nx H' → ∃ m, m < n ∧ ∃ i H', Inv (X.blk s3 H3 scope ce fp) [] (L2.wipe σ (own.map (·.2))) H' t ∧ tn i t.heap ∧ (∀ b ∈ fp, H' b = none) ∧ W i m H' := fun {t H'} I' nx => by
        obtain ⟨m', hm, w'⟩ := hNx H' nx
        have kept : ∀ b ∈ fp, ∀ o, s7.heap.get? b = some o → t.heap.get? b = some o ∧ H' b = none := fun b hb o z =>
          let y := I'.pin (b, o) (List.mem_append_right _ (List.mem_append_right _ (mem_pinsAt hb z)))
          ⟨y.1, y.2.1⟩
        refine ⟨m', hm, i + 1, H', (I'.unpinned (pins := [])).weak (by rw [← hw8, wipe_length]) (fun j v z => ?_), T2.keep _ _ _ st7 fun b hb o z => (kept b hb o z).1, fun b hb => ?_, w'⟩
        · rw [← hw8] at z
          exact (wipe_some z).1
        · obtain ⟨o, z, _⟩ := T2.obj _ _ st7 b hb
          exact (kept b hb o z).2
      cases b with
      | false =>
        simp only [Bool.false_eq_true, if_false] at q9 ⊢
        exact next I10 q9
      | true =>
        simp only [if_true] at q9 ⊢
        refine thnF (pe.run _ s9 σ8 H9 _ I10 q9) fun z s10 ⟨yv, H10, I11, r11, ad⟩ => ?_
        exact addO_ok (X := X.blk s3 H3 scope ce fp) ⟨hO.P, hO.w⟩ hu I11 r11 ad fun t H' J nx => next J nx
  exact PpSet.codeAny_compStart_set loop (T2.self X.A 0 _ _ _ start4 loop)
theorem pe_sc {T : Tb} {elt tg iter : Expr} {ifs : List Expr} {scope : Scope} {own : List (Str × Nat)} {pos : Pos} {wi : TI} {g : TG} {tt : TT} {te : TE} (hO : OfX T X) (hu : X.A.units + 200 < cLine) (hc : X.calm = true) (hN : X.N.Nodup) (hi : PI X tg iter wi) (ok : BlkOk X.N X.env.scope scope own)
    (hg : ∀ (s : Shared) (H : Hp) (C : Addr) (cl : List (Str × Addr)) (fp : List Addr), PG (X.blk s H scope (compEnvC scope cl C X.env) fp) tg g) (ht : ∀ (s : Shared) (H : Hp) (C : Addr) (cl : List (Str × Addr)) (fp : List Addr), PTs (X.blk s H scope (compEnvC scope cl C X.env) fp) ifs tt)
    (he : ∀ (s : Shared) (H : Hp) (C : Addr) (cl : List (Str × Addr)) (fp : List Addr), PE (X.blk s H scope (compEnvC scope cl C X.env) fp) elt te) (hs : ∀ x, foldedSetIterable iter X.env x = pure x) : PE X (.SetComp elt [⟨tg, iter, ifs, 0⟩] scope pos) (tSc X.K T wi g tt te (own.map (·.2))) := by
  refine ⟨fun pins s σ H Q I h => ?_⟩
  rw [PpSet.eval_SetComp]
  refine sc_run hO hu hc hN I hi ok hg ht he hs h fun D C t m H' J q hn f => ⟨m, hn, fun h2 sb => ?_⟩
  obtain ⟨f0, f1, f2, f3, f4, f5⟩ := f
  exact ⟨.ref D, H', J.turned (t' := t.toks) (fun b o hb e => (sb.2 b hb).trans e) f0 f1 f3 f4 f5, rfl, q⟩
end
section
variable {X : Cx} {g : Sig} {W : WX} {tg elt iter : Expr} {ifs : List Expr} {Fi : Env → Store → R Items} {Fe : Env → Store → R Pd.D} {Fw : Env → Store → R Bool} {pos : Pos}
theorem loose_set {T : Tb} {Dl : Addr} {L : List (Value × NestedKey)} : Loose Dl (SetO T Dl L) := by
  refine ⟨trivial, fun q z => ?_⟩
  unfold SetO LamX.CodeO at z
  injection z with z
  obtain ⟨h, hh⟩ : ∃ h : Heap, h.get? Dl = some { cls := .none, data := .fields #[.none, .str q 0] } := by
    refine ⟨{ objs := Array.replicate (Dl + 1) { cls := .none, data := .fields #[.none, .str q 0] } }, ?_⟩
    unfold Heap.get?
    rw [Array.getElem?_replicate, if_pos (Nat.lt_succ_self Dl)]
  have p : SetA T.w h Dl L := (congrFun z h).mpr ⟨_, _, 0, hh, rfl, rfl⟩
  obtain ⟨o, es, ep, t, e1, _, e3, _⟩ := p
  rw [hh] at e1
  cases e1
  cases e3
def CompS (K : PySem.W.Frag) (g : Sig) (ρ1 : List Addr) (H1 : Hp) (E : XK) (Q : VK) (ds : List Pd.D) (go : List Pd.D → List Pd.D → Store → R Pd.D) (Dl : Addr) : Nat → Nat → Hp → Prop := fun i m H' =>
  ∃ ρ' st' acc es L, m = ds.length - i ∧ i ≤ ds.length ∧ Ext ρ1 H1 ρ' H' ∧ Rep K g.T ρ' st' H' ∧ Dl ∉ ρ' ∧ H' Dl = some (SetO g.T Dl L) ∧ Paired (ElR K ρ' H') L es ∧ es.Perm acc ∧ Post K g (relD K) ρ1 H1 E Q (go (ds.drop i) acc st')
theorem elR_grow {K : PySem.W.Frag} {ρ l : List Addr} {H : Hp} {L : List (Value × NestedKey)} {es : List Pd.D} (r : Paired (ElR K ρ H) L es) : Paired (ElR K (ρ ++ l) H) L es := L2.Paired.mapP r fun _ _ q => ⟨q.1, q.2.1, q.2.2.elim fun v z => ⟨v, z.1, z.2.grow⟩⟩
theorem elR_put {K : PySem.W.Frag} {ρ : List Addr} {H : Hp} {Dl : Addr} {u o : HO} {L : List (Value × NestedKey)} {es : List Pd.D} (l : Loose Dl u) (h : H Dl = some u) (r : Paired (ElR K ρ H) L es) : Paired (ElR K ρ (upd H Dl o)) L es :=
  L2.Paired.mapP r fun _ _ q => ⟨q.1, q.2.1, q.2.2.elim fun v z => ⟨v, z.1, VR.put l h z.2⟩⟩
theorem sc_go {tgt : Tg} {vs : List Nat} (hv : ∀ i ∈ tgt.slots, i ∈ vs) {σ : L2.St} {H : Hp} {Q : VK}
    (h : tE X.K g W (fun env st => (Fi env st).bind fun w st => compLoopS (wipeE env vs) tgt w (fun env st => (Fw env st).still) (fun env st => (Fe env st).still) w.ds [] st) σ H Q) :
    tSc X.K g.T (tI X.K g W Fi) (gT X.K tgt) (tT X.K g noW Fw) (tE X.K g noW Fe) vs σ H Q := by
  obtain ⟨ρ, env, st, R0, En, q⟩ := h
  refine seqX R0 En q fun J H1 ρ1 st1 w _ ex1 R1 En1 hJ q => fun Dl hD => ?_
  refine ⟨CompS X.K g ρ1 H1 (fun cls dx H' => W cls dx σ H') Q w.ds (compLoopS (wipeE env vs) tgt w (fun env st => (Fw env st).still) (fun env st => (Fe env st).still)) Dl,
    ⟨w.ds.length, ρ1, st1, [], [], [], by simp, Nat.zero_le _, Ext.new hD, R1.new hD, R1.no hD, upd_same, .nil, .refl _, q⟩, ?_⟩
  rintro i m H' ⟨ρ', st', acc, es, L, rfl, hi, e', R', nD, hDl, rA, pm, q⟩
  cases hd : w.ds[i]? with
  | none =>
    have ei : i = w.ds.length := Nat.le_antisymm hi (List.getElem?_eq_none_iff.mp hd)
    subst ei
    rw [List.drop_length] at q
    unfold compLoopS at q
    obtain ⟨so, q⟩ := Post.ite q
    refine .inl ⟨(hJ ρ' st' H' e'.w R' so).2, ?_⟩
    exact q _ H' (ρ' ++ [Dl]) (e'.adopt hD nD) (R'.adopt nD loose_set hDl ⟨L, es, hDl, pm, elR_grow rA⟩) (.ref (by rw [← R'.len, List.getElem?_append_right (Nat.le_refl _), Nat.sub_self]; rfl))
  | some d =>
    have hlt : i < w.ds.length := (List.getElem?_eq_some_iff.mp hd).1
    rw [drop_some hd] at q
    unfold compLoopS at q
    obtain ⟨so, q⟩ := Post.ite q
    obtain ⟨go, yl⟩ := (hJ ρ' st' H' e'.w R' so).1 i d hd
    cases hb : assignTg (wipeE env vs) tgt d with
    | none =>
      rw [hb] at q
      exact q.elim
    | some env' =>
      rw [hb] at q
      dsimp only at q
      obtain ⟨b, st2, e2, q⟩ := post_still q
      refine .inr ⟨go, CompS X.K g ρ1 H1 (fun cls dx H' => W cls dx σ H') Q w.ds (compLoopS (wipeE env vs) tgt w (fun env st => (Fw env st).still) (fun env st => (Fe env st).still)) Dl (i + 1) (w.ds.length - (i + 1)), fun H' z => ⟨_, by omega, z⟩, fun x H'' y => ?_⟩
      obtain ⟨e3, rx⟩ := yl x H'' y
      subst e3
      refine gT_ok (En1.ext e' |>.wipe vs) rx hb fun σ2 En2 hw => ⟨?_, ?_⟩
      · rw [hw vs hv, wipe_wipe fun _ h => h]
      · refine ⟨ρ', env', st', R', En2, ?_⟩
        rw [e2]
        intro k H3 ρ3 e3 R3 rk
        have rk : k = b := rk
        subst rk
        have hD3 : H3 Dl = some (SetO g.T Dl L) := e3.keep _ _ hDl nD fun ps z => by cases z
        have nD3 : Dl ∉ ρ3 := e3.notMem nD hDl
        have rA3 : Paired (ElR X.K ρ3 H3) L es := L2.Paired.mapP rA fun _ _ q => q.ext e3
        cases k with
        | false =>
          rw [if_neg Bool.false_ne_true] at q
          rw [if_neg Bool.false_ne_true]
          exact ⟨ρ3, st2, acc, es, L, rfl, hlt, e'.trans e3, R3, nD3, hD3, rA3, pm, q⟩
        | true =>
          rw [if_pos rfl] at q
          rw [if_pos rfl]
          obtain ⟨y, st4, e5, q⟩ := post_still q
          refine ⟨ρ3, env', st2, R3, En2.ext e3, ?_⟩
          rw [e5]
          intro yv H4 ρ4 e4 R4 ry
          cases hs : saddD acc y with
          | none =>
            rw [hs] at q
            exact q.elim
          | some acc' =>
            rw [hs] at q
            have hD4 : H4 Dl = some (SetO g.T Dl L) := e4.keep _ _ hD3 nD3 fun ps z => by cases z
            have nD4 : Dl ∉ ρ4 := e4.notMem nD3 hD3
            have rA4 : Paired (ElR X.K ρ4 H4) L es := L2.Paired.mapP rA3 fun _ _ q => q.ext e4
            exact ⟨ρ4, y, acc, acc', es, L, ry, hD4, rA4, pm, hs, fun L' es' p' q' => ⟨ρ4, st4, acc', es', L', rfl, hlt, (e'.trans (e3.trans e4)).put hD, R4.put nD4 loose_set hD4, nD4, upd_same, elR_put loose_set hD4 p', q', q⟩⟩
theorem c_sc {scope : Scope} {own : List (Str × Nat)} {tgt : Tg} (hO : OfX g.T X) (hu : X.A.units + 200 < cLine) (hc : X.calm = true) (hN : X.N.Nodup) (hi : PI X tg iter (tI X.K g W Fi)) (ok : BlkOk X.N X.env.scope scope own) (hv : ∀ i ∈ tgt.slots, i ∈ own.map (·.2))
    (hg : ∀ (s : Shared) (H : Hp) (C : Addr) (cl : List (Str × Addr)) (fp : List Addr), PG (X.blk s H scope (compEnvC scope cl C X.env) fp) tg (gT X.K tgt)) (ht : ∀ (s : Shared) (H : Hp) (C : Addr) (cl : List (Str × Addr)) (fp : List Addr), PTs (X.blk s H scope (compEnvC scope cl C X.env) fp) ifs (tT X.K g noW Fw))
    (he : ∀ (s : Shared) (H : Hp) (C : Addr) (cl : List (Str × Addr)) (fp : List Addr), PE (X.blk s H scope (compEnvC scope cl C X.env) fp) elt (tE X.K g noW Fe)) (hs : ∀ x, foldedSetIterable iter X.env x = pure x) :
    PE X (.SetComp elt [⟨tg, iter, ifs, 0⟩] scope pos) (tE X.K g W fun env st => (Fi env st).bind fun w st => compLoopS (wipeE env (own.map (·.2))) tgt w (fun env st => (Fw env st).still) (fun env st => (Fe env st).still) w.ds [] st) :=
  peW (pe_sc (T := g.T) hO hu hc hN hi ok hg ht he hs) fun σ H Q h => sc_go hv h
end
end Pd
end
section
set_option Elab.async false
set_option linter.all false
set_option maxRecDepth 100000
set_option maxHeartbeats 1000000
set_option autoImplicit false
/-! Comprehensions of two rows. -/
namespace Pd
open PySem PySem.Spec PyProof.Rows L2
theorem R.assoc {α β γ : Type} (r : R α) (f : α → Store → R β) (k : β → Store → R γ) : (r.bind f).bind k = r.bind fun a st => (f a st).bind k := by cases r <;> rfl
section
variable {X : Cx} {g : Sig} {W : WX} {tg elt iter tg1 iter1 : Expr} {Fi Fj : Env → Store → R Items} {Fe : Env → Store → R Pd.D} {pos : Pos}
abbrev innerF (Fj : Env → Store → R Items) (tgt1 : Tg) (vs1 : List Nat) (Fe : Env → Store → R Pd.D) : Env → List Pd.D → Store → R (List Pd.D) := fun env acc st => ((Fj env st).still).bind fun w2 st => compIn (wipeE env vs1) tgt1 w2 (fun env st => (Fe env st).still) w2.ds acc st
theorem lc2_go {tgt tgt1 : Tg} {vs vs1 : List Nat} (hv : ∀ i ∈ tgt.slots, i ∈ vs) (hv1 : ∀ i ∈ tgt1.slots, i ∈ vs1) {σ : L2.St} {H : Hp} {Q : VK}
    (h : tE X.K g W (fun env st => (Fi env st).bind fun w st => compLoop2 (wipeE env vs) tgt w (innerF Fj tgt1 vs1 Fe) w.ds [] st) σ H Q) :
    tLc2 (tI X.K g W Fi) (gT X.K tgt) (tT X.K g noW fun _ st => .ok true st) (tI X.K g noW Fj) (gT X.K tgt1) (tT X.K g noW fun _ st => .ok true st) (tE X.K g noW Fe) vs vs1 σ H Q := by
  obtain ⟨ρ, env, st, R0, En, q⟩ := h
  refine seqX R0 En q fun J H1 ρ1 st1 w _ ex1 R1 En1 hJ q => fun Dl hD => ?_
  refine ⟨CompW X.K g ρ1 H1 (fun cls dx H' => W cls dx σ H') Q w.ds (compLoop2 (wipeE env vs) tgt w (innerF Fj tgt1 vs1 Fe)) Dl, ⟨w.ds.length, ρ1, st1, [], [], by simp, Nat.zero_le _, Ext.new hD, R1.new hD, R1.no hD, upd_same, .nil, q⟩, ?_⟩
  rintro i m H' ⟨ρ', st', acc, accV, rfl, hi, e', R', nD, hDl, rA, q⟩
  cases hd : w.ds[i]? with
  | none =>
    have ei : i = w.ds.length := Nat.le_antisymm hi (List.getElem?_eq_none_iff.mp hd)
    subst ei
    rw [List.drop_length] at q
    unfold compLoop2 at q
    obtain ⟨so, q⟩ := Post.ite q
    refine .inl ⟨(hJ ρ' st' H' e'.w R' so).2, ?_⟩
    exact q _ H' (ρ' ++ [Dl]) (e'.adopt hD nD) (R'.adopt nD loose_lst hDl ⟨_, hDl, rA.grow⟩) (.ref (by rw [← R'.len, List.getElem?_append_right (Nat.le_refl _), Nat.sub_self]; rfl))
  | some d =>
    have hlt : i < w.ds.length := (List.getElem?_eq_some_iff.mp hd).1
    rw [drop_some hd] at q
    unfold compLoop2 at q
    obtain ⟨so, q⟩ := Post.ite q
    obtain ⟨go, yl⟩ := (hJ ρ' st' H' e'.w R' so).1 i d hd
    cases hb : assignTg (wipeE env vs) tgt d with
    | none =>
      rw [hb] at q
      exact q.elim
    | some env' =>
      rw [hb] at q
      dsimp only at q
      rw [R.assoc] at q
      obtain ⟨w2, st2, e2, q⟩ := post_still q
      refine .inr ⟨go, CompW X.K g ρ1 H1 (fun cls dx H' => W cls dx σ H') Q w.ds (compLoop2 (wipeE env vs) tgt w (innerF Fj tgt1 vs1 Fe)) Dl (i + 1) (w.ds.length - (i + 1)), fun H' z => ⟨_, by omega, z⟩, fun x H'' y => ?_⟩
      obtain ⟨e3, rx⟩ := yl x H'' y
      subst e3
      refine gT_ok (En1.ext e' |>.wipe vs) rx hb fun σ2 En2 hw => ⟨?_, ?_⟩
      · rw [hw vs hv, wipe_wipe fun _ h => h]
      · refine ⟨ρ', env', st', R', En2, ?_⟩
        intro k H3 ρ3 e3 R3 rk
        have rk : k = true := rk
        subst rk
        rw [if_pos rfl]
        refine ⟨ρ3, env', st', R3, En2.ext e3, ?_⟩
        rw [e2]
        intro J1 H4 ρ4 e4 R4 hJ1
        have e34 := e3.trans e4
        have hD4 : H4 Dl = some (.lst accV) := e34.keep _ _ hDl nD fun ps z => by cases z
        have nD4 : Dl ∉ ρ4 := e34.notMem nD hDl
        have En4 := En2.ext e34
        refine ⟨fun j k H5 => ∃ ρ5 st5 acc5 accV5, k = w2.ds.length - j ∧ j ≤ w2.ds.length ∧ Ext ρ1 H1 ρ5 H5 ∧ EnvR X.K ρ5 H5 σ2 env' ∧ (∀ ρ0 H0, ExtW ρ5 H5 ρ0 H0 → ∀ st0, Rep X.K g.T ρ0 st0 H0 → srcOk st0 w2 = true → (∀ (i : Nat) (d : Pd.D), w2.ds[i]? = some d → J1.go i H0 ∧ ∀ x H', J1.yld i H0 x H' → H' = H0 ∧ VR X.K ρ0 H0 x d) ∧ J1.stop w2.ds.length H0) ∧
          Rep X.K g.T ρ5 st5 H5 ∧ Dl ∉ ρ5 ∧ H5 Dl = some (.lst accV5) ∧ VRs X.K ρ5 H5 accV5 acc5 ∧
          Post X.K g (relD X.K) ρ1 H1 (fun cls dx H' => W cls dx σ H') Q ((compIn (wipeE env' vs1) tgt1 w2 (fun env st => (Fe env st).still) (w2.ds.drop j) acc5 st5).bind fun acc st => compLoop2 (wipeE env vs) tgt w (innerF Fj tgt1 vs1 Fe) (w.ds.drop (i + 1)) acc st),
          ⟨w2.ds.length, ρ4, st2, acc, accV, by simp, Nat.zero_le _, e'.trans e34, En4, fun ρ0 H0 e0 st0 R0 s0 => hJ1 ρ0 st0 H0 e0 R0 s0, R4, nD4, hD4, rA.ext e34, q⟩, ?_⟩
        rintro j kk H5 ⟨ρ5, st5, acc5, accV5, rfl, hj, e5, En5, hJ5, R5, nD5, hD5, rA5, q⟩
        cases hd2 : w2.ds[j]? with
        | none =>
          have ej : j = w2.ds.length := Nat.le_antisymm hj (List.getElem?_eq_none_iff.mp hd2)
          subst ej
          rw [List.drop_length] at q
          unfold compIn at q
          by_cases so2 : srcOk st5 w2 = true
          · rw [if_pos so2] at q
            exact .inl ⟨(hJ5 ρ5 H5 (Ext.refl _ _).w st5 R5 so2).2, ρ5, st5, acc5, accV5, rfl, hlt, e5, R5, nD5, hD5, rA5, q⟩
          · rw [if_neg so2] at q
            exact q.elim
        | some d2 =>
          have hlt2 : j < w2.ds.length := (List.getElem?_eq_some_iff.mp hd2).1
          rw [drop_some hd2] at q
          unfold compIn at q
          by_cases so2 : srcOk st5 w2 = true
          rotate_left
          · rw [if_neg so2] at q
            exact q.elim
          rw [if_pos so2] at q
          obtain ⟨go2, yl2⟩ := (hJ5 ρ5 H5 (Ext.refl _ _).w st5 R5 so2).1 j d2 hd2
          cases hb2 : assignTg (wipeE env' vs1) tgt1 d2 with
          | none =>
            rw [hb2] at q
            exact q.elim
          | some env2 =>
            rw [hb2] at q
            dsimp only at q
            rw [R.assoc] at q
            obtain ⟨yd, st7, e7, q⟩ := post_still q
            refine .inr ⟨go2, fun H' => ∃ ρ5 st5 acc5 accV5, Ext ρ1 H1 ρ5 H' ∧ EnvR X.K ρ5 H' σ2 env' ∧ (∀ ρ0 H0, ExtW ρ5 H' ρ0 H0 → ∀ st0, Rep X.K g.T ρ0 st0 H0 → srcOk st0 w2 = true → (∀ (i : Nat) (d : Pd.D), w2.ds[i]? = some d → J1.go i H0 ∧ ∀ x H', J1.yld i H0 x H' → H' = H0 ∧ VR X.K ρ0 H0 x d) ∧ J1.stop w2.ds.length H0) ∧
              Rep X.K g.T ρ5 st5 H' ∧ Dl ∉ ρ5 ∧ H' Dl = some (.lst accV5) ∧ VRs X.K ρ5 H' accV5 acc5 ∧
              Post X.K g (relD X.K) ρ1 H1 (fun cls dx H' => W cls dx σ H') Q ((compIn (wipeE env' vs1) tgt1 w2 (fun env st => (Fe env st).still) (w2.ds.drop (j + 1)) acc5 st5).bind fun acc st => compLoop2 (wipeE env vs) tgt w (innerF Fj tgt1 vs1 Fe) (w.ds.drop (i + 1)) acc st),
              fun H' ⟨a1, a2, a3, a4, z⟩ => ⟨w2.ds.length - (j + 1), by omega, a1, a2, a3, a4, rfl, hlt2, z⟩, fun x2 H6 y2 => ?_⟩
            obtain ⟨e6, rx2⟩ := yl2 x2 H6 y2
            subst e6
            refine gT_ok (En5.wipe vs1) rx2 hb2 fun σ3 En3 hw3 => ⟨?_, ?_⟩
            · rw [hw3 vs1 hv1, wipe_wipe fun _ h => h]
            · refine ⟨ρ5, env2, st5, R5, En3, ?_⟩
              intro k H7 ρ7 e7' R7 rk
              have rk : k = true := rk
              subst rk
              rw [if_pos rfl]
              refine ⟨ρ7, env2, st5, R7, En3.ext e7', ?_⟩
              rw [e7]
              intro yv H8 ρ8 e8 R8 ry
              by_cases hacc : acc5.length < LIM
              rotate_left
              · rw [if_neg hacc] at q
                exact q.elim
              rw [if_pos hacc] at q
              have e78 := e7'.trans e8
              have hD8 : H8 Dl = some (.lst accV5) := e78.keep _ _ hD5 nD5 fun ps z => by cases z
              have nD8 : Dl ∉ ρ8 := e78.notMem nD5 hD5
              have rA8 := rA5.ext e78
              have En8 := En5.ext e78
              refine ⟨accV5, hD8, by rw [rA8.length, ← LIM_eq]; exact hacc, ρ8, st7, acc5 ++ [yd], accV5 ++ [yv], (e5.trans e78).put hD, ?_, ?_, R8.put nD8 loose_lst hD8, nD8, upd_same, (rA8.put loose_lst hD8).append (.cons (VR.put loose_lst hD8 ry) .nil), q⟩
              · exact ⟨En8.1, fun n dd hn => (En8.2 n dd hn).elim fun v z => ⟨v, z.1, VR.put loose_lst hD8 z.2⟩⟩
              · exact fun ρ0 H0 e0 => hJ5 ρ0 H0 ((e78.w.trans (ExtW.put hD8)).trans e0)
theorem c_lc2 {scope : Scope} {own : List (Str × Nat)} {tgt tgt1 : Tg} {vs1 : List Nat} (hc : X.calm = true) (hN : X.N.Nodup) (hi : PI X tg iter (tI X.K g W Fi)) (ok : BlkOk X.N X.env.scope scope own) (hv : ∀ i ∈ tgt.slots, i ∈ own.map (·.2)) (hv1 : ∀ i ∈ tgt1.slots, i ∈ vs1) (hv2 : ∀ i ∈ vs1, i ∈ own.map (·.2))
    (hg : ∀ (s : Shared) (H : Hp) (C : Addr) (cl : List (Str × Addr)) (fp : List Addr), PG (X.blk s H scope (compEnvC scope cl C X.env) fp) tg (gT X.K tgt)) (hi1 : ∀ (s : Shared) (H : Hp) (C : Addr) (cl : List (Str × Addr)) (fp : List Addr), PI (X.blk s H scope (compEnvC scope cl C X.env) fp) tg1 iter1 (tI X.K g noW Fj))
    (hg1 : ∀ (s : Shared) (H : Hp) (C : Addr) (cl : List (Str × Addr)) (fp : List Addr), PG (X.blk s H scope (compEnvC scope cl C X.env) fp) tg1 (gT X.K tgt1)) (he : ∀ (s : Shared) (H : Hp) (C : Addr) (cl : List (Str × Addr)) (fp : List Addr), PE (X.blk s H scope (compEnvC scope cl C X.env) fp) elt (tE X.K g noW Fe))
    (hs : ∀ x, foldedSetIterable iter X.env x = pure x) (hs1 : ∀ env x, foldedSetIterable iter1 env x = pure x) :
    PE X (.ListComp elt [⟨tg, iter, [], 0⟩, ⟨tg1, iter1, [], 0⟩] scope pos) (tE X.K g W fun env st => (Fi env st).bind fun w st => compLoop2 (wipeE env (own.map (·.2))) tgt w (innerF Fj tgt1 vs1 Fe) w.ds [] st) :=
  peW (pe_lc2 hc hN hi ok hv2 hg (fun _ _ _ _ _ => ts_nil) hi1 hg1 (fun _ _ _ _ _ => ts_nil) he hs hs1) fun σ H Q h => lc2_go hv hv1 h
end
end Pd
end
section
set_option Elab.async false
set_option linter.all false
set_option maxRecDepth 100000
set_option autoImplicit false
/-! What the match asks of the program's own expressions; the place where code runs. -/
namespace Pd
open PySem PySem.Spec PyProof.Rows L2

def notStar : Expr → Bool
  | .Starred _ _ => false
  | _ => true
theorem star_cons {e : Expr} {es : List Expr} {env : PySem.Env} (h : notStar e = true) : starEach (e :: es) env = (false, eval e env) :: starEach es env := by
  cases e <;> first | rfl | cases h
theorem star_plain {pos : Pos} {env : PySem.Env} : ∀ {es : List Expr}, es.all notStar = true → (backTo pos (starEach es env)).any (·.1) = false
  | [], _ => rfl
  | e :: es, h => by
    have h' : (notStar e && es.all notStar) = true := h
    rw [Bool.and_eq_true] at h'
    rw [star_cons h'.1]
    show (false || (backTo pos (starEach es env)).any (·.1)) = false
    rw [star_plain h'.2]
    rfl
def plainIx : Expr → Bool
  | .Slice _ _ none _ => false
  | _ => true
theorem plainIx_ok {e : Expr} (h : plainIx e = true) : PlainIx e := by
  intro o i
  cases e with
  | Slice l u s p =>
    cases s with
    | none => cases h
    | some _ => rfl
  | _ => rfl
def plainBase : Expr → Bool
  | .Call _ [] [] _ => false
  | _ => true
theorem plainBase_ok {o : Expr} {nm : Str} {env : PySem.Env} {w : Sem Value} (h : plainBase o = true) : attributeBase o nm env w = w := by
  cases o with
  | Call f as ks q =>
    cases as with
    | nil =>
      cases ks with
      | nil => cases h
      | cons _ _ => cases f <;> rfl
    | cons _ _ => cases f <;> rfl
  | _ => rfl
def noComp : Expr → Bool
  | .ListComp _ _ _ _ => false
  | .SetComp _ _ _ _ => false
  | .DictComp _ _ _ _ _ => false
  | _ => true
theorem noSwap {e : Expr} {t : Option Expr} {l : Nat} {env : PySem.Env} (h : noComp e = true) : swapsWith e t l env = pure false := by
  cases e <;> first | rfl | cases h
theorem noSwaps {e : Expr} {ts : List Expr} {l : Nat} {env : PySem.Env} (h : noComp e = true) : swapsWithSole ts e l env = pure false := by
  cases ts with
  | nil => rfl
  | cons t ts =>
    cases ts with
    | nil => exact noSwap h
    | cons _ _ => rfl
def plainT : Expr → Bool
  | .UnaryOp .Not _ _ => false
  | .BoolOp _ _ _ => false
  | .IfExp _ _ _ _ => false
  | .Compare _ _ _ _ => false
  | _ => true
theorem plainT_ok {e : Expr} {env : PySem.Env} (h : plainT e = true) (whole : Sem Value) : isTrue e env whole = (do let v ← whole; standAt e.pos; holding [v] (truthy v)) := by
  cases e with
  | UnaryOp op _ _ => cases op <;> first | rfl | cases h
  | BoolOp _ _ _ => cases h
  | IfExp _ _ _ _ => cases h
  | Compare _ _ _ _ => cases h
  | _ => rfl
def notSet : Expr → Bool
  | .Set _ _ _ => false
  | _ => true
theorem notSet_ok {e : Expr} {env : PySem.Env} (h : notSet e = true) : ∀ x, foldedSetIterable e env x = pure x := by
  intro x
  cases e <;> first | rfl | cases h
theorem notSet_any {e : Expr} (h : notSet e = true) : ∀ env x, foldedSetIterable e env x = pure x := fun env => notSet_ok h
theorem notSet_mark {op : CmpOp} {e : Expr} (h : notSet e = true) : behindInMarks op e = false := by
  cases e <;> first | rfl | cases h
theorem notSet_last {o1 o2 : CmpOp} {e f : Expr} (h : notSet f = true) : lastMarks [o1, o2] [e, f] = false := notSet_mark h

/-! ### the place -/
/-- what is known of the place: the scope, the slots' names, the names whose cells are its own, whether it may raise -/
structure Pl where
  g : Sig
  sc : Scope
  N : List Str
  fn : Str → Bool
def Pl.blk (p : Pl) (scope : Scope) : Pl := { p with sc := relS scope p.sc, fn := fun x => scope.names.lookup x == some .cell }
def vis (sc : Scope) (x : Str) : Bool := match sc.names.lookup x with
  | some .local => true
  | some .cell => true
  | some .free => true
  | _ => false
theorem vis_ok {sc : Scope} {x : Str} (h : vis sc x = true) : Vis sc x := by
  unfold vis at h
  unfold Vis
  split at h <;> first | (rename_i e; simp [e]; done) | cases h
def okN (x : Str) : Bool := !(x == ("__debug__" : Str)) && !(x == ("__classdict__" : Str)) && !(x == ("__name__" : Str))
theorem okN_ok {x : Str} (h : okN x = true) : (x == ("__debug__" : Str)) = false ∧ (x == ("__classdict__" : Str)) = false ∧ x ≠ ("__name__" : Str) := by
  unfold okN at h
  simp only [Bool.and_eq_true, Bool.not_eq_true'] at h
  exact ⟨h.1.1, h.1.2, fun z => by rw [z] at h; simp at h⟩
def slotOk (p : Pl) (i : Nat) (x : Str) : Bool := decide (p.N[i]? = some x) && vis p.sc x && okN x
def tgtOk (p : Pl) (i : Nat) (x : Str) : Bool := decide (p.N[i]? = some x) && match p.sc.names.lookup x with
  | some .local => true
  | some .cell => p.fn x
  | _ => false
def glob (p : Pl) (x : Str) : Bool := okN x && match p.sc.names.lookup x with
  | some .globalImplicit => true
  | _ => false
/-- the defs that may be called -/
def FnsOk (X : Cx) (g : Sig) (cl : Fn) (k : Nat) : Prop := ∀ (x : Str) (i n : Nat), g.names.lookup x = some (i, n) → ∃ (f : Addr) (fd : FuncData) (ps : List Str), X.mg x = some (.ref f) ∧ PySem.W.keepIn X.K (.ref f) = true ∧ Binds X.K fd ps [] ∧ ps.length = n ∧
  FnOk X.prog X.w X.K X.mg X.base (L2.CX X.prog X.w) k f fd ps (spF X.K g n (cl i))
/-- the classes that may be used -/
structure ClsOk (X : Cx) (g : Sig) (cl : Fn) (k : Nat) : Prop where
  nm : ∀ x c, (x, c) ∈ g.clsN → X.mg x = some (.ref (g.T.cls c))
  mks : ∀ c i n, (c, i, n) ∈ g.mks → ∃ (f : Addr) (fd : FuncData) (ps : List Str), Mk X.K (g.T.cls c) f ∧ Binds X.K fd ps [] ∧ FnOk X.prog X.w X.K X.mg X.base (L2.CX X.prog X.w) k f fd ps (spF X.K g (n + 1) (cl i))
  mt : ∀ c m i n, (c, m, i, n) ∈ g.meths → Cls X.K (g.T.cls c) ∧ ∃ (f : Addr) (fd : FuncData) (ps : List Str), Meth X.K (g.T.cls c) m f ∧ Binds X.K fd ps [] ∧ FnOk X.prog X.w X.K X.mg X.base (L2.CX X.prog X.w) k f fd ps (spF X.K g (n + 1) (cl i))
  fl : ∀ c f, (c, f) ∈ g.flds → Cls X.K (g.T.cls c) ∧ NoAttr X.K (g.T.cls c) f
structure Cok (X : Cx) (p : Pl) (cl : Fn) (n : Nat) (W : WX) : Prop where
  calm : X.calm = true
  sc : X.env.scope = p.sc
  nm : X.N = p.N
  nd : p.N.Nodup
  fn : X.fn = p.fn
  room : Room (3 * n + 2) X.A
  tk : Takes X W
  fns : FnsOk X p.g cl (3 * n)
  kl : ClsOk X p.g cl (3 * n)
  free : ∀ x ∈ p.g.free, X.mg x = none
  ofx : OfX p.g.T X
  con : ∀ x d, p.g.consts.lookup x = some d → ∃ v u, X.mg x = some u ∧ RelV v u ∧ ∀ ρ H, VR X.K ρ H v d
section
variable {X : Cx} {p : Pl} {cl : Fn} {n : Nat} {W : WX} (C : Cok X p cl n W)
include C
theorem Cok.units : X.A.units + 200 < cLine := by have := C.room.un; omega
theorem Cok.slot {i : Nat} {x : Str} (h : slotOk p i x = true) : X.N[i]? = some x ∧ Vis X.env.scope x ∧ (x == ("__debug__" : Str)) = false ∧ (x == ("__classdict__" : Str)) = false := by
  unfold slotOk at h
  simp only [Bool.and_eq_true, decide_eq_true_eq] at h
  exact ⟨by rw [C.nm]; exact h.1.1, by rw [C.sc]; exact vis_ok h.1.2, (okN_ok h.2).1, (okN_ok h.2).2.1⟩
theorem Cok.tgt {i : Nat} {x : Str} (h : tgtOk p i x = true) : X.N[i]? = some x ∧ L2.Loc X.env.scope x ∧ (X.fn x = true ∨ X.env.scope.names.lookup x = some .local) := by
  unfold tgtOk at h
  rw [Bool.and_eq_true, decide_eq_true_eq] at h
  refine ⟨by rw [C.nm]; exact h.1, ?_⟩
  rw [C.sc, C.fn]
  obtain ⟨_, h⟩ := h
  unfold L2.Loc
  split at h
  · rename_i e
    exact ⟨.inl e, .inr e⟩
  · rename_i e
    exact ⟨.inr e, .inl h⟩
  · cases h
theorem Cok.gl {x : Str} (h : glob p x = true) : Gl X x ∧ (x == ("__debug__" : Str)) = false ∧ x ≠ ("__name__" : Str) := by
  unfold glob at h
  rw [Bool.and_eq_true] at h
  refine ⟨?_, (okN_ok h.1).1, (okN_ok h.1).2.2⟩
  unfold Gl Env.kindOf
  rw [C.sc]
  obtain ⟨_, h⟩ := h
  split at h
  · assumption
  · cases h
theorem Cok.blk {s : Shared} {H : Hp} {scope : Scope} {Cl : Addr} {cls : List (Str × Addr)} {fp : List Addr} : Cok (X.blk s H scope (compEnvC scope cls Cl X.env) fp) (p.blk scope) cl n noW :=
  ⟨C.calm, by show relS scope X.env.scope = relS scope p.sc; rw [C.sc], C.nm, C.nd, rfl, C.room, takes0, C.fns, ⟨C.kl.nm, C.kl.mks, C.kl.mt, C.kl.fl⟩, C.free, ⟨C.ofx.P, C.ofx.w⟩, C.con⟩
end
end Pd
end
section
set_option Elab.async false
set_option linter.all false
set_option maxRecDepth 100000
set_option autoImplicit false
/-! isinstance; sorted by a def. -/
namespace Pd
open PySem PySem.Spec PyProof.Rows L2
def tyN : Ty → String
  | .int => "int"
  | .bool => "bool"
  | .str => "str"
  | .list => "list"
  | .tuple => "tuple"
theorem kb_non (t : Ty) : kitB "NoneType" (tyN t) = some false := by cases t <;> decide +kernel
theorem kb_bl (t : Ty) : kitB "bool" (tyN t) = some (match t with | .int => true | .bool => true | _ => false) := by cases t <;> decide +kernel
theorem kb_int (t : Ty) : kitB "int" (tyN t) = some (match t with | .int => true | _ => false) := by cases t <;> decide +kernel
theorem kb_str (t : Ty) : kitB "str" (tyN t) = some (match t with | .str => true | _ => false) := by cases t <;> decide +kernel
theorem kb_list (t : Ty) : kitB "list" (tyN t) = some (match t with | .list => true | _ => false) := by cases t <;> decide +kernel
theorem kb_tuple (t : Ty) : kitB "tuple" (tyN t) = some (match t with | .tuple => true | _ => false) := by cases t <;> decide +kernel
theorem sqT_ty {K : PySem.W.Frag} {H : Hp} {a : Addr} {xs : List V} (h : SqT K H a xs) : TyX K H (.ref a) (.type "tuple") := by
  rcases h with (h | ⟨o, h⟩) | ⟨o, its, n, h, hc, _⟩
  · exact .base (.tup h)
  · exact .fTuple h
  · exact .kTuple h hc
theorem fzL_ty {K : PySem.W.Frag} {H : Hp} {a : Addr} {xs : List V} (h : FzL K H a xs) : TyX K H (.ref a) (.type "list") := by
  rcases h with ⟨o, h⟩ | ⟨o, its, n, h, hc, _⟩
  · exact .base (.frz h)
  · exact .kList h hc
/-- what isinstance tells -/
theorem ty_of {K : PySem.W.Frag} {T : Tb} {ρ : List Addr} {H : Hp} {st : Store} {v : V} {d : D} (R : Rep K T ρ st H) (r : VR K ρ H v d) {t0 : Ty} {b0 : Bool} (h0 : isTy d st t0 = some b0) :
    ∃ tv, TyX K H v tv ∧ ∀ t b, isTy d st t = some b → PySem.W.kitOne K tv (.type (tyN t)) = some b := by
  cases r with
  | non => exact ⟨_, .base .non, fun t b h => by rw [kit_ty (kb_non t), ← h]; cases t <;> rfl⟩
  | bl x => exact ⟨_, .base (.bl x), fun t b h => by rw [kit_ty (kb_bl t), ← h]; cases t <;> rfl⟩
  | int x => exact ⟨_, .base (.int x), fun t b h => by rw [kit_ty (kb_int t), ← h]; cases t <;> rfl⟩
  | str x => exact ⟨_, .base (.str x), fun t b h => by rw [kit_ty (kb_str t), ← h]; cases t <;> rfl⟩
  | tup ht _ => exact ⟨_, sqT_ty ht, fun t b h => by rw [kit_ty (kb_tuple t), ← h]; cases t <;> rfl⟩
  | frz ht _ => exact ⟨_, fzL_ty ht, fun t b h => by rw [kit_ty (kb_list t), ← h]; cases t <;> rfl⟩
  | ref hr =>
    rename_i n a
    obtain ⟨c, hc, rc⟩ := R.at hr
    unfold isTy at h0
    simp only [hc] at h0
    cases c with
    | lst ds =>
      obtain ⟨xs, hx, _⟩ := rc
      refine ⟨_, .base (.lst hx), fun t b h => ?_⟩
      unfold isTy at h
      simp only [hc] at h
      rw [kit_ty (kb_list t), ← h]
      all_goals cases t <;> rfl
    | _ => cases h0
theorem any_kit {K : PySem.W.Frag} {tv : Value} {d : D} {st : Store} (h : ∀ t b, isTy d st t = some b → PySem.W.kitOne K tv (.type (tyN t)) = some b) :
    ∀ (ts : List Ty) (bs : List Bool), ts.mapM (fun t => isTy d st t) = some bs → PySem.W.kitAny K tv (ts.map fun t => .type (tyN t)) = some (bs.any id)
  | [], bs, e => by
    simp at e
    subst e
    rfl
  | t :: ts, bs, e => by
    rw [List.mapM_cons] at e
    cases h1 : isTy d st t with
    | none =>
      rw [h1] at e
      cases e
    | some b =>
      rw [h1] at e
      cases h2 : ts.mapM (fun t => isTy d st t) with
      | none =>
        rw [h2] at e
        cases e
      | some bs' =>
        rw [h2] at e
        cases e
        refine kitAny_cons (h t b h1) (fun z => ?_) (fun z => ?_)
        · subst z
          exact any_kit h ts bs' h2
        · subst z
          rfl
section
variable {X : Cx} {p : Pl} {cl : Fn} {n : Nat} {W : WX} {a : Expr} {Fa : Env → Store → R D} {pos p1 p2 p3 : Pos}
theorem mapM_some {d : D} {st : Store} {ts : List Ty} {bs : List Bool} (h : ts.mapM (fun t => isTy d st t) = some bs) : ts = [] ∨ ∃ t b, isTy d st t = some b := by
  cases ts with
  | nil => exact .inl rfl
  | cons t ts =>
    rw [List.mapM_cons] at h
    cases h1 : isTy d st t with
    | none =>
      rw [h1] at h
      cases h
    | some b => exact .inr ⟨t, b, h1⟩
def tyOf (t : Ty) : V := .ty (tyN t)
theorem boot_ty (t : Ty) : bootBuiltins (Str.ofString (tyN t)) = some (.type (tyN t)) := by cases t <;> decide +kernel
theorem pa_tys (hf : ∀ t : Ty, X.mg (Str.ofString (tyN t)) = none) : ∀ (xs : List Expr) (ts : List Ty), (∀ (i : Nat) (t : Ty), ts[i]? = some t → ∃ q, xs[i]? = some (.Name (Str.ofString (tyN t)) q) ∧ Gl X (Str.ofString (tyN t))) → xs.length = ts.length →
    PA X xs (fun _ H Q => Q (ts.map tyOf) H)
  | [], [], _, _ => pa_nil
  | x :: xs, t :: ts, h, hl => by
    obtain ⟨q, e, hg⟩ := h 0 t rfl
    cases e
    refine paW (pa_cons (pe_bltn hg (hf t) (boot_ty t) (v := tyOf t) rfl (by cases t <;> decide) (by cases t <;> decide)) (pa_tys hf xs ts (fun i t hi => h (i + 1) t hi) (by simpa using hl)) rfl) fun σ H Q h => h
  | [], _ :: _, _, h => by cases h
  | _ :: _, [], _, h => by cases h
theorem cls_tys {ts : List Ty} : Paired ClsV (ts.map tyOf) (ts.map fun t => Value.type (tyN t)) := by
  induction ts with
  | nil => exact .nil
  | cons t ts ih => exact .cons (.ty _) ih
theorem c_isi1 {t : Ty} (hg : Gl X "isinstance") (hm : X.mg "isinstance" = none) (hf : ∀ t : Ty, X.mg (Str.ofString (tyN t)) = none) (ht : Gl X (Str.ofString (tyN t))) (ha : PE X a ((tE X.K p.g W) Fa)) (hs : ∀ es, starEach (a :: es) X.env = (false, eval a X.env) :: starEach es X.env) :
    PE X (.Call (.Name "isinstance" p1) [a, .Name (Str.ofString (tyN t)) p2] [] pos) ((tE X.K p.g W) fun env st => (Fa env st).bind fun x st => (Pd.R.of (([t].mapM fun t => isTy x st t)) st).bind fun bs st => .ok (.bl (bs.any id)) st) := by
  have h2 := pa_tys hf [.Name (Str.ofString (tyN t)) p2] [t] (fun i u hi => by
    cases i with
    | zero =>
      cases hi
      exact ⟨p2, rfl, ht⟩
    | succ i => cases hi) rfl
  refine peW (pe_callB call_isi hg hm boot_isinstance (pa_cons ha h2 (hs _)) (by decide) (by decide) (hs _) rfl) fun σ H Q ⟨ρ, env, st, R, En, q⟩ => ?_
  refine seqX R En q fun x H1 ρ1 st1 d _ _ R1 _ rx q => ?_
  obtain ⟨bs, hb, q⟩ : ∃ bs, [t].mapM (fun t => isTy d st1 t) = some bs ∧ Post X.K p.g (relD X.K) ρ1 H1 (fun cls dx H' => W cls dx σ H') Q (.ok (.bl (bs.any id)) st1) := by
    cases e : [t].mapM (fun t => isTy d st1 t) with
    | none =>
      rw [e] at q
      exact q.elim
    | some bs =>
      rw [e] at q
      exact ⟨bs, rfl, q⟩
  rcases mapM_some hb with z | ⟨t0, b0, z⟩
  · cases z
  · obtain ⟨tv, hty, hk⟩ := ty_of R1 rx z
    have hk2 := any_kit hk [t] bs hb
    refine ⟨x, tyOf t, tv, _, bs.any id, rfl, .ty _, hty, ?_, q.here R1 (.bl _)⟩
    have hk2 : PySem.W.kitAny X.K tv [.type (tyN t)] = some (bs.any id) := hk2
    unfold PySem.W.kitAny at hk2
    cases e : PySem.W.kitOne X.K tv (.type (tyN t)) with
    | none =>
      rw [e] at hk2
      cases hk2
    | some b =>
      rw [e] at hk2
      cases b with
      | true => exact hk2
      | false => exact hk2
theorem c_isiT {ts : List Ty} {xs : List Expr} {kt : Nat} (hg : Gl X "isinstance") (hm : X.mg "isinstance" = none) (hf : ∀ t : Ty, X.mg (Str.ofString (tyN t)) = none)
    (ht : ∀ (i : Nat) (t : Ty), ts[i]? = some t → ∃ q, xs[i]? = some (.Name (Str.ofString (tyN t)) q) ∧ Gl X (Str.ofString (tyN t))) (hl : xs.length = ts.length) (hz : ts.length ≤ 100) (hn : ts ≠ []) (ha : PE X a ((tE X.K p.g W) Fa)) (hs : ∀ es, starEach (a :: es) X.env = (false, eval a X.env) :: starEach es X.env) :
    PE X (.Call (.Name "isinstance" p1) [a, .Tuple xs kt p2] [] pos) ((tE X.K p.g W) fun env st => (Fa env st).bind fun x st => (Pd.R.of ((ts.mapM fun t => isTy x st t)) st).bind fun bs st => .ok (.bl (bs.any id)) st) := by
  have h2 := pe_tup (x1 := kt) (pos := p2) (pa_tys hf xs ts ht hl)
  refine peW (pe_callB call_isiT hg hm boot_isinstance (pa_cons ha (pa_cons h2 pa_nil rfl) (hs _)) (by decide) (by decide) (hs _) rfl) fun σ H Q ⟨ρ, env, st, R, En, q⟩ => ?_
  refine seqX R En q fun x H1 ρ1 st1 d _ _ R1 _ rx q => ?_
  obtain ⟨bs, hb, q⟩ : ∃ bs, ts.mapM (fun t => isTy d st1 t) = some bs ∧ Post X.K p.g (relD X.K) ρ1 H1 (fun cls dx H' => W cls dx σ H') Q (.ok (.bl (bs.any id)) st1) := by
    cases e : ts.mapM (fun t => isTy d st1 t) with
    | none =>
      rw [e] at q
      exact q.elim
    | some bs =>
      rw [e] at q
      exact ⟨bs, rfl, q⟩
  refine ⟨by rw [List.length_map]; exact Nat.le_trans hz (by rw [sizeLine_eq]; decide), fun tp htp => ?_⟩
  rcases mapM_some hb with z | ⟨t0, b0, z⟩
  · exact absurd z hn
  · have e1 : Ext ρ1 H1 ρ1 (upd H1 tp (.tup (ts.map tyOf))) := Ext.new htp
    have R2 : Rep X.K p.g.T ρ1 st1 (upd H1 tp (.tup (ts.map tyOf))) := R1.new htp
    obtain ⟨tv, hty, hk⟩ := ty_of R2 (rx.ext e1) z
    exact ⟨x, tp, _, tv, _, bs.any id, rfl, upd_same, cls_tys, hty, any_kit hk ts bs hb, (Post.ext e1 q).here R2 (.bl _)⟩
/-- sorted(xs, key=f) -/
def rKey (K : PySem.W.Frag) (g : Sig) (f : Addr) (F : D → Store → R D) : List V → List V → Hp → VK → Prop := fun xs zs H Q => ∃ x ρ st d ds ks st' E, xs = [x] ∧ zs = [.ref f] ∧ Rep K g.T ρ st H ∧ VR K ρ H x d ∧ rowsOf d st = some ds ∧ keysBy F st ds = .ok ks st' ∧ sortable ks = true ∧
  Post K g (relD K) ρ H E Q (alloc (.lst (sortK ks ds)) st)
theorem call_key (C : Cok X p cl n W) {f : Addr} {fd : FuncData} {pn : Str} {F : List D → Store → R D} (G : FnOk X.prog X.w X.K X.mg X.base (L2.CX X.prog X.w) (3 * n) f fd [pn] (spF X.K p.g 1 F)) (hb : Binds X.K fd [pn] []) :
    CallRK X (.builtin "sorted") [Str.ofString "key"] (rKey X.K p.g f fun d st => F [d] st) := by
  intro pins s σ H xs zs us ws Q I r rz h
  obtain ⟨x, ρ, st, d, ds, ks, st', E, rfl, rfl, R, rx, hd, hk, hs, q⟩ := h
  cases r with
  | cons r rr =>
    cases rr
    cases rz with
    | cons rf rr =>
      cases rr
      cases (show _ = Value.ref f from rf)
      exact sort_key C.ofx C.calm G hb C.room C.units I r R rx hd hk hs q
theorem c_sortk (C : Cok X p cl n W) {i : Nat} {f : Addr} {fd : FuncData} {pn x : Str} {kp : Pos} (G : FnOk X.prog X.w X.K X.mg X.base (L2.CX X.prog X.w) (3 * n) f fd [pn] (spF X.K p.g 1 (cl i))) (hb : Binds X.K fd [pn] [])
    (hg : Gl X "sorted") (hm : X.mg "sorted" = none) (gx : Gl X x) (mx : X.mg x = some (.ref f)) (dx : (x == ("__debug__" : Str)) = false) (ha : PE X a ((tE X.K p.g W) Fa)) (hs : starEach [a] X.env = [(false, eval a X.env)]) :
    PE X (.Call (.Name "sorted" p1) [a] [⟨some "key", .Name x p2, kp⟩] pos) ((tE X.K p.g W) fun env st => (Fa env st).bind fun x st1 => (Pd.R.of (rowsOf x st1) st1).bind fun ds st1 => (keysBy (fun d st => cl i [d] st) st1 ds).still.bind fun ks st1 =>
      if sortable ks then (alloc (.lst (sortK ks ds)) st1).bind fun d st2 => gc st d st2 else .err) := by
  refine peW (pe_callBK (call_key C G hb) hg hm boot_sorted (pa_cons ha pa_nil hs) (pk_cons (nm := some "key") (kpos := kp) (pe_glob (v := V.ref f) gx mx rfl dx) pk_nil) (by decide) (by decide) (by rw [hs]; rfl) (by rw [hs]; rfl) rfl rfl rfl) fun σ H Q ⟨ρ, env, st, R, En, q⟩ => ?_
  refine ⟨ρ, env, st, R, En, Post.mono (post_bind_inv (rel := relD X.K) q) ?_⟩
  rintro v H1 ⟨d, st1, ρ1, e1, ex1, R1, r1, q⟩
  obtain ⟨ds, hd, q⟩ : ∃ ds, rowsOf d st1 = some ds ∧ Post X.K p.g (relD X.K) ρ H (fun cls dx H' => W cls dx σ H') Q ((keysBy (fun d st => cl i [d] st) st1 ds).still.bind fun ks st1 =>
      if sortable ks then (alloc (.lst (sortK ks ds)) st1).bind fun d st2 => gc st d st2 else .err) := by
    cases e : rowsOf d st1 with
    | none =>
      rw [e] at q
      exact q.elim
    | some ds =>
      rw [e] at q
      exact ⟨ds, rfl, q⟩
  obtain ⟨ks, st2, hk, q5⟩ := post_still q
  obtain ⟨so, q6⟩ := Post.ite q5
  have e2 := (keysBy_len hk).2
  subst e2
  have so : sortable ks = true := so
  show rKey X.K p.g f _ [v] [V.ref f] H1 Q
  refine ⟨v, ρ1, st2, d, ds, ks, st2, (fun cls dx H' => W cls dx σ H'), rfl, rfl, R1, r1, hd, hk, so, ?_⟩
  intro u H2 ρ2 ex2 R2 r2
  exact gc_post R (ex1.trans ex2) R2 r2 q6
end
end Pd
end
section
set_option Elab.async false
set_option linter.all false
set_option maxRecDepth 100000
set_option autoImplicit false
/-! The match of an expression with the program's own, and that it is sound. -/
namespace Pd
open PySem PySem.Spec PyProof.Rows L2

def bifN : Bif → String
  | .len => "len"
  | .tuple => "tuple"
  | .list => "list"
  | .int => "int"
  | .all => "all"
  | .any => "any"
  | .sorted => "sorted"
  | .sum => "sum"
  | .max => "max"
  | .min => "min"
  | .abs => "abs"
  | .str => "str"
  | .set => "set"
def Bif.ready : Bif → Bool
  | .len => true
  | .tuple => true
  | .list => true
  | .int => true
  | .all => true
  | .any => true
  | .sorted => true
  | .set => true
  | _ => false
def globB (p : Pl) (x : Str) : Bool := glob p x && p.g.free.contains x
def namesAt (N : List Str) : List Nat → List (Str × Nat)
  | [] => []
  | i :: is => (N.getD i "", i) :: namesAt N is
theorem namesAt_snd (N : List Str) : ∀ is : List Nat, (namesAt N is).map (·.2) = is
  | [] => rfl
  | i :: is => by
    show i :: (namesAt N is).map (·.2) = i :: is
    rw [namesAt_snd N is]
def mNames (p : Pl) : List Nat → List Expr → Bool
  | [], [] => true
  | i :: is, .Name x _ :: xs => tgtOk p i x && mNames p is xs
  | _, _ => false
def mT (p : Pl) : Tg → Expr → Bool
  | .one i, .Name x _ => tgtOk p i x
  | .many is, .Tuple xs _ _ => mNames p is xs
  | _, _ => false
def mTys (p : Pl) : List Ty → List Expr → Bool
  | [], [] => true
  | t :: ts, .Name x _ :: xs => decide (x = Str.ofString (tyN t)) && glob p x && mTys p ts xs
  | _, _ => false
def tysFree (p : Pl) : Bool := p.g.free.contains (Str.ofString "int") && p.g.free.contains (Str.ofString "bool") && p.g.free.contains (Str.ofString "str") && p.g.free.contains (Str.ofString "list") && p.g.free.contains (Str.ofString "tuple")
def mIsi (p : Pl) : Bool → List Ty → Expr → Bool
  | true, [t], c => mTys p [t] [c]
  | false, t :: ts, .Tuple xs _ _ => decide ((t :: ts).length ≤ 100) && mTys p (t :: ts) xs
  | _, _, _ => false
def kw1 : List Keyword → Option (Str × Str)
  | [⟨some k, .Name w _, _⟩] => some (k, w)
  | _ => none
def gen1 : List Comprehension → Option (Expr × Expr × List Expr)
  | [⟨t, i, ifs, k⟩] => if k = 0 then some (t, i, ifs) else none
  | _ => none
def gen2 : List Comprehension → Option (Expr × Expr × Expr × Expr)
  | [⟨t, i, [], k⟩, ⟨t2, i2, [], k2⟩] => if k = 0 ∧ k2 = 0 then some (t, i, t2, i2) else none
  | _ => none
theorem gen2_eq {gs : List Comprehension} {t i t2 i2 : Expr} (h : gen2 gs = some (t, i, t2, i2)) : gs = [⟨t, i, [], 0⟩, ⟨t2, i2, [], 0⟩] := by
  unfold gen2 at h
  split at h
  · split at h
    · rename_i e
      cases h
      rw [e.1, e.2]
    · cases h
  · cases h
theorem kw1_eq {kws : List Keyword} {k w : Str} (h : kw1 kws = some (k, w)) : ∃ q r, kws = [⟨some k, .Name w q, r⟩] := by
  unfold kw1 at h
  split at h
  · cases h
    exact ⟨_, _, rfl⟩
  · cases h
theorem gen1_eq {gs : List Comprehension} {t i : Expr} {ifs : List Expr} (h : gen1 gs = some (t, i, ifs)) : gs = [⟨t, i, ifs, 0⟩] := by
  unfold gen1 at h
  split at h
  · split at h
    · rename_i e
      cases h
      rw [e]
    · cases h
  · cases h
def methc : Expr → Option (Expr × Str × Pos × Expr × List Expr × Pos)
  | .Call (.Attribute o m ap) (z :: zs) [] cp => some (o, m, ap, z, zs, cp)
  | _ => none
theorem methc_eq {x o z : Expr} {zs : List Expr} {m : Str} {ap cp : Pos} (h : methc x = some (o, m, ap, z, zs, cp)) : x = .Call (.Attribute o m ap) (z :: zs) [] cp := by
  unfold methc at h
  split at h
  · cases h
    rfl
  · cases h
def It.isRng : It → Bool
  | .seq _ => false
  | _ => true
theorem meth_form {pos : Pos} {es : List Expr} {env : PySem.Env} (h : es.all notStar = true) (hl : es.length < 30) : methodCallForm es.length (backTo pos (starEach es env)) (backToKw pos (keywordEach [] env)) = true := by
  have a : (backTo pos (starEach es env)).all (!·.1) = true := by
    have := star_plain (pos := pos) (env := env) h
    rw [List.all_eq_true]
    rw [List.any_eq_false] at this
    intro x hx
    have := this x hx
    simpa using this
  unfold methodCallForm
  rw [a]
  show (true && true && decide (es.length + 0 < 30)) = true
  rw [decide_eq_true (by omega)]
  rfl
mutual
def mE : E → Pl → Expr → Bool
  | .slot i, p, x => match x with
    | .Name y _ => slotOk p i y
    | _ => false
  | .cint i, p, x => match x with
    | .Constant (.int j) _ _ => decide (i = j)
    | _ => false
  | .cstr s, p, x => match x with
    | .Constant (.str t) _ _ => decide (s = t)
    | _ => false
  | .cbl b, p, x => match x with
    | .Constant (.bool c) _ _ => decide (b = c)
    | _ => false
  | .cnon, p, x => match x with
    | .Constant .none _ _ => true
    | _ => false
  | .con d, p, x => match x with
    | .Name y _ => glob p y && match p.g.consts.lookup y with
      | some e => d.same e
      | none => false
    | _ => false
  | .tup es, p, x => match x with
    | .Tuple xs _ _ => mEs es p xs
    | _ => false
  | .lst es, p, x => match x with
    | .List xs _ => mEs es p xs
    | _ => false
  | .bin op a b, p, x => match x with
    | .BinOp l o r _ => decide (o = pyB op) && mE a p l && mE b p r
    | _ => false
  | .neg a, p, x => match x with
    | .UnaryOp .USub y _ => mE a p y
    | _ => false
  | .not a, p, x => match x with
    | .UnaryOp .Not y _ => mE a p y
    | _ => false
  | .cmp op a b, p, x => match x with
    | .Compare l [o] [r] _ => decide (o = pyC op) && notSet r && mE a p l && mE b p r
    | _ => false
  | .chain o1 o2 a b c, p, x => match x with
    | .Compare l [q1, q2] [m, r] _ => decide (q1 = pyC o1) && decide (q2 = pyC o2) && notSet r && mE a p l && mE b p m && mE c p r
    | _ => false
  | .band es, p, x => match x with
    | .BoolOp .And xs _ => mEs es p xs && !xs.isEmpty
    | _ => false
  | .bor es, p, x => match x with
    | .BoolOp .Or xs _ => mEs es p xs && !xs.isEmpty
    | _ => false
  | .ite c a b, p, x => match x with
    | .IfExp q y z _ => mE c p q && mE a p y && mE b p z
    | _ => false
  | .idx a i, p, x => match x with
    | .Subscript l r _ => plainIx r && mE a p l && mE i p r
    | _ => false
  | .slice a lo hi, p, x => match x with
    | .Subscript l (.Slice u v none _) _ => mE a p l && mEo lo p u && mEo hi p v
    | _ => false
  | .call f es, p, x => match x with
    | .Call (.Name y _) (z :: zs) [] _ => glob p y && (match p.g.names.lookup y with
      | some (i, n) => decide (i = f) && decide (n = (z :: zs).length)
      | none => false) && (z :: zs).all notStar && mEs es p (z :: zs)
    | _ => false
  | .bfn b es, p, x => match x with
    | .Call (.Name y _) (z :: zs) [] _ => decide (y = Str.ofString (bifN b)) && b.ready && globB p y && (z :: zs).all notStar && mEs es p (z :: zs)
    | _ => false
  | .isi a one ts, p, x => match x with
    | .Call (.Name y _) [z, c] [] _ => decide (y = Str.ofString "isinstance") && globB p y && tysFree p && notStar z && mE a p z && mIsi p one ts c
    | _ => false
  | .sortk a f, p, x => match x with
    | .Call (.Name y _) [z] kws _ => match kw1 kws with
      | some (k, w) => decide (y = Str.ofString "sorted") && decide (k = Str.ofString "key") && globB p y && notStar z && glob p w && (match p.g.names.lookup w with
        | some (i, n) => decide (i = f) && decide (n = 1)
        | none => false) && mE a p z
      | none => false
    | _ => false
  | .comp elt tg it cond own, p, x => match x with
    | .ListComp e gs scope _ => match gen1 gs with
      | some (t, i, ifs) => notSet i && blkC p.N p.sc scope (namesAt p.N own) && tg.slots.all (own.contains ·) && mT (p.blk scope) tg t && mIt it p i && mC cond (p.blk scope) ifs && mE elt (p.blk scope) e
      | none => false
    | _ => false
  | .dnew, p, x => match x with
    | .Dict [] [] _ => true
    | _ => false
  | .fld c a f, p, x => match x with
    | .Attribute o g _ => decide (g = f) && p.g.flds.contains (c, f) && plainBase o && mE a p o
    | _ => false
  | .mk c f es, p, x => match x with
    | .Call (.Name y _) (z :: zs) [] _ => glob p y && p.g.clsN.contains (y, c) && p.g.mks.contains (c, f, (z :: zs).length) && (z :: zs).all notStar && mEs es p (z :: zs)
    | _ => false
  | .meth c a m f es, p, x => match methc x with
    | some (o, mm, ap, z, zs, cp) => decide (mm = m) && p.g.meths.contains (c, m, f, (z :: zs).length) && plainBase o && (z :: zs).all notStar && decide ((z :: zs).length < 30) && ap.endLine == cp.line && mE a p o && mEs es p (z :: zs)
    | none => false
  | .lrng it, p, x => match x with
    | .Call (.Name y _) [z] [] _ => decide (y = Str.ofString "list") && globB p y && it.isRng && mIt it p z
    | _ => false
  | .comp2 elt tg it tg2 it2 own vs, p, x => match x with
    | .ListComp e gs scope _ => match gen2 gs with
      | some (t, i, t2, i2) => notSet i && notSet i2 && blkC p.N p.sc scope (namesAt p.N own) && tg.slots.all (own.contains ·) && tg2.slots.all (vs.contains ·) && vs.all (own.contains ·) && mT (p.blk scope) tg t && mIt it p i && mIt it2 (p.blk scope) i2 && mT (p.blk scope) tg2 t2 && mE elt (p.blk scope) e
      | none => false
    | _ => false
  | .snew, _, _ => false
  | .scomp elt tg it cond own, p, x => match x with
    | .SetComp e gs scope _ => match gen1 gs with
      | some (t, i, ifs) => notSet i && blkC p.N p.sc scope (namesAt p.N own) && tg.slots.all (own.contains ·) && mT (p.blk scope) tg t && mIt it p i && mC cond (p.blk scope) ifs && mE elt (p.blk scope) e
      | none => false
    | _ => false
def mEs : Es → Pl → List Expr → Bool
  | .nil, _, xs => match xs with
    | [] => true
    | _ => false
  | .cons e es, p, xs => match xs with
    | x :: xs => notStar x && mE e p x && mEs es p xs
    | _ => false
def mEo : Eo → Pl → Option Expr → Bool
  | .none, _, x => match x with
    | none => true
    | _ => false
  | .some e, p, x => match x with
    | some x => mE e p x
    | _ => false
def mC : Eo → Pl → List Expr → Bool
  | .none, _, x => match x with
    | [] => true
    | _ => false
  | .some e, p, x => match x with
    | [x] => mE e p x
    | _ => false
def mIt : It → Pl → Expr → Bool
  | .seq e, p, x => mE e p x
  | .rng1 e, p, x => match x with
    | .Call (.Name y _) [z] [] _ => decide (y = Str.ofString "range") && globB p y && notStar z && mE e p z
    | _ => false
  | .rng2 a b, p, x => match x with
    | .Call (.Name y _) [z, w] [] _ => decide (y = Str.ofString "range") && globB p y && notStar z && notStar w && mE a p z && mE b p w
    | _ => false
end
theorem and3 {a b c : Bool} (h : (a && b && c) = true) : a = true ∧ b = true ∧ c = true := by
  simp only [Bool.and_eq_true] at h
  exact ⟨h.1.1, h.1.2, h.2⟩
section
variable {X : Cx} {p : Pl} {cl : Fn} {n : Nat} {W : WX} (C : Cok X p cl n W)
include C
theorem Cok.glB {x : Str} (h : globB p x = true) : Gl X x ∧ X.mg x = none := by
  obtain ⟨h1, h2⟩ := and2 h
  exact ⟨(C.gl h1).1, C.free x (List.contains_iff_mem.mp h2)⟩
theorem Cok.pgs : ∀ {is : List Nat} {xs : List Expr}, mNames p is xs = true → PGs X xs (gNames is) ∧ xs.length = is.length ∧ (assignEach xs X.env).length = is.length ∧ (assignEach xs X.env).findIdx? (·.1) = none
  | [], [], _ => ⟨pgs_nil, rfl, rfl, rfl⟩
  | i :: is, x :: xs, h => by
    cases x with
    | Name y q =>
      obtain ⟨h1, h2⟩ := and2 (show (tgtOk p i y && mNames p is xs) = true from h)
      obtain ⟨a, b, c, d⟩ := Cok.pgs h2
      obtain ⟨t1, t2, t3⟩ := C.tgt h1
      refine ⟨pgs_cons (pg_name (by rw [C.nm]; exact C.nd) t1 t2 t3) a rfl, by rw [List.length_cons, List.length_cons, b], ?_, ?_⟩
      · show (assignEach xs X.env).length + 1 = is.length + 1
        rw [c]
      · show ((false, _) :: assignEach xs X.env).findIdx? (·.1) = none
        rw [List.findIdx?_cons, d]
        rfl
    | _ => cases h
  | [], _ :: _, h => by cases h
  | _ :: _, [], h => by cases h
theorem Cok.tg {t : Tg} {x : Expr} (h : mT p t x = true) : PG X x (gT X.K t) := by
  cases t with
  | one i =>
    cases x with
    | Name y q =>
      obtain ⟨t1, t2, t3⟩ := C.tgt h
      exact pg_name (by rw [C.nm]; exact C.nd) t1 t2 t3
    | _ => cases h
  | many is =>
    cases x with
    | Tuple xs k q =>
      obtain ⟨a, _, b, c⟩ := Cok.pgs C (show mNames p is xs = true from h)
      exact pg_tup C.calm a b c
    | _ => cases h
theorem Cok.tys : ∀ {ts : List Ty} {xs : List Expr}, mTys p ts xs = true → (∀ (i : Nat) (t : Ty), ts[i]? = some t → ∃ q, xs[i]? = some (.Name (Str.ofString (tyN t)) q) ∧ Gl X (Str.ofString (tyN t))) ∧ xs.length = ts.length
  | [], [], _ => ⟨fun i t h => by simp at h, rfl⟩
  | t :: ts, x :: xs, h => by
    cases x with
    | Name y q =>
      obtain ⟨h1, h2, h3⟩ := and3 (show (decide (y = Str.ofString (tyN t)) && glob p y && mTys p ts xs) = true from h)
      obtain ⟨a, b⟩ := Cok.tys h3
      have e := of_decide_eq_true h1
      refine ⟨fun i u hi => ?_, by rw [List.length_cons, List.length_cons, b]⟩
      cases i with
      | zero =>
        cases hi
        exact ⟨q, by rw [← e]; rfl, by rw [← e]; exact (C.gl h2).1⟩
      | succ i => exact a i u hi
    | _ => cases h
  | [], _ :: _, h => by cases h
  | _ :: _, [], h => by cases h
theorem Cok.tyFree (h : tysFree p = true) (t : Ty) : X.mg (Str.ofString (tyN t)) = none := by
  unfold tysFree at h
  simp only [Bool.and_eq_true] at h
  obtain ⟨⟨⟨⟨h1, h2⟩, h3⟩, h4⟩, h5⟩ := h
  cases t
  · exact C.free _ (List.contains_iff_mem.mp h1)
  · exact C.free _ (List.contains_iff_mem.mp h2)
  · exact C.free _ (List.contains_iff_mem.mp h3)
  · exact C.free _ (List.contains_iff_mem.mp h4)
  · exact C.free _ (List.contains_iff_mem.mp h5)
theorem Cok.bf {b : Bif} {y : Str} {q pos : Pos} {z : Expr} {zs : List Expr} {Fs : Env → Store → R (List D)} (hy : y = Str.ofString (bifN b)) (hr : b.ready = true) (hg : globB p y = true) (hs : (z :: zs).all notStar = true) (ha : PA X (z :: zs) (tA X.K p.g W Fs)) :
    PE X (.Call (.Name y q) (z :: zs) [] pos) (tE X.K p.g W fun env st => (Fs env st).bind fun ds st1 => (bfn b ds st1).bind fun d st2 => gc st d st2) := by
  obtain ⟨g1, g2⟩ := C.glB hg
  obtain ⟨s1, s2⟩ := and2 (show (notStar z && zs.all notStar) = true from hs)
  have e1 := star_cons (es := zs) (env := X.env) s1
  have e2 := star_plain (pos := pos) (env := X.env) s2
  subst hy
  cases b with
  | len => exact peW (pe_callB (bf_len C.ofx) g1 g2 boot_len ha (by decide) (by decide) e1 e2) fun σ H Q h => bfn_go h
  | tuple => exact peW (pe_callTy bf_tuple g1 g2 boot_tuple ha (by decide) (by decide) e1 e2) fun σ H Q h => bfn_go h
  | list => exact peW (pe_callTy bf_list g1 g2 boot_list ha (by decide) (by decide) e1 e2) fun σ H Q h => bfn_go h
  | int => exact peW (pe_callTy bf_int g1 g2 (by decide +kernel) ha (by decide) (by decide) e1 e2) fun σ H Q h => bfn_go h
  | all => exact peW (pe_callB (bf_all C.calm) g1 g2 (by decide +kernel) ha (by decide) (by decide) e1 e2) fun σ H Q h => bfn_go h
  | any => exact peW (pe_callB (bf_any C.calm) g1 g2 (by decide +kernel) ha (by decide) (by decide) e1 e2) fun σ H Q h => bfn_go h
  | set => exact peW (pe_callTy (bf_set C.ofx C.calm C.units) g1 g2 PyProof.Rows.boot_set ha (by decide) (by decide) e1 e2) fun σ H Q h => bfn_go h
  | sorted => exact peW (pe_callB (bf_sorted C.ofx C.calm C.units) g1 g2 boot_sorted ha (by decide) (by decide) e1 e2) fun σ H Q h => bfn_go h
  | _ => cases hr
end
section
variable {cl : Fn}
theorem dens_len : ∀ {es : Es} {p : Pl} {xs : List Expr} {env : Env} {st st' : Store} {ds : List D}, mEs es p xs = true → dens cl es env st = .ok ds st' → ds.length = xs.length
  | .nil, p, xs, env, st, st', ds, h, e => by
    cases xs with
    | nil =>
      cases e
      rfl
    | cons _ _ => cases h
  | .cons e es, p, xs, env, st, st', ds, h, he => by
    cases xs with
    | nil => cases h
    | cons x xs =>
      obtain ⟨_, _, h3⟩ := and3 (show (notStar x && mE e p x && mEs es p xs) = true from h)
      have he' : ((den cl e env st).bind fun d st => (dens cl es env st).bind fun ds st => .ok (d :: ds) st) = .ok ds st' := he
      cases e1 : den cl e env st with
      | ok d s1 =>
        rw [e1] at he'
        have he2 : ((dens cl es env s1).bind fun ds st => .ok (d :: ds) st) = .ok ds st' := he'
        cases e2 : dens cl es env s1 with
        | ok ds' s2 =>
          rw [e2] at he2
          cases he2
          rw [List.length_cons, List.length_cons, dens_len h3 e2]
        | exc _ _ _ =>
          rw [e2] at he2
          cases he2
        | err =>
          rw [e2] at he2
          cases he2
      | exc _ _ _ =>
        rw [e1] at he'
        cases he'
      | err =>
        rw [e1] at he'
        cases he'
def SE (cl : Fn) (e : E) : Prop := ∀ (X : Cx) (p : Pl) (n : Nat) (W : WX) (x : Expr), Cok X p cl n W → mE e p x = true → PE X x (tE X.K p.g W (den cl e)) ∧ PT X x (tT X.K p.g W (tru (den cl e)))
def SEs (cl : Fn) (es : Es) : Prop := ∀ (X : Cx) (p : Pl) (n : Nat) (W : WX) (xs : List Expr), Cok X p cl n W → mEs es p xs = true → PA X xs (tA X.K p.g W (dens cl es)) ∧ (xs ≠ [] → ∀ pos : Pos,
  (PE X (.BoolOp .And xs pos) (tE X.K p.g W (denAnd cl es)) ∧ PW X (.BoolOp .And xs pos) (tT X.K p.g W (tru (denAnd cl es)))) ∧ (PE X (.BoolOp .Or xs pos) (tE X.K p.g W (denOr cl es)) ∧ PW X (.BoolOp .Or xs pos) (tT X.K p.g W (tru (denOr cl es)))))
def SEo (cl : Fn) (o : Eo) : Prop := ∀ (X : Cx) (p : Pl) (n : Nat) (W : WX), Cok X p cl n W → (∀ x, mEo o p x = true → PO X x (tO X.K p.g W (denPart cl o))) ∧ ∀ xs, mC o p xs = true → PTs X xs (tT X.K p.g W (denCond cl o))
def SIt (cl : Fn) (i : It) : Prop := ∀ (X : Cx) (p : Pl) (n : Nat) (W : WX) (x tg : Expr), Cok X p cl n W → mIt i p x = true → PI X tg x (tI X.K p.g W (denIt cl i))
/-- where the test is no test of its own -/
theorem pt_of {X : Cx} {g : Sig} {W : WX} {x : Expr} {F : Env → Store → R D} (h : PE X x (tE X.K g W F)) (hp : plainT x = true) : PE X x (tE X.K g W F) ∧ PT X x (tT X.K g W (tru F)) := ⟨h, t_plain h fun w => plainT_ok hp w⟩
end
end Pd
end
section
set_option Elab.async false
set_option linter.all false
set_option maxRecDepth 100000
set_option autoImplicit false
/-! The match is sound: expressions. -/
namespace Pd
open PySem PySem.Spec PyProof.Rows L2
theorem and4 {a b c d : Bool} (h : (a && b && c && d) = true) : a = true ∧ b = true ∧ c = true ∧ d = true := by
  simp only [Bool.and_eq_true] at h
  exact ⟨h.1.1.1, h.1.1.2, h.1.2, h.2⟩
section
variable {cl : Fn}
theorem s_slot (i : Nat) : SE cl (.slot i) := fun X p n W x C h => by
  cases x with
  | Name y q =>
    obtain ⟨a, b, c, d⟩ := C.slot (show slotOk p i y = true from h)
    refine pt_of (peW (pe_var a b c d) fun σ H Q ⟨ρ, env, st, R, En, q⟩ => ?_) rfl
    have q : Post X.K p.g (relD X.K) ρ H (fun cls dx H' => W cls dx σ H') Q (match env[i]? with
      | some (some d) => .ok d st
      | _ => .err) := q
    cases e : env[i]? with
    | none =>
      rw [e] at q
      exact q.elim
    | some o =>
      rw [e] at q
      cases o with
      | none => exact q.elim
      | some d =>
        obtain ⟨v, h1, h2⟩ := En.2 i d e
        exact ⟨v, h1, q.here R h2⟩
  | _ => cases h
theorem t_const {X : Cx} {g : Sig} {W : WX} {x : Expr} {v : V} {d : D} (h : PE X x (tC v)) (r : ∀ ρ H, VR X.K ρ H v d) : PE X x (tE X.K g W fun _ st => .ok d st) :=
  peW h fun σ H Q ⟨ρ, env, st, R, En, q⟩ => q.here R (r ρ H)
theorem s_cint (i : Int) : SE cl (.cint i) := fun X p n W x C h => by
  cases x with
  | Constant c k q =>
    cases c with
    | int j =>
      have e : i = j := of_decide_eq_true h
      subst e
      exact pt_of (t_const pe_int fun ρ H => .int i) rfl
    | _ => cases h
  | _ => cases h
theorem s_cstr (i : Str) : SE cl (.cstr i) := fun X p n W x C h => by
  cases x with
  | Constant c k q =>
    cases c with
    | str j =>
      have e : i = j := of_decide_eq_true h
      subst e
      exact pt_of (t_const pe_str fun ρ H => .str i) rfl
    | _ => cases h
  | _ => cases h
theorem s_cbl (i : Bool) : SE cl (.cbl i) := fun X p n W x C h => by
  cases x with
  | Constant c k q =>
    cases c with
    | bool j =>
      have e : i = j := of_decide_eq_true h
      subst e
      exact pt_of (t_const pe_bl fun ρ H => .bl i) rfl
    | _ => cases h
  | _ => cases h
theorem s_cnon : SE cl .cnon := fun X p n W x C h => by
  cases x with
  | Constant c k q =>
    cases c with
    | none => exact pt_of (t_const pe_non fun ρ H => .non) rfl
    | _ => cases h
  | _ => cases h
theorem s_con (d : D) : SE cl (.con d) := fun X p n W x C h => by
  cases x with
  | Name y q =>
    obtain ⟨h1, h2⟩ := and2 (show (glob p y && match p.g.consts.lookup y with
      | some e => d.same e
      | none => false) = true from h)
    cases e : p.g.consts.lookup y with
    | none =>
      rw [e] at h2
      cases h2
    | some d' =>
      rw [e] at h2
      have e2 := D.same_eq d d' h2
      subst e2
      obtain ⟨v, u, m, r, rv⟩ := C.con y d e
      obtain ⟨g1, g2, _⟩ := C.gl h1
      exact pt_of (t_const (pe_glob g1 m r g2) rv) rfl
  | _ => cases h
theorem s_tup {es : Es} (s : SEs cl es) : SE cl (.tup es) := fun X p n W x C h => by
  cases x with
  | Tuple xs k q => exact pt_of (c_tup (s X p n W xs C h).1) rfl
  | _ => cases h
theorem s_lst {es : Es} (s : SEs cl es) : SE cl (.lst es) := fun X p n W x C h => by
  cases x with
  | List xs q => exact pt_of (c_lst (s X p n W xs C h).1) rfl
  | _ => cases h
theorem s_bin {op : BOp} {a b : E} (sa : SE cl a) (sb : SE cl b) : SE cl (.bin op a b) := fun X p n W x C h => by
  cases x with
  | BinOp l o r q =>
    obtain ⟨h1, h2, h3⟩ := and3 (show (decide (o = pyB op) && mE a p l && mE b p r) = true from h)
    have e : o = pyB op := of_decide_eq_true h1
    subst e
    exact pt_of (c_bin (op_bop op) (sa X p n W l C h2).1 (sb X p n W r C h3).1) rfl
  | _ => cases h
theorem s_neg {a : E} (sa : SE cl a) : SE cl (.neg a) := fun X p n W x C h => by
  cases x with
  | UnaryOp o y q =>
    cases o with
    | USub => exact pt_of (c_neg (sa X p n W y C h).1) rfl
    | _ => cases h
  | _ => cases h
theorem s_not {a : E} (sa : SE cl a) : SE cl (.not a) := fun X p n W x C h => by
  cases x with
  | UnaryOp o y q =>
    cases o with
    | Not =>
      obtain ⟨a1, a2⟩ := sa X p n W y C h
      exact ⟨c_notV a1, t_not a2⟩
    | _ => cases h
  | _ => cases h
theorem s_cmp {op : COp} {a b : E} (sa : SE cl a) (sb : SE cl b) : SE cl (.cmp op a b) := fun X p n W x C h => by
  cases x with
  | Compare l os rs q =>
    match os, rs, h with
    | [o], [r], h =>
      obtain ⟨h1, h2, h3, h4⟩ := and4 (show (decide (o = pyC op) && notSet r && mE a p l && mE b p r) = true from h)
      have e : o = pyC op := of_decide_eq_true h1
      subst e
      have A := (sa X p n W l C h3).1
      have B := (sb X p n W r C h4).1
      exact ⟨c_cmp C.ofx C.units A B (notSet_mark h2), t_cmp C.ofx C.units A B (notSet_mark h2)⟩
    | [], _, h => cases h
    | [_], [], h => cases h
    | [_], _ :: _ :: _, h => cases h
    | _ :: _ :: [], [_, _], h => cases h
    | _ :: _ :: [], [], h => cases h
    | _ :: _ :: [], [_], h => cases h
    | _ :: _ :: [], _ :: _ :: _ :: _, h => cases h
    | _ :: _ :: _ :: _, _, h => cases h
  | _ => cases h
theorem s_chain {o1 o2 : COp} {a b c : E} (sa : SE cl a) (sb : SE cl b) (sc : SE cl c) : SE cl (.chain o1 o2 a b c) := fun X p n W x C h => by
  cases x with
  | Compare l os rs q =>
    match os, rs, h with
    | [q1, q2], [m, r], h =>
      have h' : (decide (q1 = pyC o1) && decide (q2 = pyC o2) && notSet r && mE a p l && mE b p m && mE c p r) = true := h
      simp only [Bool.and_eq_true, decide_eq_true_eq] at h'
      obtain ⟨⟨⟨⟨⟨e1, e2⟩, h2⟩, h3⟩, h4⟩, h5⟩ := h'
      subst e1 e2
      have A := (sa X p n W l C h3).1
      have B := (sb X p n W m C h4).1
      have D := (sc X p n W r C h5).1
      exact ⟨c_chain C.ofx C.units A B D (notSet_last h2), t_chain C.ofx C.units A B D (notSet_last h2)⟩
    | [], _, h => cases h
    | [_], _, h => cases h
    | _ :: _ :: [], [], h => cases h
    | _ :: _ :: [], [_], h => cases h
    | _ :: _ :: [], _ :: _ :: _ :: _, h => cases h
    | _ :: _ :: _ :: _, _, h => cases h
  | _ => cases h
theorem s_band {es : Es} (s : SEs cl es) : SE cl (.band es) := fun X p n W x C h => by
  cases x with
  | BoolOp o xs q =>
    cases o with
    | And =>
      obtain ⟨h1, h2⟩ := and2 (show (mEs es p xs && !xs.isEmpty) = true from h)
      have z := ((s X p n W xs C h1).2 (by intro z; rw [z] at h2; cases h2) q).1
      exact ⟨z.1, z.2.pt⟩
    | _ => cases h
  | _ => cases h
theorem s_bor {es : Es} (s : SEs cl es) : SE cl (.bor es) := fun X p n W x C h => by
  cases x with
  | BoolOp o xs q =>
    cases o with
    | Or =>
      obtain ⟨h1, h2⟩ := and2 (show (mEs es p xs && !xs.isEmpty) = true from h)
      have z := ((s X p n W xs C h1).2 (by intro z; rw [z] at h2; cases h2) q).2
      exact ⟨z.1, z.2.pt⟩
    | _ => cases h
  | _ => cases h
theorem s_ite {c a b : E} (sc : SE cl c) (sa : SE cl a) (sb : SE cl b) : SE cl (.ite c a b) := fun X p n W x C h => by
  cases x with
  | IfExp t y z q =>
    obtain ⟨h1, h2, h3⟩ := and3 (show (mE c p t && mE a p y && mE b p z) = true from h)
    have T := (sc X p n W t C h1).2
    have A := sa X p n W y C h2
    have B := sb X p n W z C h3
    exact ⟨c_ite T A.1 B.1, t_ite T A.2 B.2⟩
  | _ => cases h
theorem s_idx {a i : E} (sa : SE cl a) (si : SE cl i) : SE cl (.idx a i) := fun X p n W x C h => by
  cases x with
  | Subscript l r q =>
    obtain ⟨h1, h2, h3⟩ := and3 (show (plainIx r && mE a p l && mE i p r) = true from h)
    exact pt_of (c_idx C.ofx C.units (sa X p n W l C h2).1 (si X p n W r C h3).1 (plainIx_ok h1)) rfl
  | _ => cases h
theorem s_slice {a : E} {lo hi : Eo} (sa : SE cl a) (sl : SEo cl lo) (sh : SEo cl hi) : SE cl (.slice a lo hi) := fun X p n W x C h => by
  cases x with
  | Subscript l r q =>
    cases r with
    | Slice u v w q2 =>
      cases w with
      | none =>
        obtain ⟨h1, h2, h3⟩ := and3 (show (mE a p l && mEo lo p u && mEo hi p v) = true from h)
        exact pt_of (c_slice (sa X p n W l C h1).1 ((sl X p n W C).1 u h2) ((sh X p n W C).1 v h3)) rfl
      | some _ => cases h
    | _ => cases h
  | _ => cases h
theorem s_call {f : Nat} {es : Es} (s : SEs cl es) : SE cl (.call f es) := fun X p n W x C h => by
  cases x with
  | Call fn args kws q =>
    cases fn with
    | Name y q2 =>
      match args, kws, h with
      | z :: zs, [], h =>
        obtain ⟨h1, h2, h3, h4⟩ := and4 (show (glob p y && (match p.g.names.lookup y with
          | some (i, n) => decide (i = f) && decide (n = (z :: zs).length)
          | none => false) && (z :: zs).all notStar && mEs es p (z :: zs)) = true from h)
        cases e : p.g.names.lookup y with
        | none =>
          rw [e] at h2
          cases h2
        | some im =>
          obtain ⟨i, m⟩ := im
          rw [e] at h2
          obtain ⟨e1, e2⟩ := and2 h2
          have e1 : i = f := of_decide_eq_true e1
          have e2 : m = (z :: zs).length := of_decide_eq_true e2
          subst e1
          obtain ⟨fa, fd, ps, m1, m2, m3, m4, m5⟩ := C.fns y i m e
          obtain ⟨g1, g2, _⟩ := C.gl h1
          obtain ⟨s1, s2⟩ := and2 (show (notStar z && zs.all notStar) = true from h3)
          exact pt_of (c_call m5 (C.room.mono (by omega)) g1 m1 m2 m3 C.tk (fun env st ds st' he => by rw [e2]; exact dens_len h4 he) (s X p n W _ C h4).1 g2 (star_cons s1) (star_plain s2)) rfl
      | [], [], h => cases h
      | [], _ :: _, h => cases h
      | _ :: _, _ :: _, h => cases h
    | _ => cases h
  | _ => cases h
theorem s_bfn {b : Bif} {es : Es} (s : SEs cl es) : SE cl (.bfn b es) := fun X p n W x C h => by
  cases x with
  | Call fn args kws q =>
    cases fn with
    | Name y q2 =>
      match args, kws, h with
      | z :: zs, [], h =>
        have h' : (decide (y = Str.ofString (bifN b)) && b.ready && globB p y && (z :: zs).all notStar && mEs es p (z :: zs)) = true := h
        rw [Bool.and_eq_true, Bool.and_eq_true, Bool.and_eq_true, Bool.and_eq_true, decide_eq_true_eq] at h'
        obtain ⟨⟨⟨⟨h1, h2⟩, h3⟩, h4⟩, h5⟩ := h'
        exact pt_of (C.bf h1 h2 h3 h4 (s X p n W _ C h5).1) rfl
      | [], [], h => cases h
      | [], _ :: _, h => cases h
      | _ :: _, _ :: _, h => cases h
    | _ => cases h
  | _ => cases h
theorem s_isi {a : E} {one : Bool} {ts : List Ty} (sa : SE cl a) : SE cl (.isi a one ts) := fun X p n W x C h => by
  cases x with
  | Call fn args kws q =>
    cases fn with
    | Name y q2 =>
      match args, kws, h with
      | [z, c], [], h =>
        have h' : (decide (y = Str.ofString "isinstance") && globB p y && tysFree p && notStar z && mE a p z && mIsi p one ts c) = true := h
        rw [Bool.and_eq_true, Bool.and_eq_true, Bool.and_eq_true, Bool.and_eq_true, Bool.and_eq_true, decide_eq_true_eq] at h'
        obtain ⟨⟨⟨⟨⟨h1, h2⟩, h3⟩, h4⟩, h5⟩, h6⟩ := h'
        subst h1
        obtain ⟨g1, g2⟩ := C.glB h2
        have A := (sa X p n W z C h5).1
        clear h
        unfold mIsi at h6
        split at h6
        · obtain ⟨k1, k2⟩ := C.tys h6
          obtain ⟨q3, k3, k4⟩ := k1 0 _ rfl
          cases k3
          exact pt_of (c_isi1 g1 g2 (C.tyFree h3) k4 A fun es => star_cons h4) rfl
        · obtain ⟨k0, k1⟩ := and2 h6
          obtain ⟨k1, k2⟩ := C.tys k1
          exact pt_of (c_isiT g1 g2 (C.tyFree h3) k1 k2 (of_decide_eq_true k0) (by simp) A fun es => star_cons h4) rfl
        · cases h6
      | [], _, h => cases h
      | [_], _, h => cases h
      | _ :: _ :: _ :: _, _, h => cases h
      | [_, _], _ :: _, h => cases h
    | _ => cases h
  | _ => cases h
theorem s_sortk {a : E} {f : Nat} (sa : SE cl a) : SE cl (.sortk a f) := fun X p n W x C h => by
  cases x with
  | Call fn args kws q =>
    cases fn with
    | Name y q2 =>
      match args, kws, h with
      | [z], kws, h =>
        have h : (match kw1 kws with
          | some (k, w) => decide (y = Str.ofString "sorted") && decide (k = Str.ofString "key") && globB p y && notStar z && glob p w && (match p.g.names.lookup w with
            | some (i, n) => decide (i = f) && decide (n = 1)
            | none => false) && mE a p z
          | none => false) = true := h
        cases ek : kw1 kws with
        | none =>
          rw [ek] at h
          cases h
        | some kw =>
        obtain ⟨k, w⟩ := kw
        rw [ek] at h
        obtain ⟨q3, q4, rfl⟩ := kw1_eq ek
        have h' : (decide (y = Str.ofString "sorted") && decide (k = Str.ofString "key") && globB p y && notStar z && glob p w && (match p.g.names.lookup w with
          | some (i, n) => decide (i = f) && decide (n = 1)
          | none => false) && mE a p z) = true := h
        rw [Bool.and_eq_true, Bool.and_eq_true, Bool.and_eq_true, Bool.and_eq_true, Bool.and_eq_true, Bool.and_eq_true, decide_eq_true_eq, decide_eq_true_eq] at h'
        obtain ⟨⟨⟨⟨⟨⟨h1, h2⟩, h3⟩, h4⟩, h5⟩, h6⟩, h7⟩ := h'
        subst h1 h2
        cases e : p.g.names.lookup w with
        | none =>
          rw [e] at h6
          cases h6
        | some im =>
          obtain ⟨i, m⟩ := im
          rw [e] at h6
          obtain ⟨e1, e2⟩ := and2 h6
          have e1 : i = f := of_decide_eq_true e1
          have e2 : m = 1 := of_decide_eq_true e2
          subst e1 e2
          obtain ⟨fa, fd, ps, m1, m2, m3, m4, m5⟩ := C.fns w i 1 e
          obtain ⟨g1, g2, _⟩ := C.gl h5
          obtain ⟨b1, b2⟩ := C.glB h3
          match ps, m4, m3, m5 with
          | [pn], _, m3, m5 => exact pt_of (c_sortk C m5 m3 b1 b2 g1 m1 g2 (sa X p n W z C h7).1 (star_cons h4)) rfl
      | [], _, h => cases h
      | _ :: _ :: _, _, h => cases h
    | _ => cases h
  | _ => cases h
theorem s_comp {elt : E} {tg : Tg} {it : It} {cond : Eo} {own : List Nat} (se : SE cl elt) (si : SIt cl it) (sc : SEo cl cond) : SE cl (.comp elt tg it cond own) := fun X p n W x C h => by
  cases x with
  | ListComp e gs scope q =>
    have h : (match gen1 gs with
      | some (t, i, ifs) => notSet i && blkC p.N p.sc scope (namesAt p.N own) && tg.slots.all (own.contains ·) && mT (p.blk scope) tg t && mIt it p i && mC cond (p.blk scope) ifs && mE elt (p.blk scope) e
      | none => false) = true := h
    cases eg : gen1 gs with
    | none =>
      rw [eg] at h
      cases h
    | some tt =>
      obtain ⟨t, i, ifs⟩ := tt
      rw [eg] at h
      have := gen1_eq eg
      subst this
      have h' : (notSet i && blkC p.N p.sc scope (namesAt p.N own) && tg.slots.all (own.contains ·) && mT (p.blk scope) tg t && mIt it p i && mC cond (p.blk scope) ifs && mE elt (p.blk scope) e) = true := h
      rw [Bool.and_eq_true, Bool.and_eq_true, Bool.and_eq_true, Bool.and_eq_true, Bool.and_eq_true, Bool.and_eq_true] at h'
      obtain ⟨⟨⟨⟨⟨⟨h2, h3⟩, h4⟩, h5⟩, h6⟩, h7⟩, h8⟩ := h'
      have ok := blkOk_by h3
      rw [← C.nm, ← C.sc] at ok
      have hv : ∀ j ∈ tg.slots, j ∈ (namesAt X.N own).map (·.2) := fun j hj => by
        rw [namesAt_snd]
        exact List.contains_iff_mem.mp (List.all_eq_true.mp h4 j hj)
      have B : ∀ (s : Shared) (H : Hp) (Cl : Addr) (cls : List (Str × Addr)) (fp : List Addr), Cok (X.blk s H scope (compEnvC scope cls Cl X.env) fp) (p.blk scope) cl n noW := fun s H Cl cls fp => C.blk
      have z := c_lc (pos := q) (W := W) C.calm (by rw [C.nm]; exact C.nd) (si X p n W i t C h6) ok hv (fun s H Cl cls fp => (B s H Cl cls fp).tg h5) (fun s H Cl cls fp => (sc _ _ n noW (B s H Cl cls fp)).2 ifs h7) (fun s H Cl cls fp => (se _ _ n noW e (B s H Cl cls fp) h8).1) (notSet_ok h2)
      rw [namesAt_snd] at z
      exact pt_of z rfl
  | _ => cases h
theorem s_scomp {elt : E} {tg : Tg} {it : It} {cond : Eo} {own : List Nat} (se : SE cl elt) (si : SIt cl it) (sc : SEo cl cond) : SE cl (.scomp elt tg it cond own) := fun X p n W x C h => by
  cases x with
  | SetComp e gs scope q =>
    have h : (match gen1 gs with
      | some (t, i, ifs) => notSet i && blkC p.N p.sc scope (namesAt p.N own) && tg.slots.all (own.contains ·) && mT (p.blk scope) tg t && mIt it p i && mC cond (p.blk scope) ifs && mE elt (p.blk scope) e
      | none => false) = true := h
    cases eg : gen1 gs with
    | none =>
      rw [eg] at h
      cases h
    | some tt =>
      obtain ⟨t, i, ifs⟩ := tt
      rw [eg] at h
      have := gen1_eq eg
      subst this
      have h' : (notSet i && blkC p.N p.sc scope (namesAt p.N own) && tg.slots.all (own.contains ·) && mT (p.blk scope) tg t && mIt it p i && mC cond (p.blk scope) ifs && mE elt (p.blk scope) e) = true := h
      rw [Bool.and_eq_true, Bool.and_eq_true, Bool.and_eq_true, Bool.and_eq_true, Bool.and_eq_true, Bool.and_eq_true] at h'
      obtain ⟨⟨⟨⟨⟨⟨h2, h3⟩, h4⟩, h5⟩, h6⟩, h7⟩, h8⟩ := h'
      have ok := blkOk_by h3
      rw [← C.nm, ← C.sc] at ok
      have hv : ∀ j ∈ tg.slots, j ∈ (namesAt X.N own).map (·.2) := fun j hj => by
        rw [namesAt_snd]
        exact List.contains_iff_mem.mp (List.all_eq_true.mp h4 j hj)
      have B : ∀ (s : Shared) (H : Hp) (Cl : Addr) (cls : List (Str × Addr)) (fp : List Addr), Cok (X.blk s H scope (compEnvC scope cls Cl X.env) fp) (p.blk scope) cl n noW := fun s H Cl cls fp => C.blk
      have z := c_sc (pos := q) (W := W) C.ofx C.units C.calm (by rw [C.nm]; exact C.nd) (si X p n W i t C h6) ok hv (fun s H Cl cls fp => (B s H Cl cls fp).tg h5) (fun s H Cl cls fp => (sc _ _ n noW (B s H Cl cls fp)).2 ifs h7) (fun s H Cl cls fp => (se _ _ n noW e (B s H Cl cls fp) h8).1) (notSet_ok h2)
      rw [namesAt_snd] at z
      exact pt_of z rfl
  | _ => cases h
theorem s_comp2 {elt : E} {tg tg2 : Tg} {it it2 : It} {own vs : List Nat} (se : SE cl elt) (si : SIt cl it) (sj : SIt cl it2) : SE cl (.comp2 elt tg it tg2 it2 own vs) := fun X p n W x C h => by
  cases x with
  | ListComp e gs scope q =>
    have h : (match gen2 gs with
      | some (t, i, t2, i2) => notSet i && notSet i2 && blkC p.N p.sc scope (namesAt p.N own) && tg.slots.all (own.contains ·) && tg2.slots.all (vs.contains ·) && vs.all (own.contains ·) && mT (p.blk scope) tg t && mIt it p i && mIt it2 (p.blk scope) i2 && mT (p.blk scope) tg2 t2 && mE elt (p.blk scope) e
      | none => false) = true := h
    cases eg : gen2 gs with
    | none =>
      rw [eg] at h
      cases h
    | some tt =>
      obtain ⟨t, i, t2, i2⟩ := tt
      rw [eg] at h
      have := gen2_eq eg
      subst this
      have h' : (notSet i && notSet i2 && blkC p.N p.sc scope (namesAt p.N own) && tg.slots.all (own.contains ·) && tg2.slots.all (vs.contains ·) && vs.all (own.contains ·) && mT (p.blk scope) tg t && mIt it p i && mIt it2 (p.blk scope) i2 && mT (p.blk scope) tg2 t2 && mE elt (p.blk scope) e) = true := h
      rw [Bool.and_eq_true, Bool.and_eq_true, Bool.and_eq_true, Bool.and_eq_true, Bool.and_eq_true, Bool.and_eq_true, Bool.and_eq_true, Bool.and_eq_true, Bool.and_eq_true, Bool.and_eq_true] at h'
      obtain ⟨⟨⟨⟨⟨⟨⟨⟨⟨⟨h1, h2⟩, h3⟩, h4⟩, h5⟩, h6⟩, h7⟩, h8⟩, h9⟩, h10⟩, h11⟩ := h'
      have ok := blkOk_by h3
      rw [← C.nm, ← C.sc] at ok
      have hv : ∀ j ∈ tg.slots, j ∈ (namesAt X.N own).map (·.2) := fun j hj => by
        rw [namesAt_snd]
        exact List.contains_iff_mem.mp (List.all_eq_true.mp h4 j hj)
      have hv1 : ∀ j ∈ tg2.slots, j ∈ vs := fun j hj => List.contains_iff_mem.mp (List.all_eq_true.mp h5 j hj)
      have hv2 : ∀ j ∈ vs, j ∈ (namesAt X.N own).map (·.2) := fun j hj => by
        rw [namesAt_snd]
        exact List.contains_iff_mem.mp (List.all_eq_true.mp h6 j hj)
      have B : ∀ (s : Shared) (H : Hp) (Cl : Addr) (cls : List (Str × Addr)) (fp : List Addr), Cok (X.blk s H scope (compEnvC scope cls Cl X.env) fp) (p.blk scope) cl n noW := fun s H Cl cls fp => C.blk
      have z := c_lc2 (pos := q) (W := W) C.calm (by rw [C.nm]; exact C.nd) (si X p n W i t C h8) ok hv hv1 hv2 (fun s H Cl cls fp => (B s H Cl cls fp).tg h7) (fun s H Cl cls fp => sj _ (p.blk scope) n noW i2 t2 (B s H Cl cls fp) h9) (fun s H Cl cls fp => (B s H Cl cls fp).tg h10) (fun s H Cl cls fp => (se _ _ n noW e (B s H Cl cls fp) h11).1) (notSet_ok h1) (notSet_any h2)
      rw [namesAt_snd] at z
      exact pt_of z rfl
  | _ => cases h
theorem s_dnew : SE cl .dnew := fun X p n W x C h => by
  cases x with
  | Dict ks vs q =>
    cases ks with
    | nil =>
      cases vs with
      | nil => exact pt_of c_dnew rfl
      | cons _ _ => cases h
    | cons _ _ => cases h
  | _ => cases h
theorem s_fld {c : Nat} {a : E} {f : Str} (sa : SE cl a) : SE cl (.fld c a f) := fun X p n W x C h => by
  cases x with
  | Attribute o m q =>
    obtain ⟨h1, h2, h3, h4⟩ := and4 (show (decide (m = f) && p.g.flds.contains (c, f) && plainBase o && mE a p o) = true from h)
    have e : m = f := of_decide_eq_true h1
    subst e
    obtain ⟨k1, k2⟩ := C.kl.fl c m (List.contains_iff_mem.mp h2)
    exact pt_of (c_fld k1 k2 (sa X p n W o C h4).1 (plainBase_ok h3)) rfl
  | _ => cases h
theorem s_mk {c f : Nat} {es : Es} (s : SEs cl es) : SE cl (.mk c f es) := fun X p n W x C h => by
  cases x with
  | Call fn args kws q =>
    cases fn with
    | Name y q2 =>
      match args, kws, h with
      | z :: zs, [], h =>
        have h' : (glob p y && p.g.clsN.contains (y, c) && p.g.mks.contains (c, f, (z :: zs).length) && (z :: zs).all notStar && mEs es p (z :: zs)) = true := h
        rw [Bool.and_eq_true, Bool.and_eq_true, Bool.and_eq_true, Bool.and_eq_true] at h'
        obtain ⟨⟨⟨⟨h1, h2⟩, h3⟩, h4⟩, h5⟩ := h'
        obtain ⟨fa, fd, ps, m1, m2, m3⟩ := C.kl.mks _ _ _ (List.contains_iff_mem.mp h3)
        have m0 := C.kl.nm _ _ (List.contains_iff_mem.mp h2)
        obtain ⟨g1, g2, _⟩ := C.gl h1
        obtain ⟨s1, s2⟩ := and2 (show (notStar z && zs.all notStar) = true from h4)
        exact pt_of (c_mk m1 m3 (C.room.mono (by omega)) g1 m0 m2 (fun env st ds st' he => dens_len h5 he) (s X p n W _ C h5).1 g2 (star_cons s1) (star_plain s2)) rfl
      | [], [], h => cases h
      | [], _ :: _, h => cases h
      | _ :: _, _ :: _, h => cases h
    | _ => cases h
  | _ => cases h
theorem s_meth {c f : Nat} {m : Str} {a : E} {es : Es} (sa : SE cl a) (s : SEs cl es) : SE cl (.meth c a m f es) := fun X p n W x C h => by
  have h : (match methc x with
    | some (o, mm, ap, z, zs, cp) => decide (mm = m) && p.g.meths.contains (c, m, f, (z :: zs).length) && plainBase o && (z :: zs).all notStar && decide ((z :: zs).length < 30) && ap.endLine == cp.line && mE a p o && mEs es p (z :: zs)
    | none => false) = true := h
  cases em : methc x with
  | none =>
    rw [em] at h
    cases h
  | some t =>
    obtain ⟨o, mm, ap, z, zs, cp⟩ := t
    rw [em] at h
    have := methc_eq em
    subst this
    have h' : (decide (mm = m) && p.g.meths.contains (c, m, f, (z :: zs).length) && plainBase o && (z :: zs).all notStar && decide ((z :: zs).length < 30) && ap.endLine == cp.line && mE a p o && mEs es p (z :: zs)) = true := h
    rw [Bool.and_eq_true, Bool.and_eq_true, Bool.and_eq_true, Bool.and_eq_true, Bool.and_eq_true, Bool.and_eq_true, Bool.and_eq_true, decide_eq_true_eq, decide_eq_true_eq] at h'
    obtain ⟨⟨⟨⟨⟨⟨⟨h1, h2⟩, h3⟩, h4⟩, h5⟩, h6⟩, h7⟩, h8⟩ := h'
    subst h1
    obtain ⟨kc, fa, fd, ps, m1, m2, m3⟩ := C.kl.mt _ _ _ _ (List.contains_iff_mem.mp h2)
    obtain ⟨s1, s2⟩ := and2 (show (notStar z && zs.all notStar) = true from h4)
    exact pt_of (c_meth kc m1 m3 (C.room.mono (by omega)) m2 (fun env st ds st' he => dens_len h8 he) (sa X p n W o C h7).1 (s X p n W _ C h8).1 (star_cons s1) (star_plain s2) (meth_eq (plainBase_ok h3) (meth_form h4 h5) h6)) rfl
theorem s_lrng1 {e : E} (se : SE cl e) : SE cl (.lrng (.rng1 e)) := fun X p n W x C h => by
  cases x with
  | Call fn args kws q =>
    cases fn with
    | Name y q2 =>
      match args, kws, h with
      | [w], [], h =>
        obtain ⟨h1, h2, _, h4⟩ := and4 (show (decide (y = Str.ofString "list") && globB p y && true && mIt (.rng1 e) p w) = true from h)
        have e1 : y = Str.ofString "list" := of_decide_eq_true h1
        subst e1
        cases w with
        | Call fn args kws q =>
          cases fn with
          | Name y q2 =>
            match args, kws, h4 with
            | [z], [], h4 =>
              obtain ⟨k1, k2, k3, k4⟩ := and4 (show (decide (y = Str.ofString "range") && globB p y && notStar z && mE e p z) = true from h4)
              have e1 : y = Str.ofString "range" := of_decide_eq_true k1
              subst e1
              obtain ⟨g1, g2⟩ := C.glB h2
              obtain ⟨g3, g4⟩ := C.glB k2
              exact pt_of (c_lrng1 C.calm g1 g2 g3 g4 (se X p n W z C k4).1 (star_cons k3)) rfl
            | [], _, h => cases h
            | _ :: _ :: _, _, h => cases h
            | [_], _ :: _, h => cases h
          | _ => cases h4
        | _ => cases h4
      | [], _, h => cases h
      | _ :: _ :: _, _, h => cases h
      | [_], _ :: _, h => cases h
    | _ => cases h
  | _ => cases h
theorem s_lrng2 {a b : E} (sa : SE cl a) (sb : SE cl b) : SE cl (.lrng (.rng2 a b)) := fun X p n W x C h => by
  cases x with
  | Call fn args kws q =>
    cases fn with
    | Name y q2 =>
      match args, kws, h with
      | [w], [], h =>
        obtain ⟨h1, h2, _, h4⟩ := and4 (show (decide (y = Str.ofString "list") && globB p y && true && mIt (.rng2 a b) p w) = true from h)
        have e1 : y = Str.ofString "list" := of_decide_eq_true h1
        subst e1
        cases w with
        | Call fn args kws q =>
          cases fn with
          | Name y q2 =>
            match args, kws, h4 with
            | [z, v], [], h4 =>
              have h' : (decide (y = Str.ofString "range") && globB p y && notStar z && notStar v && mE a p z && mE b p v) = true := h4
              rw [Bool.and_eq_true, Bool.and_eq_true, Bool.and_eq_true, Bool.and_eq_true, Bool.and_eq_true, decide_eq_true_eq] at h'
              obtain ⟨⟨⟨⟨⟨e1, k2⟩, k3⟩, k4⟩, k5⟩, k6⟩ := h'
              subst e1
              obtain ⟨g1, g2⟩ := C.glB h2
              obtain ⟨g3, g4⟩ := C.glB k2
              exact pt_of (c_lrng2 C.calm g1 g2 g3 g4 (sa X p n W z C k5).1 (sb X p n W v C k6).1 (by rw [star_cons k3, star_cons k4]; rfl) (star_cons k4)) rfl
            | [], _, h => cases h
            | [_], _, h => cases h
            | _ :: _ :: _ :: _, _, h => cases h
            | [_, _], _ :: _, h => cases h
          | _ => cases h4
        | _ => cases h4
      | [], _, h => cases h
      | _ :: _ :: _, _, h => cases h
      | [_], _ :: _, h => cases h
    | _ => cases h
  | _ => cases h
end
end Pd
end
section
set_option Elab.async false
set_option linter.all false
set_option maxRecDepth 100000
set_option autoImplicit false
/-! The match is sound: all expressions. -/
namespace Pd
open PySem PySem.Spec PyProof.Rows L2
section
variable {cl : Fn}
theorem s_nil : SEs cl .nil := fun X p n W xs C h => by
  cases xs with
  | nil => exact ⟨a_nil, fun z => absurd rfl z⟩
  | cons _ _ => cases h
theorem s_cons {e : E} {es : Es} (se : SE cl e) (ss : SEs cl es) : SEs cl (.cons e es) := fun X p n W xs C h => by
  cases xs with
  | nil => cases h
  | cons x xs =>
    obtain ⟨h1, h2, h3⟩ := and3 (show (notStar x && mE e p x && mEs es p xs) = true from h)
    obtain ⟨a1, a2⟩ := se X p n W x C h2
    obtain ⟨b1, b2⟩ := ss X p n W xs C h3
    refine ⟨a_cons a1 b1 (star_cons h1), fun _ pos => ?_⟩
    cases es with
    | nil =>
      cases xs with
      | nil => exact ⟨⟨pe_one a1, pw_and1 a2⟩, ⟨pe_one a1, pw_or1 a2⟩⟩
      | cons _ _ => cases h3
    | cons e2 es2 =>
      cases xs with
      | nil => cases h3
      | cons x2 xs2 =>
        obtain ⟨⟨c1, c2⟩, ⟨d1, d2⟩⟩ := b2 (by simp) pos
        exact ⟨⟨c_and a1 c1, w_and a2 c2⟩, ⟨c_or a1 d1, w_or a2 d2⟩⟩
theorem s_onone : SEo cl .none := fun X p n W C => by
  refine ⟨fun x h => ?_, fun xs h => ?_⟩
  · cases x with
    | none => exact o_none
    | some _ => cases h
  · cases xs with
    | nil => exact ts_nil
    | cons _ _ => cases h
theorem s_osome {e : E} (se : SE cl e) : SEo cl (.some e) := fun X p n W C => by
  refine ⟨fun x h => ?_, fun xs h => ?_⟩
  · cases x with
    | none => cases h
    | some x => exact o_some (se X p n W x C h).1
  · match xs, h with
    | [x], h => exact ts_one (se X p n W x C h).2
    | [], h => cases h
    | _ :: _ :: _, h => cases h
theorem s_seq {e : E} (se : SE cl e) : SIt cl (.seq e) := fun X p n W x tg C h => pi_seq (se X p n W x C h).1
theorem s_rng1 {e : E} (se : SE cl e) : SIt cl (.rng1 e) := fun X p n W x tg C h => by
  cases x with
  | Call fn args kws q =>
    cases fn with
    | Name y q2 =>
      match args, kws, h with
      | [z], [], h =>
        obtain ⟨h1, h2, h3, h4⟩ := and4 (show (decide (y = Str.ofString "range") && globB p y && notStar z && mE e p z) = true from h)
        have e1 : y = Str.ofString "range" := of_decide_eq_true h1
        subst e1
        obtain ⟨g1, g2⟩ := C.glB h2
        exact pi_rng1 g1 g2 (se X p n W z C h4).1 (star_cons h3)
      | [], _, h => cases h
      | _ :: _ :: _, _, h => cases h
      | [_], _ :: _, h => cases h
    | _ => cases h
  | _ => cases h
theorem s_rng2 {a b : E} (sa : SE cl a) (sb : SE cl b) : SIt cl (.rng2 a b) := fun X p n W x tg C h => by
  cases x with
  | Call fn args kws q =>
    cases fn with
    | Name y q2 =>
      match args, kws, h with
      | [z, w], [], h =>
        have h' : (decide (y = Str.ofString "range") && globB p y && notStar z && notStar w && mE a p z && mE b p w) = true := h
        rw [Bool.and_eq_true, Bool.and_eq_true, Bool.and_eq_true, Bool.and_eq_true, Bool.and_eq_true, decide_eq_true_eq] at h'
        obtain ⟨⟨⟨⟨⟨e1, h2⟩, h3⟩, h4⟩, h5⟩, h6⟩ := h'
        subst e1
        obtain ⟨g1, g2⟩ := C.glB h2
        exact pi_rng2 g1 g2 (sa X p n W z C h5).1 (sb X p n W w C h6).1 (by rw [star_cons h3, star_cons h4]; rfl) (star_cons h4)
      | [], _, h => cases h
      | [_], _, h => cases h
      | _ :: _ :: _ :: _, _, h => cases h
      | [_, _], _ :: _, h => cases h
    | _ => cases h
  | _ => cases h
mutual
theorem sE : ∀ e : E, SE cl e
  | .slot i => s_slot i
  | .cint i => s_cint i
  | .cstr i => s_cstr i
  | .cbl i => s_cbl i
  | .cnon => s_cnon
  | .con d => s_con d
  | .tup es => s_tup (sEs es)
  | .lst es => s_lst (sEs es)
  | .bin op a b => s_bin (sE a) (sE b)
  | .neg a => s_neg (sE a)
  | .not a => s_not (sE a)
  | .cmp op a b => s_cmp (sE a) (sE b)
  | .chain o1 o2 a b c => s_chain (sE a) (sE b) (sE c)
  | .band es => s_band (sEs es)
  | .bor es => s_bor (sEs es)
  | .ite c a b => s_ite (sE c) (sE a) (sE b)
  | .idx a i => s_idx (sE a) (sE i)
  | .slice a lo hi => s_slice (sE a) (sEo lo) (sEo hi)
  | .call f es => s_call (sEs es)
  | .bfn b es => s_bfn (sEs es)
  | .isi a one ts => s_isi (sE a)
  | .sortk a f => s_sortk (sE a)
  | .comp elt tg it cond own => s_comp (sE elt) (sIt it) (sEo cond)
  | .dnew => s_dnew
  | .fld c a f => s_fld (sE a)
  | .mk c f es => s_mk (sEs es)
  | .meth c a m f es => s_meth (sE a) (sEs es)
  | .lrng (.seq _) => fun X p n W x C h => by
    cases x with
    | Call fn args kws q =>
      cases fn with
      | Name y q2 =>
        match args, kws, h with
        | [z], [], h =>
          obtain ⟨_, _, h3, _⟩ := and4 (show (decide (y = Str.ofString "list") && globB p y && false && _) = true from h)
          cases h3
        | [], _, h => cases h
        | _ :: _ :: _, _, h => cases h
        | [_], _ :: _, h => cases h
      | _ => cases h
    | _ => cases h
  | .lrng (.rng1 e) => s_lrng1 (sE e)
  | .lrng (.rng2 a b) => s_lrng2 (sE a) (sE b)
  | .comp2 elt tg it tg2 it2 own vs => s_comp2 (sE elt) (sIt it) (sIt it2)
  | .snew => fun X p n W x C h => by cases h
  | .scomp elt tg it cond own => s_scomp (sE elt) (sIt it) (sEo cond)
theorem sEs : ∀ es : Es, SEs cl es
  | .nil => s_nil
  | .cons e es => s_cons (sE e) (sEs es)
theorem sEo : ∀ o : Eo, SEo cl o
  | .none => s_onone
  | .some e => s_osome (sE e)
theorem sIt : ∀ i : It, SIt cl i
  | .seq e => s_seq (sE e)
  | .rng1 e => s_rng1 (sE e)
  | .rng2 a b => s_rng2 (sE a) (sE b)
end
end
end Pd
end
section
set_option Elab.async false
set_option linter.all false
set_option maxRecDepth 100000
set_option autoImplicit false
/-! Statements, construct by construct. -/
namespace Pd
open PySem PySem.Spec PyProof.Rows L2

def PostS (K : PySem.W.Frag) (g : Sig) (ρ : List Addr) (H : Hp) (W : WX) (D : Ends) : RS → Prop
  | .nx env st' => ∀ (σ' : L2.St) (H' : Hp) (ρ' : List Addr), Ext ρ H ρ' H' → Rep K g.T ρ' st' H' → EnvR K ρ' H' σ' env → D.nx σ' H'
  | .ret d st' => ∀ (v : V) (H' : Hp) (ρ' : List Addr), Ext ρ H ρ' H' → Rep K g.T ρ' st' H' → VR K ρ' H' v d → D.rt v H'
  | .brk env st' => ∀ (σ' : L2.St) (H' : Hp) (ρ' : List Addr), Ext ρ H ρ' H' → Rep K g.T ρ' st' H' → EnvR K ρ' H' σ' env → D.bk σ' H'
  | .cnt env st' => ∀ (σ' : L2.St) (H' : Hp) (ρ' : List Addr), Ext ρ H ρ' H' → Rep K g.T ρ' st' H' → EnvR K ρ' H' σ' env → D.ct σ' H'
  | .exc c d env st' => ∀ (cls : Value) (dx : Option Addr) (σ' : L2.St) (H' : Hp) (ρ' : List Addr), Ext ρ H ρ' H' → Rep K g.T ρ' st' H' → EnvR K ρ' H' σ' env → XR K g ρ' H' c d cls dx → W cls dx σ' H'
  | .err => False
def tSt (K : PySem.W.Frag) (g : Sig) (W : WX) (F : Env → Store → RS) : TS := fun D σ H => ∃ ρ env st, Rep K g.T ρ st H ∧ EnvR K ρ H σ env ∧ PostS K g ρ H W D (F env st)
section
variable {K : PySem.W.Frag} {g : Sig} {ρ ρ' : List Addr} {H H' : Hp} {W : WX} {D D' : Ends} {σ : L2.St} {env : Env} {st st' : Store} {r : RS}
theorem PostS.ext (e : Ext ρ H ρ' H') (h : PostS K g ρ H W D r) : PostS K g ρ' H' W D r := by
  cases r with
  | nx env s => exact fun σ2 H2 ρ2 e2 => h σ2 H2 ρ2 (e.trans e2)
  | ret d s => exact fun v H2 ρ2 e2 => h v H2 ρ2 (e.trans e2)
  | brk env s => exact fun σ2 H2 ρ2 e2 => h σ2 H2 ρ2 (e.trans e2)
  | cnt env s => exact fun σ2 H2 ρ2 e2 => h σ2 H2 ρ2 (e.trans e2)
  | exc c d env s => exact fun cls dx σ2 H2 ρ2 e2 => h cls dx σ2 H2 ρ2 (e.trans e2)
  | err => exact h
theorem PostS.here (h : PostS K g ρ H W D (.nx env st)) (R : Rep K g.T ρ st H) (En : EnvR K ρ H σ env) : D.nx σ H := h σ H ρ (Ext.refl _ _) R En
theorem PostS.ite {c : Prop} [Decidable c] (q : PostS K g ρ H W D (if c then r else .err)) : c ∧ PostS K g ρ H W D r := by
  by_cases h : c
  · rw [if_pos h] at q
    exact ⟨h, q⟩
  · rw [if_neg h] at q
    exact q.elim
/-- an expression within a statement -/
theorem stE {α β : Type} {rel : List Addr → Hp → β → α → Prop} {F : Env → Store → R α} {f : α → Store → RS} (R : Rep K g.T ρ st H) (En : EnvR K ρ H σ env) (q : PostS K g ρ H W D (RS.ofE env (F env st) f)) {Q' : β → Hp → Prop}
    (k : ∀ b H1 ρ1 st1 a, F env st = .ok a st1 → Ext ρ H ρ1 H1 → Rep K g.T ρ1 st1 H1 → EnvR K ρ1 H1 σ env → rel ρ1 H1 b a → PostS K g ρ1 H1 W D (f a st1) → Q' b H1) : tX K g rel W F σ H Q' := by
  refine ⟨ρ, env, st, R, En, ?_⟩
  cases e : F env st with
  | ok a s =>
    rw [e] at q
    exact fun b H' ρ' e' R' r => k b H' ρ' s a e e' R' (En.ext e') r (PostS.ext e' q)
  | exc c d s =>
    rw [e] at q
    exact fun cls dx H' ρ' e' R' x => q cls dx σ H' ρ' e' R' (En.ext e') x
  | err =>
    rw [e] at q
    exact q
end
section
variable {X : Cx} {g : Sig} {W : WX} {a b c v : Expr} {Fa Fb Fc : Env → Store → R D} {pos p1 p2 : Pos} {body : List Stmt} {Fs Gs : Env → Store → RS}
/-- an assignment to targets of a reading that tells of d alone -/
theorem asg_go {t : Tg} {te : TE} (h : ∀ σ H Q, (tE X.K g W) Fa σ H Q → te σ H Q) {D : Ends} {σ : L2.St} {H : Hp} (q : (tSt X.K g W) (fun env st => RS.ofE env (Fa env st) fun d st => match assignTg env t d with
    | some env => .nx env st
    | none => .err) D σ H) : tAsg te (gT X.K t) D σ H := by
  obtain ⟨ρ, env, st, R, En, q⟩ := q
  refine h _ _ _ (stE R En q fun x H1 ρ1 st1 d _ ex R1 En1 rx q => ?_)
  cases e : assignTg env t d with
  | none =>
    rw [e] at q
    exact q.elim
  | some env' =>
    rw [e] at q
    exact gT_ok En1 rx e fun σ' En' _ => q.here R1 En'
/-! ### a store -/
/-- what o[i] = v asks -/
def rSetD (K : PySem.W.Frag) (g : Sig) : TSet := fun o i v H Q => ∃ ρ st x k d, ∃ n : Nat, Rep K g.T ρ st H ∧ VR K ρ H o x ∧ VR K ρ H i k ∧ VR K ρ H v d ∧ x = .ref n ∧
  ((∃ ds kk j, st[n]? = some (.lst ds) ∧ k = .int kk ∧ ixN ds.length kk = some j ∧ ∀ a xs, ρ[n]? = some a → o = .ref a → H a = some (.lst xs) → Q (upd H a (.lst (xs.set j v)))) ∨
    ∃ kvs, st[n]? = some (.dct kvs) ∧ likeK (kvs.map (·.1)) k = true ∧ kvs.length < LIM ∧ ∀ a ob, ρ[n]? = some a → Rep K g.T ρ (st.set n (.dct (dput kvs k d))) (upd H a ob) → Q (upd H a ob))
theorem ixN_eq {n : Nat} {i : Int} : L2.ixN n i = Pd.ixN n i := rfl
theorem set_pd (hO : OfX g.T X) (hu : X.A.units + 200 < cLine) : PSet X (rSetD X.K g) := by
  intro pins s σ H o i v ov iv u Q I ro ri rv h
  obtain ⟨ρ, st, x, k, d, n, R, hx, hk, hv, rfl, h⟩ := h
  cases hx with
  | ref ha =>
    rename_i a
    rcases h with ⟨ds, kk, j, hn, rfl, hj, q⟩ | ⟨kvs, hn, hl, hz, q⟩
    · obtain ⟨xs, hH, rs⟩ := R.cell n _ _ ha hn
      cases hk
      exact set_list pins s σ H _ _ v ov iv u Q I ro ri rv ⟨_, xs, kk, j, rfl, rfl, hH, by rw [ixN_eq, rs.length]; exact hj, q _ xs ha rfl hH⟩
    · cases (show ov = Value.ref a from ro)
      exact dct_set hu I hO R ha hn hl hz hk ri hv rv fun ob s' R' I' => ⟨_, I', q a ob ha R'⟩
theorem st_sub (hO : OfX g.T X) (hu : X.A.units + 200 < cLine) {Fv : Env → Store → R D} {o i : Expr} {spos : Pos} (hv : PE X v ((tE X.K g W) Fv)) (ho : PE X o ((tE X.K g W) Fa)) (hi : PE X i ((tE X.K g W) Fb)) (hp : plainIx i = true) (hs : noComp v = true) (ht : swappedStores [.Subscript o i p1] v X.env = pure none) :
    PS X (.Assign [.Subscript o i p1] v spos) ((tSt X.K g W) (subF Fv Fa Fb)) := by
  have ha : ∀ u, assign (.Subscript o i p1) X.env u = (do
      let ov ← holding [u] (eval o X.env)
      let iv ← holding [u, ov] (eval i X.env)
      standAt p1
      holding [u, ov, iv] (setItem ov iv u)
      release [u, ov, iv] []) := by
    intro u
    cases i with
    | Slice l w s p =>
      cases s with
      | none => cases hp
      | some _ => rfl
    | _ => rfl
  refine psW (ps_asg hv (pg_sub ho hi (set_pd (g := g) hO hu) ha) (noSwaps hs) ht) fun D σ H ⟨ρ, env, st, R, En, q⟩ => ?_
  refine stE R En q fun x H1 ρ1 st1 d _ ex1 R1 En1 rx q => ?_
  refine stE R1 En1 q fun y H2 ρ2 st2 e _ ex2 R2 En2 ry q => ?_
  refine stE R2 En2 q fun z H3 ρ3 st3 k _ ex3 R3 En3 rz q => ?_
  have rx3 := (rx.ext ex2).ext ex3
  have ry3 := ry.ext ex3
  cases e with
  | ref n =>
    unfold putD at q
    dsimp only at q
    cases ry3 with
    | ref ha =>
      rename_i a
      obtain ⟨c, hc, rc⟩ := R3.at ha
      simp only [hc] at q
      have hm : a ∈ ρ3 := List.mem_of_getElem? ha
      cases c with
      | lst ds =>
        cases k with
        | int k =>
          dsimp only at q
          cases hj : ixN ds.length k with
          | none =>
            simp only [hj] at q
            exact q.elim
          | some j =>
            simp only [hj] at q
            refine ⟨ρ3, st3, _, _, d, n, R3, .ref ha, rz, rx3, rfl, .inl ⟨ds, k, j, hc, rfl, hj, fun a' xs ha' _ hH => ?_⟩⟩
            rw [ha] at ha'
            cases ha'
            obtain ⟨xs', hH', rs⟩ := rc
            rw [hH] at hH'
            cases hH'
            have ew := Ext.write (o := .lst (xs.set j x)) R3 hm
            refine q σ _ ρ3 ew (R3.write ha ⟨_, upd_same, ?_⟩) (En3.ext ew)
            exact VRs.set (rx3.ext ew) j (rs.ext ew)
        | _ => exact q.elim
      | dct kvs =>
        obtain ⟨hz, q⟩ := PostS.ite q
        obtain ⟨hl, hz⟩ := and2 hz
        refine ⟨ρ3, st3, _, k, d, n, R3, .ref ha, rz, rx3, rfl, .inr ⟨kvs, hc, hl, of_decide_eq_true hz, fun a' ob ha' R' => ?_⟩⟩
        rw [ha] at ha'
        cases ha'
        have ew := Ext.write (o := ob) R3 hm
        exact q σ _ ρ3 ew R' (En3.ext ew)
      | _ => exact q.elim
  | _ => exact q.elim
/-! ### o.f = v -/
theorem st_setf {c : Nat} {f : Str} {Fv : Env → Store → R D} {o : Expr} {spos : Pos} (hC : Cls X.K (g.T.cls c)) (hN : NoAttr X.K (g.T.cls c) f) (hv : PE X v ((tE X.K g W) Fv)) (ho : PE X o ((tE X.K g W) Fa)) (hs : noComp v = true) :
    PS X (.Assign [.Attribute o f p1] v spos) ((tSt X.K g W) fun env st => RS.ofE env (Fv env st) fun d st => RS.ofE env (Fa env st) fun x st => setfD env c f d x st) :=
  psW (ps_fld ho hv (noSwap hs)) fun D σ H ⟨ρ, env, st, R, En, q⟩ => by
    refine stE R En q fun y H1 ρ1 st1 d _ ex1 R1 En1 ry q => ?_
    refine stE R1 En1 q fun x H2 ρ2 st2 e _ ex2 R2 En2 rx q => ?_
    have ry2 := ry.ext ex2
    cases e with
    | ref n =>
      unfold setfD at q
      dsimp only at q
      cases hc : st2[n]? with
      | none =>
        simp only [hc] at q
        exact q.elim
      | some cc =>
        simp only [hc] at q
        cases cc with
        | ins c' fs =>
          obtain ⟨⟨z, hl⟩, q⟩ := PostS.ite q
          subst z
          obtain ⟨n', a, dx, xs, en, rfl, h1, h2, h3, h4, h5⟩ := ins_of (c := c') (fs := fs) R2 rx (by unfold insOf; simp only [hc, if_true])
          cases en
          have hm : a ∈ ρ2 := List.mem_of_getElem? h1
          refine ⟨a, _, dx, xs, rfl, h3, hC, hN, by rw [h5.length]; exact hl, ?_⟩
          have ew := Ext.write (o := .ins (g.T.cls c') dx (putF f y xs)) R2 hm
          have hne : dx ≠ a := fun z => by rw [z, h3] at h4; cases h4
          refine q σ _ ρ2 ew (R2.write h1 ⟨dx, _, upd_same, by rw [upd_ne hne]; exact h4, ?_⟩) (En2.ext ew)
          exact putF_of (ry2.ext ew) (L2.Paired.mapP h5 fun _ _ q => q.ext ew)
        | _ => exact q.elim
    | _ => exact q.elim
/-! ### name op= e -/
theorem st_aug {i : Nat} {x : Str} {op : BOp} (hN : X.N.Nodup) (hi : X.N[i]? = some x) (hx : L2.Loc X.env.scope x) (hf : X.fn x = true ∨ X.env.scope.names.lookup x = some .local) (he : PE X a ((tE X.K g W) Fa)) (hop : op = .add ∨ op = .sub) :
    PS X (.AugAssign (.Name x p1) (pyB op) a pos) ((tSt X.K g W) (augF i op Fa)) := by
  have key : ∀ (f : Int → Int → Int), (∀ x y z, augD op x y = some z → ∃ m k, x = .int m ∧ y = .int k ∧ z = .int (f m k)) → ∀ D σ H, (tSt X.K g W) (augF i op Fa) D σ H → tAug i ((tE X.K g W) Fa) (ipI f) D σ H := fun f hF D σ H ⟨ρ, env, st, R, En, q⟩ => by
    unfold augF at q
    cases e : env[i]? with
    | none =>
      rw [e] at q
      exact q.elim
    | some o =>
      rw [e] at q
      cases o with
      | none => exact q.elim
      | some x =>
        obtain ⟨v, h1, h2⟩ := En.2 i x e
        refine ⟨v, h1, ?_⟩
        refine stE R En q fun y H1 ρ1 st1 d _ ex R1 En1 ry q => ?_
        have h3 := h2.ext ex
        cases hz : augD op x d with
        | none =>
          rw [hz] at q
          exact q.elim
        | some z =>
          rw [hz] at q
          obtain ⟨m, k, rfl, rfl, rfl⟩ := hF x d z hz
          cases h3
          cases ry
          exact ⟨m, k, rfl, rfl, q.here R1 (En1.set i (.int _))⟩
  rcases hop with e | e
  · subst e
    refine psW (ps_aug hN hi hx he ip_add hf) (key (fun i j => i + j) fun x y z h => ?_)
    unfold augD at h
    split at h
    · cases h
      exact ⟨_, _, rfl, rfl, rfl⟩
    · contradiction
    · cases h
  · subst e
    refine psW (ps_aug hN hi hx he ip_sub hf) (key (fun i j => i - j) fun x y z h => ?_)
    unfold augD at h
    split at h
    · contradiction
    · cases h
      exact ⟨_, _, rfl, rfl, rfl⟩
    · cases h
/-! ### append -/
theorem st_app {o : Expr} (ho : PE X o ((tE X.K g W) Fa)) (he : PE X a ((tE X.K g W) Fb)) (hb : plainBase o = true) (hs : starEach [a] X.env = [(false, eval a X.env)]) (hl : (p1.endLine == p2.line) = true) :
    PS X (.Expr (.Call (.Attribute o "append" p1) [a] [] p2) pos) ((tSt X.K g W) (appF Fa Fb)) := by
  refine psW (ps_expr (pe_bm PySem.F.plainAttrs_list PySem.F.slot_list_append PySem.F.type_list_append mt_append ho (pa_cons he pa_nil hs) (plainBase_ok hb) (by rw [hs]; rfl) hl hs rfl)) fun D σ H ⟨ρ, env, st, R, En, q⟩ => ?_
  refine stE R En q fun x H1 ρ1 st1 d _ ex1 R1 En1 rx q => ?_
  cases d with
  | ref n =>
    obtain ⟨hs, q⟩ := PostS.ite q
    cases rx with
    | ref ha =>
      rename_i ad
      obtain ⟨ds0, h0⟩ := Option.isSome_iff_exists.mp hs
      obtain ⟨xs0, hx0, _⟩ := R1.lst ha h0
      refine ⟨.inl ⟨rfl, xs0, .inl (.inl hx0)⟩, ?_⟩
      refine stE R1 En1 q fun y H2 ρ2 st2 d _ ex2 R2 En2 ry q => ?_
      unfold appD at q
      cases hn : lstAt st2 n with
      | none =>
        rw [hn] at q
        exact q.elim
      | some ds =>
        rw [hn] at q
        obtain ⟨hl, q⟩ := PostS.ite q
        have ha2 := ex2.ix ha
        obtain ⟨xs, hx, rs⟩ := R2.lst ha2 hn
        refine ⟨_, xs, y, rfl, rfl, hx, by rw [rs.length, ← LIM_eq]; exact hl, ?_⟩
        have hm : ad ∈ ρ2 := List.mem_of_getElem? ha2
        have ew := Ext.write (o := .lst (xs ++ [y])) R2 hm
        exact q σ _ ρ2 ew (R2.write ha2 ⟨_, upd_same, (rs.ext ew).append (.cons (ry.ext ew) .nil)⟩) (En2.ext ew)
  | _ => exact q.elim
end
end Pd
end
section
set_option Elab.async false
set_option linter.all false
set_option maxRecDepth 100000
set_option autoImplicit false
/-! Statements: assignments, tests, loops. -/
namespace Pd
open PySem PySem.Spec PyProof.Rows L2
section
variable {X : Cx} {g : Sig} {W : WX} {a b c v tg iter : Expr} {Fa Fb Fc : Env → Store → R D} {Fi : Env → Store → R Items} {pos p1 p2 : Pos} {body body2 : List Stmt} {Fs Gs : Env → Store → RS} {st0 : Stmt}
theorem st_nil : PSs X [] ((tSt X.K g W) fun env st => .nx env st) := pssW pss_nil fun D σ H ⟨ρ, env, st, R, En, q⟩ => q.here R En
abbrev seqF (Fs Gs : Env → Store → RS) : Env → Store → RS := fun env st => match Fs env st with
  | .nx env st => Gs env st
  | r => r
theorem st_cons (h1 : PS X st0 ((tSt X.K g W) Fs)) (h2 : PSs X body ((tSt X.K g W) Gs)) : PSs X (st0 :: body) ((tSt X.K g W) (seqF Fs Gs)) :=
  pssW (pss_cons h1 h2) fun D σ H ⟨ρ, env, st, R, En, q⟩ => by
    refine ⟨ρ, env, st, R, En, ?_⟩
    dsimp only [seqF] at q
    cases e : Fs env st with
    | nx env1 st1 =>
      rw [e] at q
      exact fun σ' H' ρ' e' R' En' => ⟨ρ', env1, st1, R', En', PostS.ext e' q⟩
    | ret d s =>
      rw [e] at q
      exact q
    | brk _ _ =>
      rw [e] at q
      exact q
    | cnt _ _ =>
      rw [e] at q
      exact q
    | exc _ _ _ _ =>
      rw [e] at q
      exact q
    | err =>
      rw [e] at q
      exact q
theorem st_pass : PS X (.Pass pos) ((tSt X.K g W) fun env st => .nx env st) := psW ps_pass fun D σ H ⟨ρ, env, st, R, En, q⟩ => q.here R En
theorem st_brk : PS X (.Break pos) ((tSt X.K g W) fun env st => .brk env st) := psW ps_break fun D σ H ⟨ρ, env, st, R, En, q⟩ => q σ H ρ (Ext.refl _ _) R En
theorem st_cont : PS X (.Continue pos) ((tSt X.K g W) fun env st => .cnt env st) := psW ps_continue fun D σ H ⟨ρ, env, st, R, En, q⟩ => q σ H ρ (Ext.refl _ _) R En
theorem st_drop (he : PE X a ((tE X.K g W) Fa)) (hs : noComp a = true) : PS X (.Expr a pos) ((tSt X.K g W) fun env st => RS.ofE env (Fa env st) fun _ st => .nx env st) :=
  psW (ps_expr he (noSwap hs)) fun D σ H ⟨ρ, env, st, R, En, q⟩ => stE R En q fun x H1 ρ1 st1 d _ ex R1 En1 rx q => q.here R1 En1
theorem st_ret (he : PE X a ((tE X.K g W) Fa)) : PS X (.Return (some a) pos) ((tSt X.K g W) fun env st => RS.ofE env (Fa env st) fun d st => .ret d st) :=
  psW (ps_ret he) fun D σ H ⟨ρ, env, st, R, En, q⟩ => stE R En q fun x H1 ρ1 st1 d _ ex R1 En1 rx q => q x H1 ρ1 (Ext.refl _ _) R1 rx
theorem st_retN : PS X (.Return none pos) ((tSt X.K g W) fun env st => .ret .non st) := psW ps_retN fun D σ H ⟨ρ, env, st, R, En, q⟩ => q .non H ρ (Ext.refl _ _) R .non
theorem st_if (hc : PT X c ((tT X.K g W) (tru Fc))) (ha : PSs X body ((tSt X.K g W) Fs)) (hb : PSs X body2 ((tSt X.K g W) Gs)) : PS X (.If c body body2 pos) ((tSt X.K g W) fun env st => RS.ofE env ((Fc env st).bind fun x st => Pd.R.of (truth x st) st) fun k st => if k = true then Fs env st else Gs env st) :=
  psW (ps_if hc ha hb) fun D σ H ⟨ρ, env, st, R, En, q⟩ => stE (F := tru Fc) R En q fun k H1 ρ1 st1 k' _ ex R1 En1 rk q => by
    have rk : k = k' := rk
    subst rk
    cases k with
    | true => exact ⟨ρ1, env, st1, R1, En1, q⟩
    | false => exact ⟨ρ1, env, st1, R1, En1, q⟩
theorem st_asg {t : Tg} (he : PE X v ((tE X.K g W) Fa)) (hg : PG X tg (gT X.K t)) (hs : noComp v = true) (hw : swappedStores [tg] v X.env = pure none) (h1 : (assignEach [tg] X.env).map (·.2) = [assign tg X.env]) :
    PS X (.Assign [tg] v pos) ((tSt X.K g W) fun env st => RS.ofE env (Fa env st) fun d st => match assignTg env t d with
      | some env => .nx env st
      | none => .err) := psW (ps_asg he hg (noSwaps hs) hw h1) fun D σ H q => asg_go (fun _ _ _ h => h) q
theorem st_set {i : Nat} {x : Str} (hN : X.N.Nodup) (hi : X.N[i]? = some x) (hx : L2.Loc X.env.scope x) (hf : X.fn x = true ∨ X.env.scope.names.lookup x = some .local) (he : PE X v ((tE X.K g W) Fa)) (hs : swapsWith v (some (.Name x p1)) pos.line X.env = pure false) :
    PS X (.Assign [.Name x p1] v pos) ((tSt X.K g W) fun env st => RS.ofE env (Fa env st) fun d st => .nx (set1 env i d) st) := psW (ps_set hN hi hx he hs hf) fun D σ H q => asg_go (t := .one i) (fun _ _ _ h => h) q
theorem st_par {i j : Nat} {x y : Str} {px py pt pt2 : Pos} {kt k2 : Nat} (hc : X.calm = true) (hN : X.N.Nodup) (hi : X.N[i]? = some x) (hj : X.N[j]? = some y) (hij : i ≠ j) (hx : X.env.scope.names.lookup x = some .local) (hy : X.env.scope.names.lookup y = some .local)
    (ha : PE X a ((tE X.K g W) Fa)) (hb : PE X b ((tE X.K g W) Fb)) (hs : starEach [a, b] X.env = (false, eval a X.env) :: starEach [b] X.env) (hs2 : starEach [b] X.env = [(false, eval b X.env)])
    (hw : swappedStores [.Tuple [.Name x px, .Name y py] kt pt] (.Tuple [a, b] k2 pt2) X.env = pure (some [x, y])) :
    PS X (.Assign [.Tuple [.Name x px, .Name y py] kt pt] (.Tuple [a, b] k2 pt2) pos) ((tSt X.K g W) fun env st => RS.ofE env (Fa env st) fun d st => RS.ofE env (Fb env st) fun e st => .nx (set1 (set1 env i d) j e) st) :=
  psW (ps_par hc hN hi hj hij hx hy (a_cons ha (a_cons hb a_nil hs2) hs) hw) fun Dn σ H ⟨ρ, env, st, R, En, q⟩ => by
    have e : (RS.ofE env (Fa env st) fun d st => RS.ofE env (Fb env st) fun e st => .nx (set1 (set1 env i d) j e) st) =
        RS.ofE env ((Fa env st).bind fun d st => ((Fb env st).bind fun e st => (Pd.R.ok ([] : List D) st).bind fun ds st => .ok (e :: ds) st).bind fun ds st => .ok (d :: ds) st) fun ds st => match ds with
          | [d, e] => .nx (set1 (set1 env i d) j e) st
          | _ => .err := by
      cases Fa env st with
      | ok d s =>
        show RS.ofE env (Fb env s) _ = RS.ofE env (((Fb env s).bind _).bind _) _
        cases Fb env s <;> rfl
      | exc _ _ _ => rfl
      | err => rfl
    dsimp only at q
    rw [e] at q
    refine stE (rel := relDs X.K) (F := fun env st => (Fa env st).bind fun d st => ((Fb env st).bind fun e st => (Pd.R.ok ([] : List D) st).bind fun ds st => .ok (e :: ds) st).bind fun ds st => .ok (d :: ds) st) R En q fun vs H1 ρ1 st1 ds _ ex R1 En1 rs q => ?_
    match ds, rs, q with
    | [d, e], rs, q =>
      cases rs with
      | cons r1 rs =>
        cases rs with
        | cons r2 rs =>
          cases rs
          exact ⟨_, _, rfl, q.here R1 ((En1.set i r1).set j r2)⟩
    | [], rs, q => exact q.elim
    | [_], rs, q => exact q.elim
    | _ :: _ :: _ :: _, rs, q => exact q.elim
/-! ### loops -/
def LoopW (K : PySem.W.Frag) (g : Sig) (ρ1 : List Addr) (H1 : Hp) (W : WX) (Dn : Ends) (ds : List D) (go : List D → Env → Store → RS) : Nat → Nat → L2.St → Hp → Prop := fun i m σ' H' =>
  ∃ ρ' st' env', m = ds.length - i ∧ i ≤ ds.length ∧ Ext ρ1 H1 ρ' H' ∧ Rep K g.T ρ' st' H' ∧ EnvR K ρ' H' σ' env' ∧ PostS K g ρ1 H1 W Dn (go (ds.drop i) env' st')
theorem st_for {t : Tg} {fg : List Nat} (hp : PassesOwn (model X.prog X.w) X.A X.env X.xe) (hc : X.calm = true) (hi : PI X tg iter (tI X.K g W Fi)) (hg : PG X tg (gT X.K t)) (hb : PSs X body ((tSt X.K g W) Fs)) (hs : ∀ x, foldedSetIterable iter X.env x = pure x) :
    PS X (.For tg iter body [] pos) ((tSt X.K g W) fun env st => RS.ofE env (Fi env st) fun w st => forLoop t w Fs fg w.ds env st) :=
  psW (ps_for hp hc hi hg hb hs) fun Dn σ H ⟨ρ, env, st, R, En, q⟩ => stE (rel := relIt X.K g) R En q fun J H1 ρ1 st1 w _ ex R1 En1 hJ q => by
    refine ⟨LoopW X.K g ρ1 H1 W Dn w.ds (forLoop t w Fs fg), ⟨w.ds.length, ρ1, st1, env, by simp, Nat.zero_le _, Ext.refl _ _, R1, En1, q⟩, ?_⟩
    rintro i m σ' H' ⟨ρ', st', env', rfl, hi, e', R', En', q⟩
    cases hd : w.ds[i]? with
    | none =>
      have ei : i = w.ds.length := Nat.le_antisymm hi (List.getElem?_eq_none_iff.mp hd)
      subst ei
      rw [List.drop_length] at q
      unfold forLoop at q
      obtain ⟨so, q⟩ := PostS.ite q
      exact .inl ⟨(hJ ρ' st' H' e'.w R' so).2, q σ' H' ρ' e' R' (En'.forget fg)⟩
    | some d =>
      have hlt : i < w.ds.length := (List.getElem?_eq_some_iff.mp hd).1
      rw [drop_some hd] at q
      unfold forLoop at q
      obtain ⟨so, q⟩ := PostS.ite q
      obtain ⟨go, yl⟩ := (hJ ρ' st' H' e'.w R' so).1 i d hd
      cases hb : assignTg (wipeE env' fg) t d with
      | none =>
        rw [hb] at q
        exact q.elim
      | some env2 =>
        rw [hb] at q
        dsimp only at q
        refine .inr ⟨go, LoopW X.K g ρ1 H1 W Dn w.ds (forLoop t w Fs fg) (i + 1) (w.ds.length - (i + 1)), fun σ2 H2 z => ⟨_, by omega, z⟩, fun x H2 y => ?_⟩
        obtain ⟨e3, rx⟩ := yl x H2 y
        subst e3
        refine gT_ok (En'.forget fg) rx hb fun σ2 En2 _ => ⟨ρ', env2, st', R', En2, ?_⟩
        cases er : Fs env2 st' with
        | nx env3 st3 =>
          rw [er] at q
          exact fun σ3 H3 ρ3 e3 R3 En3 => ⟨ρ3, st3, env3, rfl, hlt, e'.trans e3, R3, En3, q⟩
        | cnt env3 st3 =>
          rw [er] at q
          exact fun σ3 H3 ρ3 e3 R3 En3 => ⟨ρ3, st3, env3, rfl, hlt, e'.trans e3, R3, En3, q⟩
        | brk env3 st3 =>
          rw [er] at q
          exact fun σ3 H3 ρ3 e3 R3 En3 => q σ3 H3 ρ3 (e'.trans e3) R3 (En3.forget fg)
        | ret d s =>
          rw [er] at q
          exact fun v H3 ρ3 e3 => q v H3 ρ3 (e'.trans e3)
        | exc c d env3 s =>
          rw [er] at q
          exact fun cls dx σ3 H3 ρ3 e3 => q cls dx σ3 H3 ρ3 (e'.trans e3)
        | err =>
          rw [er] at q
          exact q
theorem st_while {fg : List Nat} {fuel : Nat} (hp : PassesOwn (model X.prog X.w) X.A X.env X.xe) (hc : PT X c ((tT X.K g W) (tru Fc))) (hb : PSs X body ((tSt X.K g W) Fs)) :
    PS X (.While c body [] pos) ((tSt X.K g W) fun env st => whileLoop (tru Fc) Fs fg fuel env st) :=
  psW (ps_while hp hc hb) fun D σ H ⟨ρ, env, st, R, En, q⟩ => by
    refine ⟨fun m σ' H' => ∃ ρ' env' st', Ext ρ H ρ' H' ∧ Rep X.K g.T ρ' st' H' ∧ EnvR X.K ρ' H' σ' env' ∧ PostS X.K g ρ H W D (whileLoop (tru Fc) Fs fg m env' st'), ⟨fuel, ρ, env, st, Ext.refl _ _, R, En, q⟩, ?_⟩
    rintro m σ' H' ⟨ρ', env', st', e', R', En', q⟩
    cases m with
    | zero => exact q.elim
    | succ m =>
      unfold whileLoop at q
      refine stE (F := tru Fc) R' En' (PostS.ext e' q) fun k H1 ρ1 st1 k' ek ex R1 En1 rk _ => ?_
      have rk : k = k' := rk
      subst rk
      rw [ek] at q
      have q : PostS X.K g ρ H W D (if k = true then
        match Fs (wipeE env' fg) st1 with
        | .nx env st => whileLoop (tru Fc) Fs fg m env st
        | .cnt env st => whileLoop (tru Fc) Fs fg m env st
        | .brk env st => .nx (wipeE env fg) st
        | r => r
      else .nx (wipeE env' fg) st1) := q
      have e1 := e'.trans ex
      cases k with
      | false => exact q σ' H1 ρ1 e1 R1 (En1.forget fg)
      | true =>
        rw [if_pos rfl] at q
        refine ⟨fun σ2 H2 => ∃ ρ' env' st', Ext ρ H ρ' H2 ∧ Rep X.K g.T ρ' st' H2 ∧ EnvR X.K ρ' H2 σ2 env' ∧ PostS X.K g ρ H W D (whileLoop (tru Fc) Fs fg m env' st'), fun σ2 H2 z => ⟨m, Nat.lt_succ_self m, z⟩, ρ1, wipeE env' fg, st1, R1, En1.forget fg, ?_⟩
        cases er : Fs (wipeE env' fg) st1 with
        | nx env3 st3 =>
          rw [er] at q
          exact fun σ3 H3 ρ3 e3 R3 En3 => ⟨ρ3, env3, st3, e1.trans e3, R3, En3, q⟩
        | cnt env3 st3 =>
          rw [er] at q
          exact fun σ3 H3 ρ3 e3 R3 En3 => ⟨ρ3, env3, st3, e1.trans e3, R3, En3, q⟩
        | brk env3 st3 =>
          rw [er] at q
          exact fun σ3 H3 ρ3 e3 R3 En3 => q σ3 H3 ρ3 (e1.trans e3) R3 (En3.forget fg)
        | ret d s =>
          rw [er] at q
          exact fun v H3 ρ3 e3 => q v H3 ρ3 (e1.trans e3)
        | exc c d env3 s =>
          rw [er] at q
          exact fun cls dx σ3 H3 ρ3 e3 => q cls dx σ3 H3 ρ3 (e1.trans e3)
        | err =>
          rw [er] at q
          exact q
end

/-! ### stores of a name that exchange -/
def swOf (p : Pl) (y : Str) (q : Pos) (scope : Scope) (vp : Pos) : Bool := decide (p.sc.names.lookup y = some .local) && q.line == vp.line && !(scope.names.any fun (n, k) => n == y && (k == .local || k == .cell))
theorem sw_eq {env : PySem.Env} {p : Pl} {e : Expr} {gs : List Comprehension} {scope : Scope} {vp q : Pos} {y : Str} {l : Nat} (hs : env.scope = p.sc) (hk : p.sc.kind = .function) : swapsWith (.ListComp e gs scope vp) (some (.Name y q)) l env = pure (swOf p y q scope vp) := by
  have hb : env.blockKind = .function := by
    unfold Env.blockKind
    rw [hs, hk]
    rfl
  have e1 : (env.kindOf y == some NameKind.local) = decide (p.sc.names.lookup y = some .local) := by
    unfold Env.kindOf
    rw [hs]
    by_cases z : p.sc.names.lookup y = some NameKind.local
    · rw [z]
      rfl
    · rw [decide_eq_false z]
      exact beq_eq_false_iff_ne.mpr z
  unfold swapsWith swOf
  show pure (env.blockKind == .function && env.kindOf y == some .local && q.line == vp.line && _) = _
  rw [hb, e1]
  simp only [Expr.pos, beq_self_eq_true, Bool.true_and]
def foldAll (a b : Expr) : Bool := foldedForSure 8 a && foldedForSure 8 b
def constAll (a b : Expr) : Bool := constantsAlone 8 a && constantsAlone 8 b
def parOk (p : Pl) (x : Str) (px : Pos) (y : Str) (py : Pos) (a b : Expr) : Bool := decide (p.sc.names.lookup x = some .local) && decide (p.sc.names.lookup y = some .local) && decide (x ≠ y) && py.line == px.line && !foldAll a b && !constAll a b && notStar a && notStar b
theorem par_eq {env : PySem.Env} {p : Pl} {a b : Expr} {x y : Str} {px py pt pt2 : Pos} {kt k2 : Nat} (hs : env.scope = p.sc) (hk : p.sc.kind = .function) (h : parOk p x px y py a b = true) : swappedStores [.Tuple [.Name x px, .Name y py] kt pt] (.Tuple [a, b] k2 pt2) env = pure (some [x, y]) := by
  have hb : env.blockKind = .function := by
    unfold Env.blockKind
    rw [hs, hk]
    rfl
  unfold parOk at h
  simp only [Bool.and_eq_true, decide_eq_true_eq, Bool.not_eq_true', beq_iff_eq] at h
  obtain ⟨⟨⟨⟨⟨⟨⟨h1, h2⟩, h3⟩, h4⟩, h5⟩, h6⟩, h7⟩, h8⟩ := h
  have k1 : (env.kindOf x == some NameKind.local) = true := by
    unfold Env.kindOf
    rw [hs, h1]
    rfl
  have k2 : (env.kindOf y == some NameKind.local) = true := by
    unfold Env.kindOf
    rw [hs, h2]
    rfl
  have s1 : ∀ e : Expr, notStar e = true → (match e with | .Starred .. => true | _ => false) = false := fun e he => by
    cases e <;> first | rfl | cases he
  unfold swappedStores
  unfold foldAll at h5
  unfold constAll at h6
  simp only [List.length_cons, List.length_nil, List.any_cons, List.any_nil, List.all_cons, List.all_nil, Bool.and_true, Bool.or_false, hb, h5, h6, List.head?_cons, Option.map_some, Option.getD_some, List.filterMap_cons, List.filterMap_nil, k1, k2, h4, Expr.pos, beq_self_eq_true, s1 a h7, s1 b h8]
  have ed : [x, y].eraseDups = [x, y] := by
    have : (y == x) = false := by
      simp only [beq_eq_false_iff_ne, ne_eq]
      exact fun z => h3 z.symm
    simp [List.eraseDups_cons, List.filter, this]
  simp [ed]
  intro z
  rcases z with z | z
  · cases a <;> first | (cases z; done) | (cases h7; done)
  · cases b <;> first | (cases z; done) | (cases h8; done)
end Pd
end
section
set_option Elab.async false
set_option linter.all false
set_option maxRecDepth 100000
set_option autoImplicit false
/-! The match of statements with the program's own, and that it is sound. -/
namespace Pd
open PySem PySem.Spec PyProof.Rows L2

def asg1 : Stmt → Option (Expr × Expr × Pos)
  | .Assign [t] v pos => some (t, v, pos)
  | _ => none
theorem asg1_eq {s : Stmt} {t v : Expr} {pos : Pos} (h : asg1 s = some (t, v, pos)) : s = .Assign [t] v pos := by
  unfold asg1 at h
  split at h
  · cases h
    rfl
  · cases h
def pair2 : Expr → Expr → Option (Str × Pos × Str × Pos × Expr × Expr)
  | .Tuple [.Name x px, .Name y py] _ _, .Tuple [a, b] _ _ => some (x, px, y, py, a, b)
  | _, _ => none
theorem pair2_eq {t v a b : Expr} {x y : Str} {px py : Pos} (h : pair2 t v = some (x, px, y, py, a, b)) : ∃ k p k2 p2, t = .Tuple [.Name x px, .Name y py] k p ∧ v = .Tuple [a, b] k2 p2 := by
  unfold pair2 at h
  split at h
  · cases h
    exact ⟨_, _, _, _, rfl, rfl⟩
  · cases h
def meth1 : Stmt → Option (Expr × Str × Pos × Expr × Pos)
  | .Expr (.Call (.Attribute o m ap) [z] [] cp) _ => some (o, m, ap, z, cp)
  | _ => none
theorem meth1_eq {s : Stmt} {o z : Expr} {m : Str} {ap cp : Pos} (h : meth1 s = some (o, m, ap, z, cp)) : ∃ pos, s = .Expr (.Call (.Attribute o m ap) [z] [] cp) pos := by
  unfold meth1 at h
  split at h
  · cases h
    exact ⟨_, rfl⟩
  · cases h
def notTup : Expr → Bool
  | .Tuple _ _ _ => false
  | _ => true
theorem notTup_sw {t v : Expr} {env : PySem.Env} (h : notTup v = true) : swappedStores [t] v env = pure none := by
  cases v <;> first | (cases t <;> rfl; done) | cases h
theorem notTup_sw2 {o i v : Expr} {q : Pos} {env : PySem.Env} : swappedStores [.Subscript o i q] v env = pure none := by
  cases v <;> rfl
/-- the value of a store to a name -/
def setOk (p : Pl) (y : Str) (q : Pos) (v : Expr) : E → Bool
  | .comp _ _ _ _ _ => match v with
    | .ListComp _ _ _ _ => true
    | _ => false
  | _ => noComp v
mutual
def mS : S → Pl → Stmt → Bool
  | .set i e, p, s => match asg1 s with
    | some (.Name y q, v, _) => tgtOk p i y && setOk p y q v e && mE e p v
    | _ => false
  | .unp is e, p, s => match asg1 s with
    | some (t, v, _) => mT p (.many is) t && noComp v && notTup v && mE e p v
    | _ => false
  | .par i j a b, p, s => match asg1 s with
    | some (t, v, _) => match pair2 t v with
      | some (x, px, y, py, l, r) => tgtOk p i x && tgtOk p j y && decide (i ≠ j) && parOk p x px y py l r && mE a p l && mE b p r
      | none => false
    | _ => false
  | .sub a i e, p, s => match asg1 s with
    | some (.Subscript o ix _, v, _) => plainIx ix && noComp v && mE e p v && mE a p o && mE i p ix
    | _ => false
  | .setf c a f e, p, s => match asg1 s with
    | some (.Attribute o m _, v, _) => decide (m = f) && p.g.flds.contains (c, f) && noComp v && mE e p v && mE a p o
    | _ => false
  | .aug i op e, p, s => match s with
    | .AugAssign (.Name y _) o v _ => tgtOk p i y && decide (o = pyB op) && (decide (op = .add) || decide (op = .sub)) && mE e p v
    | _ => false
  | .app a e, p, s => match meth1 s with
    | some (o, m, ap, z, cp) => decide (m = Str.ofString "append") && plainBase o && notStar z && ap.endLine == cp.line && mE a p o && mE e p z
    | none => false
  | .sadd _ _, _, _ => false
  | .drop e, p, s => match s with
    | .Expr v _ => noComp v && mE e p v
    | _ => false
  | .iff c a b, p, s => match s with
    | .If t x y _ => mE c p t && mSs a p x && mSs b p y
    | _ => false
  | .ret e, p, s => match s with
    | .Return (some v) _ => mE e p v
    | _ => false
  | .retN, _, s => match s with
    | .Return none _ => true
    | _ => false
  | .brk, _, s => match s with
    | .Break _ => true
    | _ => false
  | .cont, _, s => match s with
    | .Continue _ => true
    | _ => false
  | .pass, _, s => match s with
    | .Pass _ => true
    | _ => false
  | .never, _, _ => true
  | .loop tg it body _, p, s => match s with
    | .For t i b [] _ => mT p tg t && notSet i && mIt it p i && mSs body p b
    | _ => false
  | .whil c body _, p, s => match s with
    | .While t b [] _ => mE c p t && mSs body p b
    | _ => false
  | .raise1 _ _, _, _ => false
  | .raise0 _, _, _ => false
def mSs : Ss → Pl → List Stmt → Bool
  | .nil, _, ss => match ss with
    | [] => true
    | _ => false
  | .cons s r, p, ss => match ss with
    | x :: xs => mS s p x && mSs r p xs
    | _ => false
end
structure Sok (X : Cx) (p : Pl) (cl : Fn) (n : Nat) (W : WX) : Prop extends Cok X p cl n W where
  kd : p.sc.kind = .function
  own : PassesOwn (model X.prog X.w) X.A X.env X.xe
section
variable {cl : Fn} {fuel : Nat}
def SS (cl : Fn) (fuel : Nat) (s : S) : Prop := ∀ (X : Cx) (p : Pl) (n : Nat) (W : WX) (x : Stmt), Sok X p cl n W → mS s p x = true → PS X x (tSt X.K p.g W (denS cl fuel s))
def SSs (cl : Fn) (fuel : Nat) (ss : Ss) : Prop := ∀ (X : Cx) (p : Pl) (n : Nat) (W : WX) (xs : List Stmt), Sok X p cl n W → mSs ss p xs = true → PSs X xs (tSt X.K p.g W (denSs cl fuel ss))
theorem ss_set {i : Nat} {e : E} : SS cl fuel (.set i e) := fun X p n W x C h => by
  have h : (match asg1 x with
    | some (.Name y q, v, _) => tgtOk p i y && setOk p y q v e && mE e p v
    | _ => false) = true := h
  cases ea : asg1 x with
  | none =>
    rw [ea] at h
    cases h
  | some tv =>
    obtain ⟨t, v, pos⟩ := tv
    rw [ea] at h
    have := asg1_eq ea
    subst this
    cases t with
    | Name y q =>
      obtain ⟨h1, h2, h3⟩ := and3 (show (tgtOk p i y && setOk p y q v e && mE e p v) = true from h)
      obtain ⟨t1, t2, t3⟩ := C.tgt h1
      have hv := (sE e X p n W v C.toCok h3).1
      by_cases hn : noComp v = true
      · exact st_set (by rw [C.nm]; exact C.nd) t1 t2 t3 hv (noSwap hn)
      · cases e with
        | comp elt tg it cond own =>
          cases v with
          | ListComp e gs scope vp =>
            have es := sw_eq (l := pos.line) (e := e) (gs := gs) (scope := scope) (vp := vp) (q := q) (y := y) C.sc C.kd
            cases hsw : swOf p y q scope vp with
            | false =>
              rw [hsw] at es
              exact st_set (by rw [C.nm]; exact C.nd) t1 t2 t3 hv es
            | true =>
              rw [hsw] at es
              have hl : X.env.scope.names.lookup y = some .local := by
                unfold swOf at hsw
                rw [Bool.and_eq_true, Bool.and_eq_true, decide_eq_true_eq] at hsw
                rw [C.sc]
                exact hsw.1.1
              have hg : (match gen1 gs with
                | some (t, i, ifs) => notSet i && blkC p.N p.sc scope (namesAt p.N own) && tg.slots.all (own.contains ·) && mT (p.blk scope) tg t && mIt it p i && mC cond (p.blk scope) ifs && mE elt (p.blk scope) e
                | none => false) = true := h3
              cases eg : gen1 gs with
              | none =>
                rw [eg] at hg
                cases hg
              | some tt =>
                obtain ⟨t, it2, ifs⟩ := tt
                rw [eg] at hg
                have := gen1_eq eg
                subst this
                have h' : (notSet it2 && blkC p.N p.sc scope (namesAt p.N own) && tg.slots.all (own.contains ·) && mT (p.blk scope) tg t && mIt it p it2 && mC cond (p.blk scope) ifs && mE elt (p.blk scope) e) = true := hg
                rw [Bool.and_eq_true, Bool.and_eq_true, Bool.and_eq_true, Bool.and_eq_true, Bool.and_eq_true, Bool.and_eq_true] at h'
                obtain ⟨⟨⟨⟨⟨⟨h2, h3⟩, h4⟩, h5⟩, h6⟩, h7⟩, h8⟩ := h'
                have ok := blkOk_by h3
                rw [← C.nm, ← C.sc] at ok
                have hv : ∀ j ∈ tg.slots, j ∈ (namesAt X.N own).map (·.2) := fun j hj => by
                  rw [namesAt_snd]
                  exact List.contains_iff_mem.mp (List.all_eq_true.mp h4 j hj)
                have B : ∀ (s : Shared) (H : Hp) (Cl : Addr) (cls : List (Str × Addr)) (fp : List Addr), Cok (X.blk s H scope (compEnvC scope cls Cl X.env) fp) (p.blk scope) cl n noW := fun s H Cl cls fp => C.toCok.blk
                have z := ps_setLc (te := tE X.K p.g noW (den cl elt)) (tt := tT X.K p.g noW (denCond cl cond)) (g := gT X.K tg) (py := q) (pos := vp) (spos := pos) (ifs := ifs) C.calm (by rw [C.nm]; exact C.nd) t1 hl es (sIt it X p n W it2 t C.toCok h6) ok (fun s H Cl cls fp => (B s H Cl cls fp).tg h5) (fun s H Cl cls fp => (sEo cond _ _ n noW (B s H Cl cls fp)).2 ifs h7) (fun s H Cl cls fp => (sE elt _ _ n noW e (B s H Cl cls fp) h8).1) (notSet_ok h2)
                rw [namesAt_snd] at z hv
                exact psW z fun Dn σ H q => asg_go (t := .one i) (fun σ H Q h => lc_go hv h) q
          | _ => cases h2
        | _ => exact absurd h2 hn
    | _ => cases h
theorem ss_unp {is : List Nat} {e : E} : SS cl fuel (.unp is e) := fun X p n W x C h => by
  have h : (match asg1 x with
    | some (t, v, _) => mT p (.many is) t && noComp v && notTup v && mE e p v
    | _ => false) = true := h
  cases ea : asg1 x with
  | none =>
    rw [ea] at h
    cases h
  | some tv =>
    obtain ⟨t, v, pos⟩ := tv
    rw [ea] at h
    have := asg1_eq ea
    subst this
    obtain ⟨h1, h2, h3, h4⟩ := and4 (show (mT p (.many is) t && noComp v && notTup v && mE e p v) = true from h)
    refine st_asg (t := .many is) (sE e X p n W v C.toCok h4).1 (C.tg h1) h2 (notTup_sw h3) ?_
    cases t with
    | Tuple _ _ _ => rfl
    | _ => cases h1
theorem ss_par {i j : Nat} {a b : E} : SS cl fuel (.par i j a b) := fun X p n W x C h => by
  have h : (match asg1 x with
    | some (t, v, _) => match pair2 t v with
      | some (x, px, y, py, l, r) => tgtOk p i x && tgtOk p j y && decide (i ≠ j) && parOk p x px y py l r && mE a p l && mE b p r
      | none => false
    | _ => false) = true := h
  cases ea : asg1 x with
  | none =>
    rw [ea] at h
    cases h
  | some tv =>
    obtain ⟨t, v, pos⟩ := tv
    rw [ea] at h
    have := asg1_eq ea
    subst this
    have h : (match pair2 t v with
      | some (x, px, y, py, l, r) => tgtOk p i x && tgtOk p j y && decide (i ≠ j) && parOk p x px y py l r && mE a p l && mE b p r
      | none => false) = true := h
    cases ep : pair2 t v with
    | none =>
      rw [ep] at h
      cases h
    | some z =>
      obtain ⟨x, px, y, py, l, r⟩ := z
      rw [ep] at h
      obtain ⟨k, q, k2, q2, rfl, rfl⟩ := pair2_eq ep
      have h' : (tgtOk p i x && tgtOk p j y && decide (i ≠ j) && parOk p x px y py l r && mE a p l && mE b p r) = true := h
      rw [Bool.and_eq_true, Bool.and_eq_true, Bool.and_eq_true, Bool.and_eq_true, Bool.and_eq_true, decide_eq_true_eq] at h'
      obtain ⟨⟨⟨⟨⟨h1, h2⟩, h3⟩, h4⟩, h5⟩, h6⟩ := h'
      have hw := par_eq (px := px) (py := py) (pt := q) (pt2 := q2) (kt := k) (k2 := k2) C.sc C.kd h4
      unfold parOk at h4
      simp only [Bool.and_eq_true, decide_eq_true_eq] at h4
      obtain ⟨⟨⟨⟨⟨⟨⟨l1, l2⟩, l3⟩, _⟩, _⟩, _⟩, l7⟩, l8⟩ := h4
      exact st_par C.calm (by rw [C.nm]; exact C.nd) (C.tgt h1).1 (C.tgt h2).1 h3 (by rw [C.sc]; exact l1) (by rw [C.sc]; exact l2) (sE a X p n W l C.toCok h5).1 (sE b X p n W r C.toCok h6).1 (star_cons l7) (star_cons l8) hw
theorem ss_sub {a i e : E} : SS cl fuel (.sub a i e) := fun X p n W x C h => by
  have h : (match asg1 x with
    | some (.Subscript o ix _, v, _) => plainIx ix && noComp v && mE e p v && mE a p o && mE i p ix
    | _ => false) = true := h
  cases ea : asg1 x with
  | none =>
    rw [ea] at h
    cases h
  | some tv =>
    obtain ⟨t, v, pos⟩ := tv
    rw [ea] at h
    have := asg1_eq ea
    subst this
    cases t with
    | Subscript o ix q =>
      have h' : (plainIx ix && noComp v && mE e p v && mE a p o && mE i p ix) = true := h
      rw [Bool.and_eq_true, Bool.and_eq_true, Bool.and_eq_true, Bool.and_eq_true] at h'
      obtain ⟨⟨⟨⟨h1, h2⟩, h3⟩, h4⟩, h5⟩ := h'
      exact st_sub C.ofx C.units (sE e X p n W v C.toCok h3).1 (sE a X p n W o C.toCok h4).1 (sE i X p n W ix C.toCok h5).1 h1 h2 notTup_sw2
    | _ => cases h
theorem ss_setf {c : Nat} {f : Str} {a e : E} : SS cl fuel (.setf c a f e) := fun X p n W x C h => by
  have h : (match asg1 x with
    | some (.Attribute o m _, v, _) => decide (m = f) && p.g.flds.contains (c, f) && noComp v && mE e p v && mE a p o
    | _ => false) = true := h
  cases ea : asg1 x with
  | none =>
    rw [ea] at h
    cases h
  | some tv =>
    obtain ⟨t, v, pos⟩ := tv
    rw [ea] at h
    have := asg1_eq ea
    subst this
    cases t with
    | Attribute o m q =>
      have h' : (decide (m = f) && p.g.flds.contains (c, f) && noComp v && mE e p v && mE a p o) = true := h
      rw [Bool.and_eq_true, Bool.and_eq_true, Bool.and_eq_true, Bool.and_eq_true, decide_eq_true_eq] at h'
      obtain ⟨⟨⟨⟨h1, h2⟩, h3⟩, h4⟩, h5⟩ := h'
      subst h1
      obtain ⟨k1, k2⟩ := C.kl.fl c m (List.contains_iff_mem.mp h2)
      exact st_setf k1 k2 (sE e X p n W v C.toCok h4).1 (sE a X p n W o C.toCok h5).1 h3
    | _ => cases h
theorem ss_aug {i : Nat} {op : BOp} {e : E} : SS cl fuel (.aug i op e) := fun X p n W x C h => by
  cases x with
  | AugAssign t o v pos =>
    cases t with
    | Name y q =>
      obtain ⟨h1, h2, h3, h4⟩ := and4 (show (tgtOk p i y && decide (o = pyB op) && (decide (op = .add) || decide (op = .sub)) && mE e p v) = true from h)
      have e1 : o = pyB op := of_decide_eq_true h2
      subst e1
      obtain ⟨t1, t2, t3⟩ := C.tgt h1
      refine st_aug (by rw [C.nm]; exact C.nd) t1 t2 t3 (sE e X p n W v C.toCok h4).1 ?_
      rw [Bool.or_eq_true, decide_eq_true_eq, decide_eq_true_eq] at h3
      exact h3
    | _ => cases h
  | _ => cases h
theorem ss_app {a e : E} : SS cl fuel (.app a e) := fun X p n W x C h => by
  have h : (match meth1 x with
    | some (o, m, ap, z, cp) => decide (m = Str.ofString "append") && plainBase o && notStar z && ap.endLine == cp.line && mE a p o && mE e p z
    | none => false) = true := h
  cases em : meth1 x with
  | none =>
    rw [em] at h
    cases h
  | some t =>
    obtain ⟨o, m, ap, z, cp⟩ := t
    rw [em] at h
    obtain ⟨pos, rfl⟩ := meth1_eq em
    have h' : (decide (m = Str.ofString "append") && plainBase o && notStar z && ap.endLine == cp.line && mE a p o && mE e p z) = true := h
    rw [Bool.and_eq_true, Bool.and_eq_true, Bool.and_eq_true, Bool.and_eq_true, Bool.and_eq_true, decide_eq_true_eq] at h'
    obtain ⟨⟨⟨⟨⟨h1, h2⟩, h3⟩, h4⟩, h5⟩, h6⟩ := h'
    subst h1
    exact st_app (sE a X p n W o C.toCok h5).1 (sE e X p n W z C.toCok h6).1 h2 (star_cons h3) h4
theorem ss_drop {e : E} : SS cl fuel (.drop e) := fun X p n W x C h => by
  cases x with
  | Expr v pos =>
    obtain ⟨h1, h2⟩ := and2 (show (noComp v && mE e p v) = true from h)
    exact st_drop (sE e X p n W v C.toCok h2).1 h1
  | _ => cases h
theorem ss_iff {c : E} {a b : Ss} (sa : SSs cl fuel a) (sb : SSs cl fuel b) : SS cl fuel (.iff c a b) := fun X p n W x C h => by
  cases x with
  | If t xs ys pos =>
    obtain ⟨h1, h2, h3⟩ := and3 (show (mE c p t && mSs a p xs && mSs b p ys) = true from h)
    exact st_if (sE c X p n W t C.toCok h1).2 (sa X p n W xs C h2) (sb X p n W ys C h3)
  | _ => cases h
theorem ss_ret {e : E} : SS cl fuel (.ret e) := fun X p n W x C h => by
  cases x with
  | Return v pos =>
    cases v with
    | some v => exact st_ret (sE e X p n W v C.toCok h).1
    | none => cases h
  | _ => cases h
theorem ss_retN : SS cl fuel .retN := fun X p n W x C h => by
  cases x with
  | Return v pos =>
    cases v with
    | some v => cases h
    | none => exact st_retN
  | _ => cases h
theorem ss_brk : SS cl fuel .brk := fun X p n W x C h => by
  cases x with
  | Break pos => exact st_brk
  | _ => cases h
theorem ss_cont : SS cl fuel .cont := fun X p n W x C h => by
  cases x with
  | Continue pos => exact st_cont
  | _ => cases h
theorem ss_pass : SS cl fuel .pass := fun X p n W x C h => by
  cases x with
  | Pass pos => exact st_pass
  | _ => cases h
theorem ss_never : SS cl fuel .never := fun X p n W x C h => psW ps_never fun Dn σ H ⟨ρ, env, st, R, En, q⟩ => q.elim
theorem ss_loop {tg : Tg} {it : It} {body : Ss} {fg : List Nat} (sb : SSs cl fuel body) : SS cl fuel (.loop tg it body fg) := fun X p n W x C h => by
  cases x with
  | For t i b o pos =>
    cases o with
    | nil =>
      obtain ⟨h1, h2, h3, h4⟩ := and4 (show (mT p tg t && notSet i && mIt it p i && mSs body p b) = true from h)
      exact st_for C.own C.calm (sIt it X p n W i t C.toCok h3) (C.tg h1) (sb X p n W b C h4) (notSet_ok h2)
    | cons _ _ => cases h
  | _ => cases h
theorem ss_whil {c : E} {body : Ss} {fg : List Nat} (sb : SSs cl fuel body) : SS cl fuel (.whil c body fg) := fun X p n W x C h => by
  cases x with
  | While t b o pos =>
    cases o with
    | nil =>
      obtain ⟨h1, h2⟩ := and2 (show (mE c p t && mSs body p b) = true from h)
      exact st_while C.own (sE c X p n W t C.toCok h1).2 (sb X p n W b C h2)
    | cons _ _ => cases h
  | _ => cases h
mutual
theorem sS : ∀ s : S, SS cl fuel s
  | .set i e => ss_set
  | .unp is e => ss_unp
  | .par i j a b => ss_par
  | .sub a i e => ss_sub
  | .setf c a f e => ss_setf
  | .aug i op e => ss_aug
  | .app a e => ss_app
  | .drop e => ss_drop
  | .iff c a b => ss_iff (sSs a) (sSs b)
  | .ret e => ss_ret
  | .retN => ss_retN
  | .brk => ss_brk
  | .cont => ss_cont
  | .pass => ss_pass
  | .never => ss_never
  | .loop tg it body fg => ss_loop (sSs body)
  | .whil c body fg => ss_whil (sSs body)
  | .sadd _ _ => fun X p n W x C h => by cases h
  | .raise1 _ _ => fun X p n W x C h => by cases h
  | .raise0 _ => fun X p n W x C h => by cases h
theorem sSs : ∀ ss : Ss, SSs cl fuel ss
  | .nil => fun X p n W xs C h => by
    cases xs with
    | nil => exact st_nil
    | cons _ _ => cases h
  | .cons s r => fun X p n W xs C h => by
    cases xs with
    | nil => cases h
    | cons x xs =>
      obtain ⟨h1, h2⟩ := and2 (show (mS s p x && mSs r p xs) = true from h)
      exact st_cons (sS s X p n W x C h1) (sSs r X p n W xs C h2)
end
end
end Pd
end
section
set_option Elab.async false
set_option linter.all false
set_option maxRecDepth 100000
set_option autoImplicit false
/-! The defs of the text keep what run says. -/
namespace Pd
open PySem PySem.Spec PyProof.Rows L2

/-- a def of the text: where it stands, its slots, its parameters, what it does -/
structure Df where
  d : He.DefD
  N : List Str
  ps : List Str
  fd : Fd
def scopeOk (N ps : List Str) (sc : Scope) : Bool := decide (sc.kind = .function) && !sc.isCoroutine && !sc.isGenerator && decide N.Nodup && decide (N.take ps.length = ps) &&
  (ps.all fun x => match sc.names.lookup x with
    | some .local => true
    | some .cell => true
    | _ => false) && sc.names.all fun y => match y.2 with
    | .free => false
    | _ => true
theorem scopeOk_ok {N ps : List Str} {sc : Scope} (h : scopeOk N ps sc = true) : FnScope N ps sc := by
  unfold scopeOk at h
  simp only [Bool.and_eq_true, decide_eq_true_eq, Bool.not_eq_true', List.all_eq_true] at h
  obtain ⟨⟨⟨⟨⟨⟨h1, h2⟩, h3⟩, h4⟩, h5⟩, h6⟩, h7⟩ := h
  refine ⟨h1, h2, h3, h4, h5, fun x hx => ?_, fun y hy z => ?_⟩
  · have q := h6 x hx
    split at q
    · exact .inl (by assumption)
    · exact .inr (by assumption)
    · cases q
  · have q := h7 y hy
    rw [z] at q
    cases q
def Df.pl (g : Sig) (x : Df) : Pl := ⟨g, x.d.scope, x.N, fun _ => true⟩
def Df.good (g : Sig) (x : Df) : Bool := scopeOk x.N x.ps x.d.scope && decide (x.N.length = x.fd.names) && decide (x.ps.length = x.fd.ps) && x.d.dfl.isEmpty && x.d.kwd.isEmpty && mSs x.fd.body (x.pl g) x.d.body
/-- how it takes its arguments -/
def Df.takes (x : Df) : Prop := ∀ (kV doc pm : Value) (an : Option Addr) (cdv ct : Value) (us : List Value), us.length = x.ps.length → bindArgs (PySem.W.fnOf x.d.name x.d.qual x.d.params x.d.body x.d.scope .none kV doc pm an cdv ct) ⟨us, []⟩ = pure (x.ps.zip us)
section
variable {P : Program} {w : World} {K : PySem.W.Frag} {mg : Str → Option Value} {base : Heap} {fuel : Nat} {g : Sig}
def FnsAll (P : Program) (w : World) (K : PySem.W.Frag) (mg : Str → Option Value) (base : Heap) (g : Sig) (cl : Fn) (k : Nat) : Prop := ∀ (x : Str) (i n : Nat), g.names.lookup x = some (i, n) → ∃ (f : Addr) (fd : FuncData) (ps : List Str), mg x = some (.ref f) ∧ PySem.W.keepIn K (.ref f) = true ∧ Binds K fd ps [] ∧ ps.length = n ∧
  FnOk P w K mg base (L2.CX P w) k f fd ps (spF K g n (cl i))
structure ClsAll (P : Program) (w : World) (K : PySem.W.Frag) (mg : Str → Option Value) (base : Heap) (g : Sig) (cl : Fn) (k : Nat) : Prop where
  nm : ∀ x c, (x, c) ∈ g.clsN → mg x = some (.ref (g.T.cls c))
  mks : ∀ c i n, (c, i, n) ∈ g.mks → ∃ (f : Addr) (fd : FuncData) (ps : List Str), Mk K (g.T.cls c) f ∧ Binds K fd ps [] ∧ FnOk P w K mg base (L2.CX P w) k f fd ps (spF K g (n + 1) (cl i))
  mt : ∀ c m i n, (c, m, i, n) ∈ g.meths → Cls K (g.T.cls c) ∧ ∃ (f : Addr) (fd : FuncData) (ps : List Str), Meth K (g.T.cls c) m f ∧ Binds K fd ps [] ∧ FnOk P w K mg base (L2.CX P w) k f fd ps (spF K g (n + 1) (cl i))
  fl : ∀ c f, (c, f) ∈ g.flds → Cls K (g.T.cls c) ∧ NoAttr K (g.T.cls c) f
/-- one def, where its callees keep what they say -/
theorem def_ok {x : Df} {cl : Fn} {n : Nat} {f : Addr} {fd : FuncData} (hg : x.good g = true) (F : FunD K x.d.name x.d.qual x.d.params x.d.body x.d.scope (x.d.dvs K) (x.d.kws K) f fd) (hf : FnsAll P w K mg base g cl (3 * n)) (hk : ClsAll P w K mg base g cl (3 * n)) (hfree : ∀ y ∈ g.free, mg y = none) (hP : g.T.P = P) (hw : g.T.w = w)
    (hcon : ∀ y d, g.consts.lookup y = some d → ∃ v u, mg y = some u ∧ RelV v u ∧ ∀ ρ H, VR K ρ H v d) : FnOk P w K mg base (L2.CX P w) (3 * (n + 1)) f fd x.ps (spF K g x.ps.length (runFd cl fuel x.fd)) := by
  unfold Df.good at hg
  simp only [Bool.and_eq_true, decide_eq_true_eq] at hg
  obtain ⟨⟨⟨⟨⟨h1, h2⟩, h3⟩, _⟩, _⟩, h6⟩ := hg
  have S := scopeOk_ok h1
  have e3 : 3 * (n + 1) = (3 * n + 2) + 1 := by omega
  rw [e3]
  refine F.ok S (fun vs H Q E h => h.1) fun cdv A outer s H vs Q E hr h => ?_
  refine ⟨tSt K g (fun cls d _ H => E cls d H) (denSs cl fuel x.fd.body), ?_, ?_⟩
  · refine sSs x.fd.body _ (x.pl g) n _ _ ⟨⟨rfl, rfl, rfl, S.nd, rfl, hr, takes_of rfl rfl rfl rfl, hf, ⟨hk.nm, hk.mks, hk.mt, hk.fl⟩, hfree, ⟨hP, hw⟩, hcon⟩, S.kind, passes_of rfl⟩ h6
  · obtain ⟨hl, ρ, st, ds, R, rv, q⟩ := h
    have hd : ds.length = x.fd.ps := by rw [← rv.length, hl, h3]
    have q : Post K g (relD K) ρ H E Q (if ds.length = x.fd.ps then
      match denSs cl fuel x.fd.body (startE x.fd.names ds) st with
      | .nx _ st => .ok .non st
      | .ret d st => .ok d st
      | .exc c d _ st => .exc c d st
      | _ => .err
      else .err) := q
    rw [if_pos hd] at q
    have en := EnvR.start (N := x.N) rv
    rw [h2] at en
    refine ⟨ρ, _, st, R, en, ?_⟩
    cases er : denSs cl fuel x.fd.body (startE x.fd.names ds) st with
    | nx env s =>
      rw [er] at q
      exact fun σ' H' ρ' e' R' _ => q .non H' ρ' e' R' .non
    | ret d s =>
      rw [er] at q
      exact fun v H' ρ' e' R' r => q v H' ρ' e' R' r
    | exc c d env s =>
      rw [er] at q
      exact fun cls dx σ' H' ρ' e' R' _ xr => q cls dx H' ρ' e' R' xr
    | brk _ _ =>
      rw [er] at q
      exact q.elim
    | cnt _ _ =>
      rw [er] at q
      exact q.elim
    | err =>
      rw [er] at q
      exact q.elim
/-! ### the table -/
structure Tabl where
  g : Sig
  fs : List Df
  more : List He.Fa
  /-- the names of the classes -/
  cn : List Str
def Tabl.cname (t : Tabl) (c : Nat) : Str := t.cn.getD c ""
def Tabl.kfa (t : Tabl) : List He.Fa := (t.g.clsN.map fun p => He.Fa.glo p.1) ++ (t.g.mks.map fun p => He.Fa.mkr (t.cname p.1)) ++ (t.g.meths.map fun p => He.Fa.cls (t.cname p.1)) ++ (t.g.meths.map fun p => He.Fa.meth (t.cname p.1) p.2.1) ++ (t.g.flds.map fun p => He.Fa.cls (t.cname p.1)) ++ (t.g.flds.map fun p => He.Fa.noat (t.cname p.1) p.2)
def Tabl.fa (t : Tabl) : List He.Fa := (t.g.names.map fun p => He.Fa.glo p.1) ++ (t.g.free.map fun x => He.Fa.free x) ++ t.more ++ t.kfa
def Tabl.fn (t : Tabl) : List He.DefD := t.fs.map (·.d)
def Tabl.cl (t : Tabl) (fuel n : Nat) : Fn := run (t.fs.map Df.fd) fuel n
def Tabl.good (t : Tabl) : Bool := (t.fs.all fun x => x.good t.g) && t.g.names.all fun p => match t.fs[p.2.1]? with
  | some x => decide (x.d.at_ = (p.1, none)) && decide (x.ps.length = p.2.2)
  | none => false
def Tabl.goodK (t : Tabl) : Bool := (t.g.clsN.all fun p => decide (t.cname p.2 = p.1)) && (t.g.mks.all fun p => match t.fs[p.2.1]? with
  | some x => decide (x.d.at_ = (t.cname p.1, some (Str.ofString "__init__"))) && decide (x.ps.length = p.2.2 + 1)
  | none => false) && t.g.meths.all fun p => match t.fs[p.2.2.1]? with
  | some x => decide (x.d.at_ = (t.cname p.1, some p.2.1)) && decide (x.ps.length = p.2.2.2 + 1)
  | none => false
theorem says_mem {fa : List He.Fa} {fn : List He.DefD} (c : He.SaysD fa fn K) {f : He.Fa} (h : f ∈ fa) : f.ok K = true := by
  obtain ⟨i, hi, e⟩ := List.getElem_of_mem h
  exact c.fact i (f := f) (by rw [List.getElem?_eq_getElem hi, e])
theorem mem_lookup2 {α : Type} : ∀ {l : List (Str × α)} {x : Str} {a : α}, l.lookup x = some a → (x, a) ∈ l
  | (y, b) :: r, x, a, h => by
    rw [List.lookup_cons] at h
    cases hb : x == y with
    | true =>
      rw [hb] at h
      cases h
      rw [eq_of_beq hb]
      exact List.mem_cons_self
    | false =>
      rw [hb] at h
      exact List.mem_cons_of_mem _ (mem_lookup2 h)
  | [], _, _, h => by simp at h
theorem table_ok {t : Tabl} {h0 : Heap} (hgood : t.good = true) (hgk : t.goodK = true) (hcls : ∀ c, t.g.T.cls c = He.ga K (t.cname c)) (htk : ∀ (i : Nat) (x : Df), t.fs[i]? = some x → x.takes) (X0 : K.In h0) (G0 : h0.Ns mainGlobals mg) (c : He.SaysD t.fa t.fn K) (hP : t.g.T.P = P) (hw : t.g.T.w = w)
    (hcon : ∀ y d, t.g.consts.lookup y = some d → ∃ v u, mg y = some u ∧ RelV v u ∧ ∀ ρ H, VR K ρ H v d) :
    ∀ n, (∀ (i : Nat) (x : Df), t.fs[i]? = some x → ∃ fd, FunD K x.d.name x.d.qual x.d.params x.d.body x.d.scope (x.d.dvs K) (x.d.kws K) (He.fAd K x.d.at_) fd ∧ FnOk P w K mg base (L2.CX P w) (3 * n) (He.fAd K x.d.at_) fd x.ps (spF K t.g x.ps.length (t.cl fuel n i))) ∧ FnsAll P w K mg base t.g (t.cl fuel n) (3 * n) ∧ ClsAll P w K mg base t.g (t.cl fuel n) (3 * n) := by
  unfold Tabl.good at hgood
  obtain ⟨hg1, hg2⟩ := and2 hgood
  have hfree : ∀ y ∈ t.g.free, mg y = none := fun y hy => He.free_ok X0 G0 (says_mem c (List.mem_append_left _ (List.mem_append_left _ (List.mem_append_right _ (List.mem_map.mpr ⟨y, hy, rfl⟩)))))
  have one : ∀ (i : Nat) (x : Df), t.fs[i]? = some x → x.good t.g = true ∧ ∃ fd, FunD K x.d.name x.d.qual x.d.params x.d.body x.d.scope (x.d.dvs K) (x.d.kws K) (He.fAd K x.d.at_) fd := fun i x hx => by
    refine ⟨List.all_eq_true.mp hg1 x (List.mem_of_getElem? hx), c.def_ i (d := x.d) ?_⟩
    unfold Tabl.fn
    rw [List.getElem?_map, hx]
    rfl
  have all : ∀ n, (∀ (i : Nat) (x : Df), t.fs[i]? = some x → ∃ fd, FunD K x.d.name x.d.qual x.d.params x.d.body x.d.scope (x.d.dvs K) (x.d.kws K) (He.fAd K x.d.at_) fd ∧ FnOk P w K mg base (L2.CX P w) (3 * n) (He.fAd K x.d.at_) fd x.ps (spF K t.g x.ps.length (t.cl fuel n i))) → FnsAll P w K mg base t.g (t.cl fuel n) (3 * n) := fun n IH y i m hy => by
    have hm := List.all_eq_true.mp hg2 (y, i, m) (mem_lookup2 hy)
    dsimp only at hm
    cases hx : t.fs[i]? with
    | none =>
      rw [hx] at hm
      cases hm
    | some x =>
      rw [hx] at hm
      obtain ⟨e1, e2⟩ := and2 hm
      have e1 : x.d.at_ = (y, none) := of_decide_eq_true e1
      have e2 : x.ps.length = m := of_decide_eq_true e2
      obtain ⟨fd, F, ok⟩ := IH i x hx
      have hfd : x.d.dvs K = [] := by
        have := (one i x hx).1
        unfold Df.good at this
        simp only [Bool.and_eq_true, List.isEmpty_iff] at this
        unfold He.DefD.dvs
        rw [this.1.1.2]
        rfl
      refine ⟨He.fAd K x.d.at_, fd, x.ps, ?_, F.kp, ?_, e2, by rw [← e2]; exact ok⟩
      · rw [e1]
        exact He.glo_ok X0 G0 (says_mem c (List.mem_append_left _ (List.mem_append_left _ (List.mem_append_left _ (List.mem_map.mpr ⟨(y, i, m), mem_lookup2 hy, rfl⟩)))))
      · rw [hfd] at F
        exact F.bindsN (htk i x hx)
  have nodfl : ∀ (i : Nat) (x : Df), t.fs[i]? = some x → x.d.dvs K = [] := fun i x hx => by
    have := (one i x hx).1
    unfold Df.good at this
    simp only [Bool.and_eq_true, List.isEmpty_iff] at this
    unfold He.DefD.dvs
    rw [this.1.1.2]
    rfl
  have kf : ∀ f, f ∈ t.kfa → f.ok K = true := fun f h => says_mem c (List.mem_append_right _ h)
  unfold Tabl.goodK at hgk
  obtain ⟨gk1, gk2, gk3⟩ := and3 hgk
  have allK : ∀ n, (∀ (i : Nat) (x : Df), t.fs[i]? = some x → ∃ fd, FunD K x.d.name x.d.qual x.d.params x.d.body x.d.scope (x.d.dvs K) (x.d.kws K) (He.fAd K x.d.at_) fd ∧ FnOk P w K mg base (L2.CX P w) (3 * n) (He.fAd K x.d.at_) fd x.ps (spF K t.g x.ps.length (t.cl fuel n i))) → ClsAll P w K mg base t.g (t.cl fuel n) (3 * n) := fun n IH => by
    refine ⟨fun x cc hx => ?_, fun cc i m hx => ?_, fun cc m i k hx => ?_, fun cc f hx => ?_⟩
    · have e := of_decide_eq_true (List.all_eq_true.mp gk1 _ hx)
      rw [hcls, e]
      exact He.glo_ok X0 G0 (kf _ (List.mem_append_left _ (List.mem_append_left _ (List.mem_append_left _ (List.mem_append_left _ (List.mem_append_left _ (List.mem_map.mpr ⟨_, hx, rfl⟩)))))))
    · have hm := List.all_eq_true.mp gk2 _ hx
      dsimp only at hm
      cases hf : t.fs[i]? with
      | none =>
        rw [hf] at hm
        cases hm
      | some x =>
        rw [hf] at hm
        obtain ⟨e1, e2⟩ := and2 hm
        have e1 : x.d.at_ = (t.cname cc, some (Str.ofString "__init__")) := of_decide_eq_true e1
        have e2 : x.ps.length = m + 1 := of_decide_eq_true e2
        obtain ⟨fd, F, ok⟩ := IH i x hf
        rw [nodfl i x hf] at F
        refine ⟨He.fAd K x.d.at_, fd, x.ps, ?_, F.bindsN (htk i x hf), by rw [← e2]; exact ok⟩
        rw [e1, hcls]
        exact He.mkr_ok (kf _ (List.mem_append_left _ (List.mem_append_left _ (List.mem_append_left _ (List.mem_append_left _ (List.mem_append_right _ (List.mem_map.mpr ⟨_, hx, rfl⟩)))))))
    · have hm := List.all_eq_true.mp gk3 _ hx
      dsimp only at hm
      cases hf : t.fs[i]? with
      | none =>
        rw [hf] at hm
        cases hm
      | some x =>
        rw [hf] at hm
        obtain ⟨e1, e2⟩ := and2 hm
        have e1 : x.d.at_ = (t.cname cc, some m) := of_decide_eq_true e1
        have e2 : x.ps.length = k + 1 := of_decide_eq_true e2
        obtain ⟨fd, F, ok⟩ := IH i x hf
        rw [nodfl i x hf] at F
        refine ⟨?_, He.fAd K x.d.at_, fd, x.ps, ?_, F.bindsN (htk i x hf), by rw [← e2]; exact ok⟩
        · rw [hcls]
          exact He.cls_ok (kf _ (List.mem_append_left _ (List.mem_append_left _ (List.mem_append_left _ (List.mem_append_right _ (List.mem_map.mpr ⟨_, hx, rfl⟩))))))
        · rw [e1, hcls]
          exact He.meth_ok (kf _ (List.mem_append_left _ (List.mem_append_left _ (List.mem_append_right _ (List.mem_map.mpr ⟨_, hx, rfl⟩)))))
    · rw [hcls]
      exact ⟨He.cls_ok (kf _ (List.mem_append_left _ (List.mem_append_right _ (List.mem_map.mpr ⟨_, hx, rfl⟩)))), He.noat_ok (kf _ (List.mem_append_right _ (List.mem_map.mpr ⟨_, hx, rfl⟩)))⟩
  intro n
  induction n with
  | zero =>
    have z : ∀ (i : Nat) (x : Df), t.fs[i]? = some x → ∃ fd, FunD K x.d.name x.d.qual x.d.params x.d.body x.d.scope (x.d.dvs K) (x.d.kws K) (He.fAd K x.d.at_) fd ∧ FnOk P w K mg base (L2.CX P w) (3 * 0) (He.fAd K x.d.at_) fd x.ps (spF K t.g x.ps.length (t.cl fuel 0 i)) := fun i x hx => by
      obtain ⟨_, fd, F⟩ := one i x hx
      exact ⟨fd, F, fun vs H Q E h => h.1, fun A outer s H args us vs Q E hr he hb hv hs => by
        obtain ⟨_, _, _, _, _, _, q⟩ := hs
        exact q.elim⟩
    exact ⟨z, all 0 z, allK 0 z⟩
  | succ n ih =>
    have z : ∀ (i : Nat) (x : Df), t.fs[i]? = some x → ∃ fd, FunD K x.d.name x.d.qual x.d.params x.d.body x.d.scope (x.d.dvs K) (x.d.kws K) (He.fAd K x.d.at_) fd ∧ FnOk P w K mg base (L2.CX P w) (3 * (n + 1)) (He.fAd K x.d.at_) fd x.ps (spF K t.g x.ps.length (t.cl fuel (n + 1) i)) := fun i x hx => by
      obtain ⟨gd, fd, F⟩ := one i x hx
      refine ⟨fd, F, ?_⟩
      have e : t.cl fuel (n + 1) i = runFd (t.cl fuel n) fuel x.fd := by
        funext ds st
        unfold Tabl.cl
        show (match (t.fs.map Df.fd)[i]? with
          | some f => runFd (run (t.fs.map Df.fd) fuel n) fuel f ds st
          | none => .err) = _
        rw [List.getElem?_map, hx]
        rfl
      rw [e]
      exact def_ok gd F ih.2.1 ih.2.2 hfree hP hw hcon
    exact ⟨z, all (n + 1) z, allK (n + 1) z⟩
end
end Pd
end
section
set_option Elab.async false
set_option linter.all false
set_option maxRecDepth 100000
set_option autoImplicit false
/-! The end: from what run says to what the law's call gives. -/
namespace Pd
open PySem PySem.Spec PyProof.Rows L2

def intFact (fa : List He.Fa) (p : Str × D) : Bool := match p.2 with
  | .int i => fa.any fun f => match f with
    | .int x j => decide (x = p.1) && decide (j = i)
    | _ => false
  | _ => false
section
variable {P : Program} {w : World} {K : PySem.W.Frag} {mg : Str → Option Value} {h : Heap} {fa : List He.Fa} {fn : List He.DefD}
theorem consts_ok {cs : List (Str × D)} (hm : (cs.all fun p => intFact fa p) = true) (X0 : K.In h) (G0 : h.Ns mainGlobals mg) (c : He.SaysD fa fn K) :
    ∀ y d, cs.lookup y = some d → ∃ v u, mg y = some u ∧ RelV v u ∧ ∀ ρ H, VR K ρ H v d := fun y d e => by
  have q := List.all_eq_true.mp hm _ (mem_lookup2 e)
  unfold intFact at q
  dsimp only at q
  cases d with
  | int i =>
    dsimp only at q
    obtain ⟨f, hf, q⟩ := List.any_eq_true.mp q
    cases f with
    | int x j =>
      obtain ⟨e1, e2⟩ := and2 q
      have e1 := of_decide_eq_true e1
      have e2 := of_decide_eq_true e2
      subst e1
      subst e2
      obtain ⟨t, ht⟩ := He.int_ok X0 G0 (says_mem c hf)
      exact ⟨.int _, _, ht, ⟨_, rfl⟩, fun ρ H => .int _⟩
    | _ => cases q
  | _ => cases q
/-- the law's promise, over every base -/
theorem law_promise {t : Tabl} {f : Addr} {x : Df} {lawN fuel n : Nat} {pn : Str} (KX : K.In h) (G : h.Ns mainGlobals mg) (hfa : mg ("law" : Str) = some (.ref f)) (c : He.SaysD t.fa t.fn K)
    (hgood : t.good = true) (hgk : t.goodK = true) (hcls : ∀ c, t.g.T.cls c = He.ga K (t.cname c)) (htk : ∀ x ∈ t.fs, x.takes) (hP : t.g.T.P = P) (hw : t.g.T.w = w) (htab : t.g.T.tabs = [])
    (hcon : ∀ y d, t.g.consts.lookup y = some d → ∃ v u, mg y = some u ∧ RelV v u ∧ ∀ ρ H, VR K ρ H v d)
    (hx : t.fs[lawN]? = some x) (hat : x.d.at_ = (("law" : Str), none)) (hps : x.ps = [pn]) (hgl : He.Fa.glo "law" ∈ t.fa)
    (main : ∀ ns : List Int, ns.length ≤ 63 → (∃ st', t.cl fuel n lawN [.frz (ns.map .int)] [] = .ok (.bl true) st') ∧ ∃ st', t.cl fuel n lawN [.ref 0] [.lst (ns.map .int)] = .ok (.bl true) st') :
    ∃ (fd : FuncData) (sp : Sp), (∀ (s : Shared) (u : Value), BindsTo s fd ⟨[u], []⟩ [(pn, u)]) ∧
      (∀ (H : Hp) (a : Addr) (ns : List Int), ns.length ≤ 63 → Only H → SqL K H a (ns.map V.int) → sp [.ref a] H (fun v _ => v = .bl true) fun _ _ _ => False) ∧
      ∀ base : Heap, K.In base → base.Ns mainGlobals mg → FnOk P w K mg base (L2.CX P w) (3 * n) f fd [pn] sp := by
  have htk' : ∀ (i : Nat) (y : Df), t.fs[i]? = some y → y.takes := fun i y hy => htk y (List.mem_of_getElem? hy)
  have tbl : ∀ base : Heap, _ := fun base : Heap => (table_ok (P := P) (w := w) (base := base) (fuel := fuel) hgood hgk hcls htk' KX G c hP hw hcon n).1 lawN x hx
  have ef : f = He.fAd K x.d.at_ := by
    have := hfa.symm.trans (He.glo_ok KX G (says_mem c hgl))
    rw [hat]
    cases this
    rfl
  obtain ⟨fd, F, _⟩ := tbl h
  have same : ∀ {fd'}, FunD K x.d.name x.d.qual x.d.params x.d.body x.d.scope (x.d.dvs K) (x.d.kws K) (He.fAd K x.d.at_) fd' → fd' = fd := fun F' => by
    obtain ⟨_, _, _, _, _, _, _, _, _, _, _, l1, _⟩ := F.ex
    obtain ⟨_, _, _, _, _, _, _, _, _, _, _, l2, _⟩ := F'.ex
    rw [l1] at l2
    cases l2
    rfl
  have nodfl : x.d.dvs K = [] := by
    have := hgood
    unfold Tabl.good at this
    have := List.all_eq_true.mp (and2 this).1 x (List.mem_of_getElem? hx)
    unfold Df.good at this
    simp only [Bool.and_eq_true, List.isEmpty_iff] at this
    unfold He.DefD.dvs
    rw [this.1.1.2]
    rfl
  have F0 := F
  rw [nodfl] at F0
  have b := FunD.bindsA (ps := x.ps) F0 (htk' lawN x hx)
  refine ⟨fd, spF K t.g x.ps.length (t.cl fuel n lawN), fun s u => ?_, fun H a ns hl _ hS => ?_, fun base _ _ => ?_⟩
  · have := b s [u] (by rw [hps]; rfl)
    rw [hps] at this
    exact this
  · obtain ⟨m1, m2⟩ := main ns hl
    have vals : ∀ ρ : List Addr, VRs K ρ H (ns.map V.int) (ns.map D.int) := fun ρ => by
      clear hl hS m1 m2
      induction ns with
      | nil => exact .nil
      | cons n ns ih => exact .cons (.int n) ih
    refine ⟨by rw [hps]; rfl, ?_⟩
    rcases hS with (hS | ⟨o, hS⟩) | hS
    · obtain ⟨st', e⟩ := m2
      refine ⟨[a], [.lst (ns.map .int)], [.ref 0], ⟨by simp, rfl, fun m b c hb hc => ?_, fun p hp => ?_⟩, .cons (.ref rfl) .nil, ?_⟩
      · cases m with
        | zero =>
          cases hb
          cases hc
          exact ⟨_, hS, vals _⟩
        | succ m => simp at hb
      · rw [htab] at hp
        cases hp
      · rw [e]
        intro v H' ρ' _ _ r
        cases r
        rfl
    all_goals
      obtain ⟨st', e⟩ := m1
      refine ⟨[], [], [.frz (ns.map .int)], ⟨by simp, rfl, fun m b c hb hc => by simp at hb, fun p hp => ?_⟩, .cons (.frz ?_ (vals _)) .nil, ?_⟩
      · rw [htab] at hp
        cases hp
      · first | exact .inl ⟨_, hS⟩ | exact .inr hS
      · rw [e]
        intro v H' ρ' _ _ r
        cases r
        rfl
  · obtain ⟨fd', F', ok⟩ := tbl base
    rw [same F', ← ef, hps] at ok
    rw [hps]
    exact ok
end
end Pd
end
section
set_option Elab.async false
set_option linter.all false
set_option maxRecDepth 100000
set_option autoImplicit false
/-! A law's end, where exceptions may be raised and caught within. -/
namespace Pd
open PySem PySem.Spec PyProof.Rows L2
theorem walk_cx {l : PySem.W.OpenLaw} {n k : Nat} {q : Program} {loose : List Str} {XP : (Str → Option Value) → Heap → Prop} {YP : World → Heap → Prop} {d : DefRec} {x : Str}
    (hn : l.most = some n) (hn2 : n ≤ sizeLine) (hdf : d.params.defaults = []) (hr : Room k callerA)
    (F : ∀ (w : World) (mg : Str → Option Value) (fa : Addr) (h : Heap), YP w h → h.Ns mainGlobals mg → mg d.name = some (.ref fa) →
      ∃ (K : PySem.W.Frag) (fd : FuncData) (sp : Sp), K.In h ∧ (∀ (s : Shared) (u : Value), BindsTo s fd ⟨[u], []⟩ [(x, u)]) ∧
        (∀ (H : Hp) (a : Addr) (ns : List Int), ns.length ≤ n → Only H → SqL K H a (ns.map V.int) → sp [.ref a] H (fun v _ => v = .bl true) fun _ _ _ => False) ∧
        ∀ base : Heap, K.In base → base.Ns mainGlobals mg → FnOk l.prog w K mg base (L2.CX l.prog w) k fa fd [x] sp) :
    PySem.W.WalkO q loose XP YP l.row.toRowW d [] (fun f vs => PySem.call f vs) := by
  refine Att.attach_call hn hdf fun w s₀ s₁ mg mb fa o pm cd doc a vs ns G Y ho hd hcd hmg hobj hints hlen hg => ?_
  obtain ⟨K, fd, sp, KX, hb, hsp, hF⟩ := F w mg fa _ Y G.T.g hmg
  refine law_call KX G.T.g G.T.b G.T.builtins G.T.nolimit hg hobj hints (Nat.le_trans hlen hn2) hr hF hb (fun H hO hS => hsp H a ns hlen hO hS) fun H e s' z => ?_
  obtain ⟨_, _, _, _, _, _, _, _, _, _, _, _, z⟩ := (show L2.CX l.prog w [] H s₁ (fun _ _ _ => False) e s' from z)
  exact z.elim
end Pd
end
section
set_option Elab.async false
set_option linter.all false
set_option maxRecDepth 100000
set_option autoImplicit false
namespace Pd.T
open PySem
def ix_plain_of : Nat := 0
def ix_is_int : Nat := 1
def ix_is_number : Nat := 2
def ix_is_word : Nat := 3
def ix_is_hour : Nat := 4
def ix_is_direction : Nat := 5
def ix_is_whence : Nat := 6
def ix_is_span : Nat := 7
def ix_is_parts : Nat := 8
def ix_order_key : Nat := 9
def ix_is_ascending : Nat := 10
def ix_turned_by : Nat := 11
def ix_passage_form : Nat := 12
def ix_hearing_form : Nat := 13
def ix_hearings_form : Nat := 14
def ix_spot_form : Nat := 15
def ix_danger_form : Nat := 16
def ix_dangers_form : Nat := 17
def ix_land_form : Nat := 18
def ix_many_spots : Nat := 19
def ix_passage_at : Nat := 20
def ix_hearings_at : Nat := 21
def ix_heard_at : Nat := 22
def ix_guess_form : Nat := 23
def ix_guess_key : Nat := 24
def ix_guesses_taken : Nat := 25
def ix_question_form : Nat := 26
def ix_is_move : Nat := 27
def ix_event_form : Nat := 28
def ix_Asker_init : Nat := 29
def ix_Asker_ears : Nat := 30
def ix_Asker_ahead : Nat := 31
def ix_Asker_answer : Nat := 32
def ix_Asker_behind : Nat := 33
def ix_Asker_behind_record : Nat := 34
def ix_land_taken : Nat := 35
def ix_number_taken : Nat := 36
def ix_hour_taken : Nat := 37
def ix_record_form : Nat := 38
def ix_may_be : Nat := 39
def ix_anywhere : Nat := 40
def ix_law_numbers : Nat := 41
def ix_law_draw : Nat := 42
def ix_law_whence : Nat := 43
def ix_law_spot : Nat := 44
def ix_law_land : Nat := 45
def ix_law_goes : Nat := 46
def ix_law_holds : Nat := 47
def ix_law_heard : Nat := 48
def ix_law_key : Nat := 49
def ix_law_answer : Nat := 50
def ix_law_questions : Nat := 51
def ix_law_record : Nat := 52
def ix_law_due : Nat := 53
def ix_law : Nat := 54
/-- names: 0 value, 1 part -/
def B_plain_of : Ss := (.cons (.iff (.isi (.slot 0) false [.list, .tuple]) (.cons (.ret (.bfn .tuple (.cons (.comp (.call ix_plain_of (.cons (.slot 1) .nil)) (.one 1) (.seq (.slot 0)) .none [1]) .nil))) .nil) .nil) (.cons (.ret (.slot 0)) .nil))
def F_plain_of : Fd := ⟨2, 1, B_plain_of⟩
/-- names: 0 value -/
def B_is_int : Ss := (.cons (.ret (.band (.cons (.isi (.slot 0) true [.int]) (.cons (.not (.isi (.slot 0) true [.bool])) .nil)))) .nil)
def F_is_int : Fd := ⟨1, 1, B_is_int⟩
/-- names: 0 value, 1 low, 2 high -/
def B_is_number : Ss := (.cons (.ret (.band (.cons (.call ix_is_int (.cons (.slot 0) .nil)) (.cons (.chain .le .le (.slot 1) (.slot 0) (.slot 2)) .nil)))) .nil)
def F_is_number : Fd := ⟨3, 3, B_is_number⟩
/-- names: 0 value, 1 sign -/
def B_is_word : Ss := (.cons (.ret (.band (.cons (.isi (.slot 0) true [.str]) (.cons (.chain .le .le (.cint 1) (.bfn .len (.cons (.slot 0) .nil)) (.cint 8)) (.cons (.bfn .all (.cons (.comp (.chain .le .le (.cstr "a") (.slot 1) (.cstr "z")) (.one 1) (.seq (.slot 0)) .none [1]) .nil)) .nil))))) .nil)
def F_is_word : Fd := ⟨2, 1, B_is_word⟩
/-- names: 0 value -/
def B_is_hour : Ss := (.cons (.ret (.call ix_is_number (.cons (.slot 0) (.cons (.cint 0) (.cons (.cint 23) .nil))))) .nil)
def F_is_hour : Fd := ⟨1, 1, B_is_hour⟩
/-- names: 0 value -/
def B_is_direction : Ss := (.cons (.ret (.call ix_is_number (.cons (.slot 0) (.cons (.cint 0) (.cons (.cint 7) .nil))))) .nil)
def F_is_direction : Fd := ⟨1, 1, B_is_direction⟩
/-- names: 0 value -/
def B_is_whence : Ss := (.cons (.ret (.bor (.cons (.cmp .is (.slot 0) .cnon) (.cons (.call ix_is_direction (.cons (.slot 0) .nil)) .nil)))) .nil)
def F_is_whence : Fd := ⟨1, 1, B_is_whence⟩
/-- names: 0 first, 1 end -/
def B_is_span : Ss := (.cons (.ret (.band (.cons (.call ix_is_number (.cons (.slot 0) (.cons (.cint 0) (.cons (.cint 23) .nil)))) (.cons (.call ix_is_number (.cons (.slot 1) (.cons (.cint 1) (.cons (.cint 24) .nil)))) (.cons (.cmp .lt (.slot 0) (.slot 1)) .nil))))) .nil)
def F_is_span : Fd := ⟨2, 2, B_is_span⟩
/-- names: 0 value, 1 many -/
def B_is_parts : Ss := (.cons (.ret (.band (.cons (.isi (.slot 0) true [.tuple]) (.cons (.cmp .eq (.bfn .len (.cons (.slot 0) .nil)) (.slot 1)) .nil)))) .nil)
def F_is_parts : Fd := ⟨2, 2, B_is_parts⟩
/-- names: 0 value, 1 part -/
def B_order_key : Ss := (.cons (.iff (.cmp .is (.slot 0) .cnon) (.cons (.ret (.tup (.cons (.cint 0) .nil))) .nil) .nil) (.cons (.iff (.cmp .is (.slot 0) (.cbl false)) (.cons (.ret (.tup (.cons (.cint 1) .nil))) .nil) .nil) (.cons (.iff (.cmp .is (.slot 0) (.cbl true)) (.cons (.ret (.tup (.cons (.cint 2) .nil))) .nil) .nil) (.cons (.iff (.isi (.slot 0) true [.int]) (.cons (.ret (.tup (.cons (.cint 3) (.cons (.slot 0) .nil)))) .nil) .nil) (.cons (.iff (.isi (.slot 0) true [.str]) (.cons (.ret (.tup (.cons (.cint 4) (.cons (.slot 0) .nil)))) .nil) .nil) (.cons (.ret (.tup (.cons (.cint 5) (.cons (.bfn .tuple (.cons (.comp (.call ix_order_key (.cons (.slot 1) .nil)) (.one 1) (.seq (.slot 0)) .none [1]) .nil)) .nil)))) .nil))))))
def F_order_key : Fd := ⟨2, 1, B_order_key⟩
/-- names: 0 rows, 1 keys, 2 row, 3 at -/
def B_is_ascending : Ss := (.cons (.set 1 (.comp (.call ix_order_key (.cons (.slot 2) .nil)) (.one 2) (.seq (.slot 0)) .none [2])) (.cons (.ret (.bfn .all (.cons (.comp (.cmp .lt (.idx (.slot 1) (.slot 3)) (.idx (.slot 1) (.bin .add (.slot 3) (.cint 1)))) (.one 3) (.rng1 (.bin .sub (.bfn .len (.cons (.slot 1) .nil)) (.cint 1))) .none [3]) .nil))) .nil))
def F_is_ascending : Fd := ⟨4, 1, B_is_ascending⟩
/-- names: 0 direction, 1 side -/
def B_turned_by : Ss := (.cons (.ret (.bin .mod (.bin .add (.slot 0) (.slot 1)) (.cint 8))) .nil)
def F_turned_by : Fd := ⟨2, 2, B_turned_by⟩
/-- names: 0 value, 1 many, 2 to, 3 out, 4 ground -/
def B_passage_form : Ss := (.cons (.iff (.not (.call ix_is_parts (.cons (.slot 0) (.cons (.cint 3) .nil)))) (.cons (.ret (.cbl false)) .nil) .nil) (.cons (.unp [2, 3, 4] (.slot 0)) (.cons (.ret (.band (.cons (.call ix_is_number (.cons (.slot 2) (.cons (.cint 0) (.cons (.bin .sub (.slot 1) (.cint 1)) .nil)))) (.cons (.call ix_is_direction (.cons (.slot 3) .nil)) (.cons (.call ix_is_word (.cons (.slot 4) .nil)) .nil))))) .nil)))
def F_passage_form : Fd := ⟨5, 2, B_passage_form⟩
/-- names: 0 value, 1 sign, 2 whence, 3 first, 4 end -/
def B_hearing_form : Ss := (.cons (.iff (.not (.call ix_is_parts (.cons (.slot 0) (.cons (.cint 4) .nil)))) (.cons (.ret (.cbl false)) .nil) .nil) (.cons (.unp [1, 2, 3, 4] (.slot 0)) (.cons (.ret (.band (.cons (.call ix_is_word (.cons (.slot 1) .nil)) (.cons (.call ix_is_whence (.cons (.slot 2) .nil)) (.cons (.call ix_is_span (.cons (.slot 3) (.cons (.slot 4) .nil))) .nil))))) .nil)))
def F_hearing_form : Fd := ⟨5, 1, B_hearing_form⟩
/-- names: 0 value, 1 row -/
def B_hearings_form : Ss := (.cons (.iff (.bor (.cons (.not (.isi (.slot 0) true [.tuple])) (.cons (.cmp .gt (.bfn .len (.cons (.slot 0) .nil)) (.cint 12)) .nil))) (.cons (.ret (.cbl false)) .nil) .nil) (.cons (.iff (.bor (.cons (.not (.bfn .all (.cons (.comp (.call ix_hearing_form (.cons (.slot 1) .nil)) (.one 1) (.seq (.slot 0)) .none [1]) .nil))) (.cons (.not (.call ix_is_ascending (.cons (.slot 0) .nil))) .nil))) (.cons (.ret (.cbl false)) .nil) .nil) (.cons (.ret (.cmp .eq (.bfn .len (.cons (.scomp (.slice (.slot 1) .none (.some (.cint 2))) (.one 1) (.seq (.slot 0)) .none [1]) .nil)) (.bfn .len (.cons (.slot 0) .nil)))) .nil)))
def F_hearings_form : Fd := ⟨2, 1, B_hearings_form⟩
/-- names: 0 value, 1 many, 2 passages, 3 hearings, 4 way -/
def B_spot_form : Ss := (.cons (.iff (.not (.call ix_is_parts (.cons (.slot 0) (.cons (.cint 2) .nil)))) (.cons (.ret (.cbl false)) .nil) .nil) (.cons (.unp [2, 3] (.slot 0)) (.cons (.iff (.not (.call ix_is_parts (.cons (.slot 2) (.cons (.cint 8) .nil)))) (.cons (.ret (.cbl false)) .nil) .nil) (.cons (.iff (.not (.bfn .all (.cons (.comp (.bor (.cons (.cmp .is (.slot 4) .cnon) (.cons (.call ix_passage_form (.cons (.slot 4) (.cons (.slot 1) .nil))) .nil))) (.one 4) (.seq (.slot 2)) .none [4]) .nil))) (.cons (.ret (.cbl false)) .nil) .nil) (.cons (.ret (.call ix_hearings_form (.cons (.slot 3) .nil))) .nil)))))
def F_spot_form : Fd := ⟨5, 2, B_spot_form⟩
/-- names: 0 value, 1 many, 2 spot, 3 direction, 4 first, 5 end -/
def B_danger_form : Ss := (.cons (.iff (.not (.call ix_is_parts (.cons (.slot 0) (.cons (.cint 4) .nil)))) (.cons (.ret (.cbl false)) .nil) .nil) (.cons (.unp [2, 3, 4, 5] (.slot 0)) (.cons (.ret (.band (.cons (.call ix_is_number (.cons (.slot 2) (.cons (.cint 0) (.cons (.bin .sub (.slot 1) (.cint 1)) .nil)))) (.cons (.call ix_is_whence (.cons (.slot 3) .nil)) (.cons (.call ix_is_span (.cons (.slot 4) (.cons (.slot 5) .nil))) .nil))))) .nil)))
def F_danger_form : Fd := ⟨6, 2, B_danger_form⟩
/-- names: 0 value, 1 many, 2 row -/
def B_dangers_form : Ss := (.cons (.iff (.bor (.cons (.not (.isi (.slot 0) true [.tuple])) (.cons (.cmp .gt (.bfn .len (.cons (.slot 0) .nil)) (.cint 24)) .nil))) (.cons (.ret (.cbl false)) .nil) .nil) (.cons (.iff (.bor (.cons (.not (.bfn .all (.cons (.comp (.call ix_danger_form (.cons (.slot 2) (.cons (.slot 1) .nil))) (.one 2) (.seq (.slot 0)) .none [2]) .nil))) (.cons (.not (.call ix_is_ascending (.cons (.slot 0) .nil))) .nil))) (.cons (.ret (.cbl false)) .nil) .nil) (.cons (.ret (.cmp .eq (.bfn .len (.cons (.scomp (.slice (.slot 2) .none (.some (.cint 2))) (.one 2) (.seq (.slot 0)) .none [2]) .nil)) (.bfn .len (.cons (.slot 0) .nil)))) .nil)))
def F_dangers_form : Fd := ⟨3, 2, B_dangers_form⟩
/-- names: 0 value, 1 spots, 2 dangers, 3 many, 4 spot -/
def B_land_form : Ss := (.cons (.iff (.not (.call ix_is_parts (.cons (.slot 0) (.cons (.cint 2) .nil)))) (.cons (.ret (.cbl false)) .nil) .nil) (.cons (.unp [1, 2] (.slot 0)) (.cons (.iff (.bor (.cons (.not (.isi (.slot 1) true [.tuple])) (.cons (.not (.chain .le .le (.cint 1) (.bfn .len (.cons (.slot 1) .nil)) (.cint 12))) .nil))) (.cons (.ret (.cbl false)) .nil) .nil) (.cons (.set 3 (.bfn .len (.cons (.slot 1) .nil))) (.cons (.ret (.band (.cons (.bfn .all (.cons (.comp (.call ix_spot_form (.cons (.slot 4) (.cons (.slot 3) .nil))) (.one 4) (.seq (.slot 1)) .none [4]) .nil)) (.cons (.call ix_dangers_form (.cons (.slot 2) (.cons (.slot 3) .nil))) .nil)))) .nil)))))
def F_land_form : Fd := ⟨5, 1, B_land_form⟩
/-- names: 0 land -/
def B_many_spots : Ss := (.cons (.ret (.bfn .len (.cons (.idx (.slot 0) (.cint 0)) .nil))) .nil)
def F_many_spots : Fd := ⟨1, 1, B_many_spots⟩
/-- names: 0 land, 1 spot, 2 direction -/
def B_passage_at : Ss := (.cons (.ret (.idx (.idx (.idx (.idx (.slot 0) (.cint 0)) (.slot 1)) (.cint 0)) (.slot 2))) .nil)
def F_passage_at : Fd := ⟨3, 3, B_passage_at⟩
/-- names: 0 land, 1 spot -/
def B_hearings_at : Ss := (.cons (.ret (.idx (.idx (.idx (.slot 0) (.cint 0)) (.slot 1)) (.cint 1))) .nil)
def F_hearings_at : Fd := ⟨2, 2, B_hearings_at⟩
/-- names: 0 land, 1 spot, 2 hour, 3 row -/
def B_heard_at : Ss := (.cons (.ret (.bfn .tuple (.cons (.comp (.slice (.slot 3) .none (.some (.cint 2))) (.one 3) (.seq (.idx (.idx (.idx (.slot 0) (.cint 0)) (.slot 1)) (.cint 1))) (.some (.chain .le .lt (.idx (.slot 3) (.cint 2)) (.slot 2) (.idx (.slot 3) (.cint 3)))) [3]) .nil))) .nil)
def F_heard_at : Fd := ⟨4, 3, B_heard_at⟩
/-- names: 0 value, 1 land, 2 spot, 3 face, 4 hour, 5 ground -/
def B_guess_form : Ss := (.cons (.iff (.not (.call ix_is_parts (.cons (.slot 0) (.cons (.cint 4) .nil)))) (.cons (.ret (.cbl false)) .nil) .nil) (.cons (.unp [2, 3, 4, 5] (.slot 0)) (.cons (.iff (.not (.band (.cons (.call ix_is_number (.cons (.slot 2) (.cons (.cint 0) (.cons (.bin .sub (.call ix_many_spots (.cons (.slot 1) .nil)) (.cint 1)) .nil)))) (.cons (.call ix_is_direction (.cons (.slot 3) .nil)) (.cons (.call ix_is_hour (.cons (.slot 4) .nil)) .nil))))) (.cons (.ret (.cbl false)) .nil) .nil) (.cons (.ret (.bor (.cons (.cmp .is (.slot 5) .cnon) (.cons (.call ix_is_word (.cons (.slot 5) .nil)) .nil)))) .nil))))
def F_guess_form : Fd := ⟨6, 2, B_guess_form⟩
/-- names: 0 guess, 1 spot, 2 face, 3 hour, 4 ground -/
def B_guess_key : Ss := (.cons (.unp [1, 2, 3, 4] (.slot 0)) (.cons (.ret (.tup (.cons (.slot 1) (.cons (.slot 2) (.cons (.slot 3) (.cons (.ite (.cmp .is (.slot 4) .cnon) (.cstr "") (.slot 4)) .nil)))))) .nil))
def F_guess_key : Fd := ⟨5, 1, B_guess_key⟩
/-- names: 0 value, 1 at, 2 land, 3 low, 4 high, 5 rows, 6 row, 7 order, 8 k -/
def B_guesses_taken : Ss := (.cons (.set 5 (.call ix_plain_of (.cons (.slot 0) .nil))) (.cons (.iff (.bor (.cons (.not (.isi (.slot 5) true [.tuple])) (.cons (.not (.chain .le .le (.slot 3) (.bfn .len (.cons (.slot 5) .nil)) (.slot 4))) .nil))) (.cons .never .nil) .nil) (.cons (.iff (.not (.bfn .all (.cons (.comp (.call ix_guess_form (.cons (.slot 6) (.cons (.slot 2) .nil))) (.one 6) (.seq (.slot 5)) .none [6]) .nil))) (.cons .never .nil) .nil) (.cons (.set 7 (.comp (.call ix_guess_key (.cons (.slot 6) .nil)) (.one 6) (.seq (.slot 5)) .none [6])) (.cons (.iff (.not (.bfn .all (.cons (.comp (.cmp .lt (.idx (.slot 7) (.slot 8)) (.idx (.slot 7) (.bin .add (.slot 8) (.cint 1)))) (.one 8) (.rng1 (.bin .sub (.bfn .len (.cons (.slot 7) .nil)) (.cint 1))) .none [8]) .nil))) (.cons .never .nil) .nil) (.cons (.ret (.slot 5)) .nil))))))
def F_guesses_taken : Fd := ⟨9, 5, B_guesses_taken⟩
/-- names: 0 value, 1 form -/
def B_question_form : Ss := (.cons (.iff (.bor (.cons (.not (.isi (.slot 0) true [.tuple])) (.cons (.cmp .eq (.bfn .len (.cons (.slot 0) .nil)) (.cint 0)) (.cons (.not (.isi (.idx (.slot 0) (.cint 0)) true [.str])) .nil)))) (.cons (.ret (.cbl false)) .nil) .nil) (.cons (.set 1 (.idx (.slot 0) (.cint 0))) (.cons (.iff (.cmp .eq (.slot 1) (.cstr "go")) (.cons (.ret (.cmp .eq (.bfn .len (.cons (.slot 0) .nil)) (.cint 1))) .nil) .nil) (.cons (.iff (.cmp .eq (.slot 1) (.cstr "hear")) (.cons (.ret (.band (.cons (.cmp .eq (.bfn .len (.cons (.slot 0) .nil)) (.cint 3)) (.cons (.call ix_is_word (.cons (.idx (.slot 0) (.cint 1)) .nil)) (.cons (.call ix_is_whence (.cons (.idx (.slot 0) (.cint 2)) .nil)) .nil))))) .nil) .nil) (.cons (.iff (.cmp .ne (.bfn .len (.cons (.slot 0) .nil)) (.cint 2)) (.cons (.ret (.cbl false)) .nil) .nil) (.cons (.iff (.cmp .eq (.slot 1) (.cstr "turn")) (.cons (.ret (.call ix_is_number (.cons (.idx (.slot 0) (.cint 1)) (.cons (.cint 1) (.cons (.cint 7) .nil))))) .nil) .nil) (.cons (.iff (.cmp .eq (.slot 1) (.cstr "wait")) (.cons (.ret (.call ix_is_number (.cons (.idx (.slot 0) (.cint 1)) (.cons (.cint 1) (.cons (.cint 23) .nil))))) .nil) .nil) (.cons (.iff (.cmp .eq (.slot 1) (.cstr "way")) (.cons (.ret (.call ix_is_direction (.cons (.idx (.slot 0) (.cint 1)) .nil))) .nil) .nil) (.cons (.ret (.band (.cons (.cmp .eq (.slot 1) (.cstr "ground")) (.cons (.call ix_is_word (.cons (.idx (.slot 0) (.cint 1)) .nil)) .nil)))) .nil)))))))))
def F_question_form : Fd := ⟨2, 1, B_question_form⟩
/-- names: 0 question -/
def B_is_move : Ss := (.cons (.ret (.cmp .mem (.idx (.slot 0) (.cint 0)) (.tup (.cons (.cstr "turn") (.cons (.cstr "wait") .nil))))) .nil)
def F_is_move : Fd := ⟨1, 1, B_is_move⟩
/-- names: 0 value -/
def B_event_form : Ss := (.cons (.iff (.bor (.cons (.not (.isi (.slot 0) true [.tuple])) (.cons (.cmp .eq (.bfn .len (.cons (.slot 0) .nil)) (.cint 0)) .nil))) (.cons (.ret (.cbl false)) .nil) .nil) (.cons (.iff (.call ix_question_form (.cons (.slot 0) .nil)) (.cons (.ret (.call ix_is_move (.cons (.slot 0) .nil))) .nil) .nil) (.cons (.iff (.not (.bor (.cons (.cmp .is (.idx (.slot 0) (.neg (.cint 1))) (.cbl true)) (.cons (.cmp .is (.idx (.slot 0) (.neg (.cint 1))) (.cbl false)) .nil)))) (.cons (.ret (.cbl false)) .nil) .nil) (.cons (.ret (.band (.cons (.call ix_question_form (.cons (.slice (.slot 0) .none (.some (.neg (.cint 1)))) .nil)) (.cons (.not (.call ix_is_move (.cons (.slot 0) .nil))) .nil)))) .nil))))
def F_event_form : Fd := ⟨1, 1, B_event_form⟩
/-- names: 0 self, 1 land, 2 spot, 3 row, 4 direction, 5 passage -/
def LB_Asker_init_2 : Ss := (.cons (.sub (.fld 0 (.slot 0) "signs") (.idx (.slot 3) (.cint 0)) (.cbl true)) .nil)
def LB_Asker_init_3 : Ss := (.cons (.set 5 (.call ix_passage_at (.cons (.slot 1) (.cons (.slot 2) (.cons (.slot 4) .nil))))) (.cons (.iff (.cmp .isnot (.slot 5) .cnon) (.cons (.sub (.fld 0 (.slot 0) "grounds") (.idx (.slot 5) (.cint 2)) (.cbl true)) .nil) .nil) .nil))
def LB_Asker_init_1 : Ss := (.cons (.loop (.one 3) (.seq (.call ix_hearings_at (.cons (.slot 1) (.cons (.slot 2) .nil)))) LB_Asker_init_2 [3]) (.cons (.loop (.one 4) (.rng1 (.cint 8)) LB_Asker_init_3 [4, 5]) .nil))
def B_Asker_init : Ss := (.cons (.setf 0 (.slot 0) "country" (.slot 1)) (.cons (.setf 0 (.slot 0) "signs" .dnew) (.cons (.setf 0 (.slot 0) "grounds" .dnew) (.cons (.setf 0 (.slot 0) "known_ears" .dnew) (.cons (.loop (.one 2) (.rng1 (.call ix_many_spots (.cons (.slot 1) .nil))) LB_Asker_init_1 [2, 3, 4, 5]) .nil)))))
def F_Asker_init : Fd := ⟨6, 2, B_Asker_init⟩
/-- names: 0 self, 1 guess, 2 place, 3 rows, 4 sign, 5 whence -/
def LB_Asker_ears_1 : Ss := (.cons (.app (.slot 3) (.tup (.cons (.slot 4) (.cons (.neg (.cint 1)) .nil)))) (.cons (.iff (.cmp .isnot (.slot 5) .cnon) (.cons (.app (.slot 3) (.tup (.cons (.slot 4) (.cons (.bin .mod (.bin .sub (.slot 5) (.idx (.slot 1) (.cint 1))) (.cint 8)) .nil)))) .nil) .nil) .nil))
def B_Asker_ears : Ss := (.cons (.set 2 (.slice (.slot 1) .none (.some (.cint 3)))) (.cons (.iff (.cmp .notmem (.slot 2) (.fld 0 (.slot 0) "known_ears")) (.cons (.set 3 (.lst .nil)) (.cons (.loop (.many [4, 5]) (.seq (.call ix_heard_at (.cons (.fld 0 (.slot 0) "country") (.cons (.idx (.slot 1) (.cint 0)) (.cons (.idx (.slot 1) (.cint 2)) .nil))))) LB_Asker_ears_1 [4, 5]) (.cons (.sub (.fld 0 (.slot 0) "known_ears") (.slot 2) (.bfn .tuple (.cons (.bfn .sorted (.cons (.bfn .set (.cons (.slot 3) .nil)) .nil)) .nil))) .nil))) .nil) (.cons (.ret (.idx (.fld 0 (.slot 0) "known_ears") (.slot 2))) .nil)))
def F_Asker_ears : Fd := ⟨6, 2, B_Asker_ears⟩
/-- names: 0 self, 1 guess, 2 side -/
def B_Asker_ahead : Ss := (.cons (.ret (.call ix_passage_at (.cons (.fld 0 (.slot 0) "country") (.cons (.idx (.slot 1) (.cint 0)) (.cons (.call ix_turned_by (.cons (.idx (.slot 1) (.cint 1)) (.cons (.slot 2) .nil))) .nil))))) .nil)
def F_Asker_ahead : Fd := ⟨3, 3, B_Asker_ahead⟩
/-- names: 0 self, 1 question, 2 guess, 3 form -/
def B_Asker_answer : Ss := (.cons (.set 3 (.idx (.slot 1) (.cint 0))) (.cons (.iff (.cmp .eq (.slot 3) (.cstr "go")) (.cons (.ret (.cmp .isnot (.meth 0 (.slot 0) "ahead" ix_Asker_ahead (.cons (.slot 2) (.cons (.cint 0) .nil))) .cnon)) .nil) .nil) (.cons (.iff (.cmp .eq (.slot 3) (.cstr "hear")) (.cons (.ret (.cmp .mem (.tup (.cons (.idx (.slot 1) (.cint 1)) (.cons (.ite (.cmp .is (.idx (.slot 1) (.cint 2)) .cnon) (.neg (.cint 1)) (.idx (.slot 1) (.cint 2))) .nil))) (.meth 0 (.slot 0) "ears" ix_Asker_ears (.cons (.slot 2) .nil)))) .nil) .nil) (.cons (.iff (.cmp .eq (.slot 3) (.cstr "way")) (.cons (.ret (.cmp .isnot (.meth 0 (.slot 0) "ahead" ix_Asker_ahead (.cons (.slot 2) (.cons (.idx (.slot 1) (.cint 1)) .nil))) .cnon)) .nil) .nil) (.cons (.iff (.cmp .eq (.slot 3) (.cstr "ground")) (.cons (.ret (.cmp .eq (.idx (.slot 2) (.cint 3)) (.idx (.slot 1) (.cint 1)))) .nil) .nil) (.cons (.ret .cnon) .nil))))))
def F_Asker_answer : Fd := ⟨4, 3, B_Asker_answer⟩
/-- names: 0 self, 1 question, 2 guess, 3 spot, 4 face, 5 hour, 6 ground, 7 passage -/
def B_Asker_behind : Ss := (.cons (.unp [3, 4, 5, 6] (.slot 2)) (.cons (.iff (.cmp .eq (.idx (.slot 1) (.cint 0)) (.cstr "turn")) (.cons (.ret (.tup (.cons (.slot 3) (.cons (.call ix_turned_by (.cons (.slot 4) (.cons (.idx (.slot 1) (.cint 1)) .nil))) (.cons (.slot 5) (.cons (.slot 6) .nil)))))) .nil) .nil) (.cons (.iff (.cmp .eq (.idx (.slot 1) (.cint 0)) (.cstr "wait")) (.cons (.ret (.tup (.cons (.slot 3) (.cons (.slot 4) (.cons (.bin .mod (.bin .add (.slot 5) (.idx (.slot 1) (.cint 1))) (.cint 24)) (.cons (.slot 6) .nil)))))) .nil) .nil) (.cons (.iff (.cmp .eq (.idx (.slot 1) (.cint 0)) (.cstr "go")) (.cons (.set 7 (.meth 0 (.slot 0) "ahead" ix_Asker_ahead (.cons (.slot 2) (.cons (.cint 0) .nil)))) (.cons (.iff (.cmp .isnot (.slot 7) .cnon) (.cons (.ret (.tup (.cons (.idx (.slot 7) (.cint 0)) (.cons (.idx (.slot 7) (.cint 1)) (.cons (.slot 5) (.cons (.idx (.slot 7) (.cint 2)) .nil)))))) .nil) .nil) .nil)) .nil) (.cons (.ret (.slot 2)) .nil)))))
def F_Asker_behind : Fd := ⟨8, 3, B_Asker_behind⟩
/-- names: 0 self, 1 record, 2 guess, 3 event -/
def LB_Asker_behind_record_1 : Ss := (.cons (.iff (.band (.cons (.not (.call ix_is_move (.cons (.slot 3) .nil))) (.cons (.cmp .ne (.meth 0 (.slot 0) "answer" ix_Asker_answer (.cons (.slice (.slot 3) .none (.some (.neg (.cint 1)))) (.cons (.slot 2) .nil))) (.idx (.slot 3) (.neg (.cint 1)))) .nil))) (.cons (.ret .cnon) .nil) .nil) (.cons (.set 2 (.meth 0 (.slot 0) "behind" ix_Asker_behind (.cons (.slot 3) (.cons (.slot 2) .nil)))) .nil))
def B_Asker_behind_record : Ss := (.cons (.loop (.one 3) (.seq (.slot 1)) LB_Asker_behind_record_1 [3]) (.cons (.ret (.slot 2)) .nil))
def F_Asker_behind_record : Fd := ⟨4, 3, B_Asker_behind_record⟩
/-- names: 0 value, 1 at, 2 land -/
def B_land_taken : Ss := (.cons (.set 2 (.call ix_plain_of (.cons (.slot 0) .nil))) (.cons (.iff (.not (.call ix_land_form (.cons (.slot 2) .nil))) (.cons .never .nil) .nil) (.cons (.ret (.slot 2)) .nil)))
def F_land_taken : Fd := ⟨3, 2, B_land_taken⟩
/-- names: 0 value, 1 at, 2 low, 3 high -/
def B_number_taken : Ss := (.cons (.iff (.not (.call ix_is_number (.cons (.slot 0) (.cons (.slot 2) (.cons (.slot 3) .nil))))) (.cons .never .nil) .nil) (.cons (.ret (.slot 0)) .nil))
def F_number_taken : Fd := ⟨4, 4, B_number_taken⟩
/-- names: 0 value, 1 at -/
def B_hour_taken : Ss := (.cons (.ret (.call ix_number_taken (.cons (.slot 0) (.cons (.slot 1) (.cons (.cint 0) (.cons (.cint 23) .nil)))))) .nil)
def F_hour_taken : Fd := ⟨2, 2, B_hour_taken⟩
/-- names: 0 value, 1 event -/
def B_record_form : Ss := (.cons (.ret (.band (.cons (.isi (.slot 0) true [.tuple]) (.cons (.cmp .le (.bfn .len (.cons (.slot 0) .nil)) (.cint 60)) (.cons (.bfn .all (.cons (.comp (.call ix_event_form (.cons (.slot 1) .nil)) (.one 1) (.seq (.slot 0)) .none [1]) .nil)) .nil))))) .nil)
def F_record_form : Fd := ⟨2, 1, B_record_form⟩
/-- names: 0 land, 1 guesses, 2 record, 3 whole, 4 begun, 5 events, 6 asker, 7 kept, 8 guess, 9 last -/
def LB_may_be_1 : Ss := (.cons (.set 9 (.meth 0 (.slot 6) "behind_record" ix_Asker_behind_record (.cons (.slot 5) (.cons (.slot 8) .nil)))) (.cons (.iff (.cmp .isnot (.slot 9) .cnon) (.cons (.sub (.slot 7) (.slot 9) (.cbl true)) .nil) .nil) .nil))
def B_may_be : Ss := (.cons (.set 3 (.call ix_land_taken (.cons (.slot 0) (.cons (.cint 1) .nil)))) (.cons (.set 4 (.call ix_guesses_taken (.cons (.slot 1) (.cons (.cint 2) (.cons (.slot 3) (.cons (.cint 0) (.cons (.con (.int 2400)) .nil))))))) (.cons (.set 5 (.call ix_plain_of (.cons (.slot 2) .nil))) (.cons (.iff (.not (.call ix_record_form (.cons (.slot 5) .nil))) (.cons .never .nil) .nil) (.cons (.set 6 (.mk 0 ix_Asker_init (.cons (.slot 3) .nil))) (.cons (.set 7 .dnew) (.cons (.loop (.one 8) (.seq (.slot 4)) LB_may_be_1 [8, 9]) (.cons (.ret (.bfn .tuple (.cons (.sortk (.slot 7) ix_guess_key) .nil))) .nil))))))))
def F_may_be : Fd := ⟨10, 3, B_may_be⟩
/-- names: 0 land, 1 hour, 2 whole, 3 when, 4 spot, 5 face -/
def B_anywhere : Ss := (.cons (.set 2 (.call ix_land_taken (.cons (.slot 0) (.cons (.cint 1) .nil)))) (.cons (.set 3 (.call ix_hour_taken (.cons (.slot 1) (.cons (.cint 2) .nil)))) (.cons (.ret (.bfn .tuple (.cons (.comp2 (.tup (.cons (.slot 4) (.cons (.slot 5) (.cons (.slot 3) (.cons .cnon .nil))))) (.one 4) (.rng1 (.call ix_many_spots (.cons (.slot 2) .nil))) (.one 5) (.rng1 (.cint 8)) [4, 5] [5]) .nil))) .nil)))
def F_anywhere : Fd := ⟨6, 2, B_anywhere⟩
/-- names: 0 script, 1 place, 2 many, 3 cell, 4 numbers, 5 rest, 6 k, 7 mixed -/
def LB_law_numbers_1 : Ss := (.cons (.iff (.cmp .ge (.slot 3) (.bin .pow (.cint 10) (.cint 18))) (.cons (.app (.slot 4) (.bin .mod (.bfn .int (.cons (.slot 5) .nil)) (.bin .pow (.cint 10) (.cint 9)))) (.cons (.set 5 (.bin .fdiv (.slot 5) (.bin .pow (.cint 10) (.cint 9)))) .nil)) (.cons (.set 7 (.bin .mod (.bfn .int (.cons (.bin .add (.bin .add (.bin .mul (.slot 3) (.cint 48271)) (.bin .mul (.bin .add (.slot 6) (.cint 1)) (.cint 69621))) (.slot 1)) .nil)) (.cint 2147483647))) (.cons (.app (.slot 4) (.bin .mod (.bin .mod (.bfn .int (.cons (.bin .add (.bin .mul (.slot 7) (.cint 16807)) (.bin .mul (.bin .add (.slot 6) (.cint 3)) (.cint 40692))) .nil)) (.cint 2147483399)) (.bin .pow (.cint 10) (.cint 9)))) .nil))) .nil)
def B_law_numbers : Ss := (.cons (.set 3 (.ite (.cmp .lt (.slot 1) (.bfn .len (.cons (.slot 0) .nil))) (.idx (.slot 0) (.slot 1)) (.cint 0))) (.cons (.set 4 (.lst .nil)) (.cons (.set 5 (.slot 3)) (.cons (.loop (.one 6) (.rng1 (.slot 2)) LB_law_numbers_1 [6, 7]) (.cons (.ret (.slot 4)) .nil)))))
def F_law_numbers : Fd := ⟨8, 3, B_law_numbers⟩
/-- names: 0 state, 1 many -/
def B_law_draw : Ss := (.cons (.sub (.slot 0) (.cint 0) (.bin .mod (.bfn .int (.cons (.bin .add (.bin .mul (.idx (.slot 0) (.cint 0)) (.cint 48271)) (.cint 12345)) .nil)) (.cint 2147483647))) (.cons (.ret (.bin .mod (.bfn .int (.cons (.bin .fdiv (.idx (.slot 0) (.cint 0)) (.cint 11)) .nil)) (.slot 1))) .nil))
def F_law_draw : Fd := ⟨2, 2, B_law_draw⟩
/-- names: 0 row -/
def B_law_whence : Ss := (.cons (.ret (.tup (.cons (.idx (.slot 0) (.cint 0)) (.cons (.ite (.cmp .is (.idx (.slot 0) (.cint 1)) .cnon) (.neg (.cint 1)) (.idx (.slot 0) (.cint 1))) .nil)))) .nil)
def F_law_whence : Fd := ⟨1, 1, B_law_whence⟩
/-- names: 0 state, 1 spots, 2 passages, 3 direction, 4 passage_its, 5 out, 6 hearings, 7 k, 8 sign, 9 whence, 10 first, 11 end, 12 row -/
def LB_law_spot_1 : Ss := (.cons (.set 4 .cnon) (.cons (.iff (.cmp .lt (.call ix_law_draw (.cons (.slot 0) (.cons (.cint 10) .nil))) (.cint 4)) (.cons (.set 5 (.ite (.cmp .gt (.call ix_law_draw (.cons (.slot 0) (.cons (.cint 4) .nil))) (.cint 0)) (.slot 3) (.call ix_law_draw (.cons (.slot 0) (.cons (.cint 8) .nil))))) (.cons (.set 4 (.tup (.cons (.call ix_law_draw (.cons (.slot 0) (.cons (.slot 1) .nil))) (.cons (.slot 5) (.cons (.idx (.tup (.cons (.cstr "grass") (.cons (.cstr "stone") .nil))) (.call ix_law_draw (.cons (.slot 0) (.cons (.cint 2) .nil)))) .nil))))) .nil)) .nil) (.cons (.app (.slot 2) (.slot 4)) .nil)))
def LB_law_spot_2 : Ss := (.cons (.set 8 (.idx (.tup (.cons (.cstr "bell") (.cons (.cstr "water") (.cons (.cstr "wind") .nil)))) (.call ix_law_draw (.cons (.slot 0) (.cons (.cint 3) .nil))))) (.cons (.set 9 (.ite (.cmp .eq (.call ix_law_draw (.cons (.slot 0) (.cons (.cint 3) .nil))) (.cint 0)) .cnon (.call ix_law_draw (.cons (.slot 0) (.cons (.cint 8) .nil))))) (.cons (.set 10 (.ite (.cmp .eq (.call ix_law_draw (.cons (.slot 0) (.cons (.cint 2) .nil))) (.cint 0)) (.cint 0) (.call ix_law_draw (.cons (.slot 0) (.cons (.cint 20) .nil))))) (.cons (.set 11 (.ite (.cmp .eq (.call ix_law_draw (.cons (.slot 0) (.cons (.cint 2) .nil))) (.cint 0)) (.cint 24) (.bin .add (.bin .add (.slot 10) (.cint 1)) (.call ix_law_draw (.cons (.slot 0) (.cons (.bin .sub (.cint 24) (.slot 10)) .nil)))))) (.cons (.iff (.not (.bfn .any (.cons (.comp (.band (.cons (.cmp .eq (.idx (.slot 12) (.cint 0)) (.slot 8)) (.cons (.cmp .eq (.idx (.slot 12) (.cint 1)) (.slot 9)) .nil))) (.one 12) (.seq (.slot 6)) .none [12]) .nil))) (.cons (.app (.slot 6) (.tup (.cons (.slot 8) (.cons (.slot 9) (.cons (.slot 10) (.cons (.slot 11) .nil)))))) .nil) .nil) .nil)))))
def B_law_spot : Ss := (.cons (.set 2 (.lst .nil)) (.cons (.loop (.one 3) (.rng1 (.cint 8)) LB_law_spot_1 [3, 4, 5]) (.cons (.set 6 (.lst .nil)) (.cons (.loop (.one 7) (.rng1 (.call ix_law_draw (.cons (.slot 0) (.cons (.cint 4) .nil)))) LB_law_spot_2 [7, 8, 9, 10, 11]) (.cons (.ret (.tup (.cons (.bfn .tuple (.cons (.slot 2) .nil)) (.cons (.bfn .tuple (.cons (.sortk (.slot 6) ix_law_whence) .nil)) .nil)))) .nil)))))
def F_law_spot : Fd := ⟨13, 2, B_law_spot⟩
/-- names: 0 state, 1 most, 2 spots, 3 rows, 4 k, 5 dangers, 6 spot, 7 direction, 8 first, 9 row -/
def LB_law_land_1 : Ss := (.cons (.set 6 (.call ix_law_draw (.cons (.slot 0) (.cons (.slot 2) .nil)))) (.cons (.set 7 (.ite (.cmp .eq (.call ix_law_draw (.cons (.slot 0) (.cons (.cint 2) .nil))) (.cint 0)) .cnon (.call ix_law_draw (.cons (.slot 0) (.cons (.cint 8) .nil))))) (.cons (.set 8 (.call ix_law_draw (.cons (.slot 0) (.cons (.cint 22) .nil)))) (.cons (.iff (.not (.bfn .any (.cons (.comp (.band (.cons (.cmp .eq (.idx (.slot 9) (.cint 0)) (.slot 6)) (.cons (.cmp .eq (.idx (.slot 9) (.cint 1)) (.slot 7)) .nil))) (.one 9) (.seq (.slot 5)) .none [9]) .nil))) (.cons (.app (.slot 5) (.tup (.cons (.slot 6) (.cons (.slot 7) (.cons (.slot 8) (.cons (.bin .add (.bin .add (.slot 8) (.cint 1)) (.call ix_law_draw (.cons (.slot 0) (.cons (.bin .sub (.cint 24) (.slot 8)) .nil)))) .nil)))))) .nil) .nil) .nil))))
def B_law_land : Ss := (.cons (.set 2 (.bin .add (.cint 1) (.call ix_law_draw (.cons (.slot 0) (.cons (.slot 1) .nil))))) (.cons (.set 3 (.bfn .tuple (.cons (.comp (.call ix_law_spot (.cons (.slot 0) (.cons (.slot 2) .nil))) (.one 4) (.rng1 (.slot 2)) .none [4]) .nil))) (.cons (.set 5 (.lst .nil)) (.cons (.loop (.one 4) (.rng1 (.call ix_law_draw (.cons (.slot 0) (.cons (.cint 3) .nil)))) LB_law_land_1 [4, 6, 7, 8]) (.cons (.ret (.tup (.cons (.slot 3) (.cons (.bfn .tuple (.cons (.sortk (.slot 5) ix_law_whence) .nil)) .nil)))) .nil)))))
def F_law_land : Fd := ⟨10, 2, B_law_land⟩
/-- names: 0 land, 1 guess, 2 event, 3 spot, 4 face, 5 hour, 6 ground, 7 form, 8 its -/
def B_law_goes : Ss := (.cons (.unp [3, 4, 5, 6] (.slot 1)) (.cons (.set 7 (.idx (.slot 2) (.cint 0))) (.cons (.iff (.cmp .eq (.slot 7) (.cstr "go")) (.cons (.set 8 (.idx (.idx (.idx (.idx (.slot 0) (.cint 0)) (.slot 3)) (.cint 0)) (.slot 4))) (.cons (.iff (.cmp .ne (.cmp .isnot (.slot 8) .cnon) (.idx (.slot 2) (.cint 1))) (.cons (.ret .cnon) .nil) .nil) (.cons (.ret (.ite (.cmp .is (.slot 8) .cnon) (.slot 1) (.tup (.cons (.idx (.slot 8) (.cint 0)) (.cons (.idx (.slot 8) (.cint 1)) (.cons (.slot 5) (.cons (.idx (.slot 8) (.cint 2)) .nil))))))) .nil))) .nil) (.cons (.iff (.cmp .eq (.slot 7) (.cstr "turn")) (.cons (.ret (.tup (.cons (.slot 3) (.cons (.bin .mod (.bin .add (.slot 4) (.idx (.slot 2) (.cint 1))) (.cint 8)) (.cons (.slot 5) (.cons (.slot 6) .nil)))))) .nil) .nil) (.cons (.iff (.cmp .eq (.slot 7) (.cstr "wait")) (.cons (.ret (.tup (.cons (.slot 3) (.cons (.slot 4) (.cons (.bin .mod (.bin .add (.slot 5) (.idx (.slot 2) (.cint 1))) (.cint 24)) (.cons (.slot 6) .nil)))))) .nil) .nil) (.cons (.ret (.ite (.cmp .eq (.call ix_law_holds (.cons (.slot 0) (.cons (.slot 1) (.cons (.slice (.slot 2) .none (.some (.neg (.cint 1)))) .nil)))) (.idx (.slot 2) (.neg (.cint 1)))) (.slot 1) .cnon)) .nil))))))
def F_law_goes : Fd := ⟨9, 3, B_law_goes⟩
/-- names: 0 land, 1 guess, 2 test, 3 spot, 4 face, 5 hour, 6 ground, 7 heard_its, 8 row -/
def B_law_holds : Ss := (.cons (.unp [3, 4, 5, 6] (.slot 1)) (.cons (.iff (.cmp .eq (.idx (.slot 2) (.cint 0)) (.cstr "hear")) (.cons (.set 7 (.call ix_law_heard (.cons (.slot 0) (.cons (.slot 3) (.cons (.slot 5) .nil))))) (.cons (.ret (.bfn .any (.cons (.comp (.band (.cons (.cmp .eq (.idx (.slot 8) (.cint 0)) (.idx (.slot 2) (.cint 1))) (.cons (.bor (.cons (.cmp .is (.idx (.slot 2) (.cint 2)) .cnon) (.cons (.cmp .eq (.idx (.slot 8) (.cint 1)) (.bin .mod (.bin .add (.slot 4) (.idx (.slot 2) (.cint 2))) (.cint 8))) .nil))) .nil))) (.one 8) (.seq (.slot 7)) .none [8]) .nil))) .nil)) .nil) (.cons (.iff (.cmp .eq (.idx (.slot 2) (.cint 0)) (.cstr "way")) (.cons (.ret (.cmp .isnot (.idx (.idx (.idx (.idx (.slot 0) (.cint 0)) (.slot 3)) (.cint 0)) (.bin .mod (.bin .add (.slot 4) (.idx (.slot 2) (.cint 1))) (.cint 8))) .cnon)) .nil) .nil) (.cons (.ret (.cmp .eq (.slot 6) (.idx (.slot 2) (.cint 1)))) .nil))))
def F_law_holds : Fd := ⟨9, 3, B_law_holds⟩
/-- names: 0 land, 1 spot, 2 hour, 3 row -/
def B_law_heard : Ss := (.cons (.ret (.comp (.tup (.cons (.idx (.slot 3) (.cint 0)) (.cons (.idx (.slot 3) (.cint 1)) .nil))) (.one 3) (.seq (.idx (.idx (.idx (.slot 0) (.cint 0)) (.slot 1)) (.cint 1))) (.some (.chain .le .lt (.idx (.slot 3) (.cint 2)) (.slot 2) (.idx (.slot 3) (.cint 3)))) [3])) .nil)
def F_law_heard : Fd := ⟨4, 3, B_law_heard⟩
/-- names: 0 guess -/
def B_law_key : Ss := (.cons (.ret (.bin .add (.slice (.slot 0) .none (.some (.cint 3))) (.tup (.cons (.ite (.cmp .is (.idx (.slot 0) (.cint 3)) .cnon) (.cstr "") (.idx (.slot 0) (.cint 3))) .nil)))) .nil)
def F_law_key : Fd := ⟨1, 1, B_law_key⟩
/-- names: 0 land, 1 guess, 2 question, 3 so -/
def B_law_answer : Ss := (.cons (.iff (.cmp .eq (.idx (.slot 2) (.cint 0)) (.cstr "go")) (.cons (.set 3 (.cmp .isnot (.idx (.idx (.idx (.idx (.slot 0) (.cint 0)) (.idx (.slot 1) (.cint 0))) (.cint 0)) (.idx (.slot 1) (.cint 1))) .cnon)) (.cons (.ret (.tup (.cons (.slot 3) (.cons (.call ix_law_goes (.cons (.slot 0) (.cons (.slot 1) (.cons (.tup (.cons (.cstr "go") (.cons (.slot 3) .nil))) .nil)))) .nil)))) .nil)) .nil) (.cons (.iff (.cmp .mem (.idx (.slot 2) (.cint 0)) (.tup (.cons (.cstr "turn") (.cons (.cstr "wait") .nil)))) (.cons (.ret (.tup (.cons .cnon (.cons (.call ix_law_goes (.cons (.slot 0) (.cons (.slot 1) (.cons (.slot 2) .nil)))) .nil)))) .nil) .nil) (.cons (.ret (.tup (.cons (.call ix_law_holds (.cons (.slot 0) (.cons (.slot 1) (.cons (.slot 2) .nil)))) (.cons (.slot 1) .nil)))) .nil)))
def F_law_answer : Fd := ⟨4, 3, B_law_answer⟩
/-- names: 0 land, 1 signs, 2 grounds, 3 passages, 4 hearings, 5 row, 6 its, 7 rows, 8 ground, 9 sign, 10 side, 11 many -/
def LB_law_questions_1 : Ss := (.cons (.set 1 (.bin .add (.slot 1) (.comp (.idx (.slot 5) (.cint 0)) (.one 5) (.seq (.slot 4)) .none [5]))) (.cons (.set 2 (.bin .add (.slot 2) (.comp (.idx (.slot 6) (.cint 2)) (.one 6) (.seq (.slot 3)) (.some (.cmp .isnot (.slot 6) .cnon)) [6]))) .nil))
def LB_law_questions_2 : Ss := (.cons (.set 7 (.bin .add (.slot 7) (.comp (.tup (.cons (.cstr "hear") (.cons (.slot 9) (.cons (.slot 10) .nil)))) (.one 10) (.seq (.bin .add (.lst (.cons .cnon .nil)) (.lrng (.rng1 (.cint 8))))) .none [10]))) .nil)
def B_law_questions : Ss := (.cons (.par 1 2 (.lst .nil) (.lst .nil)) (.cons (.loop (.many [3, 4]) (.seq (.idx (.slot 0) (.cint 0))) LB_law_questions_1 [3, 4]) (.cons (.set 7 (.bin .add (.lst (.cons (.tup (.cons (.cstr "go") .nil)) .nil)) (.comp (.tup (.cons (.cstr "ground") (.cons (.slot 8) .nil))) (.one 8) (.seq (.bfn .sorted (.cons (.bfn .set (.cons (.slot 2) .nil)) .nil))) .none [8]))) (.cons (.loop (.one 9) (.seq (.bfn .sorted (.cons (.bfn .set (.cons (.slot 1) .nil)) .nil))) LB_law_questions_2 [9]) (.cons (.set 7 (.bin .add (.bin .add (.slot 7) (.comp (.tup (.cons (.cstr "turn") (.cons (.slot 10) .nil))) (.one 10) (.rng2 (.cint 1) (.cint 8)) .none [10])) (.comp (.tup (.cons (.cstr "wait") (.cons (.slot 11) .nil))) (.one 11) (.rng2 (.cint 1) (.cint 24)) .none [11]))) (.cons (.ret (.bin .add (.slot 7) (.comp (.tup (.cons (.cstr "way") (.cons (.slot 10) .nil))) (.one 10) (.rng1 (.cint 8)) .none [10]))) .nil))))))
def F_law_questions : Fd := ⟨12, 1, B_law_questions⟩
/-- names: 0 state, 1 land, 2 guess, 3 record, 4 k, 5 questions, 6 question, 7 so, 8 behind -/
def LB_law_record_1 : Ss := (.cons (.set 5 (.call ix_law_questions (.cons (.slot 1) .nil))) (.cons (.set 6 (.idx (.slot 5) (.call ix_law_draw (.cons (.slot 0) (.cons (.bfn .len (.cons (.slot 5) .nil)) .nil))))) (.cons (.iff (.cmp .eq (.call ix_law_draw (.cons (.slot 0) (.cons (.cint 3) .nil))) (.cint 0)) (.cons (.set 6 (.tup (.cons (.cstr "go") .nil))) .nil) .nil) (.cons (.unp [7, 8] (.call ix_law_answer (.cons (.slot 1) (.cons (.slot 2) (.cons (.slot 6) .nil))))) (.cons (.iff (.band (.cons (.cmp .eq (.call ix_law_draw (.cons (.slot 0) (.cons (.cint 8) .nil))) (.cint 0)) (.cons (.cmp .isnot (.slot 7) .cnon) .nil))) (.cons (.app (.slot 3) (.bin .add (.slot 6) (.tup (.cons (.not (.slot 7)) .nil)))) .nil) (.cons (.app (.slot 3) (.ite (.cmp .is (.slot 7) .cnon) (.slot 6) (.bin .add (.slot 6) (.tup (.cons (.slot 7) .nil))))) (.cons (.set 2 (.slot 8)) .nil))) .nil)))))
def B_law_record : Ss := (.cons (.set 3 (.lst .nil)) (.cons (.loop (.one 4) (.rng1 (.call ix_law_draw (.cons (.slot 0) (.cons (.cint 9) .nil)))) LB_law_record_1 [4, 5, 6, 7, 8]) (.cons (.ret (.bfn .tuple (.cons (.slot 3) .nil))) .nil)))
def F_law_record : Fd := ⟨9, 3, B_law_record⟩
/-- names: 0 land, 1 guesses, 2 record, 3 rows, 4 guess, 5 now, 6 event -/
def LB_law_due_2 : Ss := (.cons (.set 5 (.ite (.cmp .is (.slot 5) .cnon) .cnon (.call ix_law_goes (.cons (.slot 0) (.cons (.slot 5) (.cons (.slot 6) .nil)))))) .nil)
def LB_law_due_1 : Ss := (.cons (.set 5 (.slot 4)) (.cons (.loop (.one 6) (.seq (.slot 2)) LB_law_due_2 [6]) (.cons (.iff (.band (.cons (.cmp .isnot (.slot 5) .cnon) (.cons (.cmp .notmem (.slot 5) (.slot 3)) .nil))) (.cons (.app (.slot 3) (.slot 5)) .nil) .nil) .nil)))
def B_law_due : Ss := (.cons (.set 3 (.lst .nil)) (.cons (.loop (.one 4) (.seq (.slot 1)) LB_law_due_1 [4, 5, 6]) (.cons (.ret (.bfn .tuple (.cons (.sortk (.slot 3) ix_law_key) .nil))) .nil)))
def F_law_due : Fd := ⟨7, 3, B_law_due⟩
/-- names: 0 script, 1 run, 2 state, 3 land, 4 hour, 5 everywhere, 6 k, 7 some, 8 guess, 9 guesses, 10 record, 11 told, 12 now, 13 event -/
def LB_law_3 : Ss := (.cons (.set 12 (.call ix_may_be (.cons (.slot 3) (.cons (.slot 12) (.cons (.tup (.cons (.slot 13) .nil)) .nil))))) .nil)
def LB_law_2 : Ss := (.cons (.set 10 (.call ix_law_record (.cons (.slot 2) (.cons (.slot 3) (.cons (.idx (.slot 9) (.call ix_law_draw (.cons (.slot 2) (.cons (.bfn .len (.cons (.slot 9) .nil)) .nil)))) .nil))))) (.cons (.set 11 (.call ix_may_be (.cons (.slot 3) (.cons (.slot 9) (.cons (.slot 10) .nil))))) (.cons (.iff (.bor (.cons (.cmp .ne (.slot 11) (.call ix_law_due (.cons (.slot 3) (.cons (.slot 9) (.cons (.slot 10) .nil))))) (.cons (.cmp .gt (.bfn .len (.cons (.slot 11) .nil)) (.bfn .len (.cons (.slot 9) .nil))) .nil))) (.cons (.ret (.cbl false)) .nil) .nil) (.cons (.set 12 (.slot 9)) (.cons (.loop (.one 13) (.seq (.slot 10)) LB_law_3 [13]) (.cons (.iff (.cmp .ne (.slot 12) (.slot 11)) (.cons (.ret (.cbl false)) .nil) .nil) .nil))))))
def LB_law_1 : Ss := (.cons (.set 2 (.lst (.cons (.idx (.call ix_law_numbers (.cons (.slot 0) (.cons (.slot 1) (.cons (.cint 1) .nil)))) (.cint 0)) .nil))) (.cons (.set 3 (.call ix_law_land (.cons (.slot 2) (.cons (.cint 5) .nil)))) (.cons (.set 4 (.call ix_law_draw (.cons (.slot 2) (.cons (.cint 24) .nil)))) (.cons (.set 5 (.bfn .tuple (.cons (.comp (.tup (.cons (.bfn .int (.cons (.bin .fdiv (.slot 6) (.cint 8)) .nil)) (.cons (.bin .mod (.slot 6) (.cint 8)) (.cons (.slot 4) (.cons .cnon .nil))))) (.one 6) (.rng1 (.bin .mul (.cint 8) (.bfn .len (.cons (.idx (.slot 3) (.cint 0)) .nil)))) .none [6]) .nil))) (.cons (.iff (.cmp .ne (.call ix_anywhere (.cons (.slot 3) (.cons (.slot 4) .nil))) (.slot 5)) (.cons (.ret (.cbl false)) .nil) .nil) (.cons (.set 7 (.bor (.cons (.bfn .tuple (.cons (.comp (.slot 8) (.one 8) (.seq (.slot 5)) (.some (.cmp .gt (.call ix_law_draw (.cons (.slot 2) (.cons (.cint 3) .nil))) (.cint 0))) [8]) .nil)) (.cons (.slice (.slot 5) .none (.some (.cint 1))) .nil)))) (.cons (.loop (.one 9) (.seq (.tup (.cons (.slot 5) (.cons (.slot 7) .nil)))) LB_law_2 [9, 10, 11, 12, 13]) .nil)))))))
def B_law : Ss := (.cons (.loop (.one 1) (.rng1 (.cint 6)) LB_law_1 [1, 2, 3, 4, 5, 7, 9, 10, 11, 12, 13]) (.cons (.ret (.cbl true)) .nil))
def F_law : Fd := ⟨14, 1, B_law⟩
def fs : List Fd := [F_plain_of, F_is_int, F_is_number, F_is_word, F_is_hour, F_is_direction, F_is_whence, F_is_span, F_is_parts, F_order_key, F_is_ascending, F_turned_by, F_passage_form, F_hearing_form, F_hearings_form, F_spot_form, F_danger_form, F_dangers_form, F_land_form, F_many_spots, F_passage_at, F_hearings_at, F_heard_at, F_guess_form, F_guess_key, F_guesses_taken, F_question_form, F_is_move, F_event_form, F_Asker_init, F_Asker_ears, F_Asker_ahead, F_Asker_answer, F_Asker_behind, F_Asker_behind_record, F_land_taken, F_number_taken, F_hour_taken, F_record_form, F_may_be, F_anywhere, F_law_numbers, F_law_draw, F_law_whence, F_law_spot, F_law_land, F_law_goes, F_law_holds, F_law_heard, F_law_key, F_law_answer, F_law_questions, F_law_record, F_law_due, F_law]
theorem run_plain_of (fuel n : Nat) (ds : List D) (st : Store) : run fs fuel (n + 1) ix_plain_of ds st = runFd (run fs fuel n) fuel F_plain_of ds st := rfl
theorem run_is_int (fuel n : Nat) (ds : List D) (st : Store) : run fs fuel (n + 1) ix_is_int ds st = runFd (run fs fuel n) fuel F_is_int ds st := rfl
theorem run_is_number (fuel n : Nat) (ds : List D) (st : Store) : run fs fuel (n + 1) ix_is_number ds st = runFd (run fs fuel n) fuel F_is_number ds st := rfl
theorem run_is_word (fuel n : Nat) (ds : List D) (st : Store) : run fs fuel (n + 1) ix_is_word ds st = runFd (run fs fuel n) fuel F_is_word ds st := rfl
theorem run_is_hour (fuel n : Nat) (ds : List D) (st : Store) : run fs fuel (n + 1) ix_is_hour ds st = runFd (run fs fuel n) fuel F_is_hour ds st := rfl
theorem run_is_direction (fuel n : Nat) (ds : List D) (st : Store) : run fs fuel (n + 1) ix_is_direction ds st = runFd (run fs fuel n) fuel F_is_direction ds st := rfl
theorem run_is_whence (fuel n : Nat) (ds : List D) (st : Store) : run fs fuel (n + 1) ix_is_whence ds st = runFd (run fs fuel n) fuel F_is_whence ds st := rfl
theorem run_is_span (fuel n : Nat) (ds : List D) (st : Store) : run fs fuel (n + 1) ix_is_span ds st = runFd (run fs fuel n) fuel F_is_span ds st := rfl
theorem run_is_parts (fuel n : Nat) (ds : List D) (st : Store) : run fs fuel (n + 1) ix_is_parts ds st = runFd (run fs fuel n) fuel F_is_parts ds st := rfl
theorem run_order_key (fuel n : Nat) (ds : List D) (st : Store) : run fs fuel (n + 1) ix_order_key ds st = runFd (run fs fuel n) fuel F_order_key ds st := rfl
theorem run_is_ascending (fuel n : Nat) (ds : List D) (st : Store) : run fs fuel (n + 1) ix_is_ascending ds st = runFd (run fs fuel n) fuel F_is_ascending ds st := rfl
theorem run_turned_by (fuel n : Nat) (ds : List D) (st : Store) : run fs fuel (n + 1) ix_turned_by ds st = runFd (run fs fuel n) fuel F_turned_by ds st := rfl
theorem run_passage_form (fuel n : Nat) (ds : List D) (st : Store) : run fs fuel (n + 1) ix_passage_form ds st = runFd (run fs fuel n) fuel F_passage_form ds st := rfl
theorem run_hearing_form (fuel n : Nat) (ds : List D) (st : Store) : run fs fuel (n + 1) ix_hearing_form ds st = runFd (run fs fuel n) fuel F_hearing_form ds st := rfl
theorem run_hearings_form (fuel n : Nat) (ds : List D) (st : Store) : run fs fuel (n + 1) ix_hearings_form ds st = runFd (run fs fuel n) fuel F_hearings_form ds st := rfl
theorem run_spot_form (fuel n : Nat) (ds : List D) (st : Store) : run fs fuel (n + 1) ix_spot_form ds st = runFd (run fs fuel n) fuel F_spot_form ds st := rfl
theorem run_danger_form (fuel n : Nat) (ds : List D) (st : Store) : run fs fuel (n + 1) ix_danger_form ds st = runFd (run fs fuel n) fuel F_danger_form ds st := rfl
theorem run_dangers_form (fuel n : Nat) (ds : List D) (st : Store) : run fs fuel (n + 1) ix_dangers_form ds st = runFd (run fs fuel n) fuel F_dangers_form ds st := rfl
theorem run_land_form (fuel n : Nat) (ds : List D) (st : Store) : run fs fuel (n + 1) ix_land_form ds st = runFd (run fs fuel n) fuel F_land_form ds st := rfl
theorem run_many_spots (fuel n : Nat) (ds : List D) (st : Store) : run fs fuel (n + 1) ix_many_spots ds st = runFd (run fs fuel n) fuel F_many_spots ds st := rfl
theorem run_passage_at (fuel n : Nat) (ds : List D) (st : Store) : run fs fuel (n + 1) ix_passage_at ds st = runFd (run fs fuel n) fuel F_passage_at ds st := rfl
theorem run_hearings_at (fuel n : Nat) (ds : List D) (st : Store) : run fs fuel (n + 1) ix_hearings_at ds st = runFd (run fs fuel n) fuel F_hearings_at ds st := rfl
theorem run_heard_at (fuel n : Nat) (ds : List D) (st : Store) : run fs fuel (n + 1) ix_heard_at ds st = runFd (run fs fuel n) fuel F_heard_at ds st := rfl
theorem run_guess_form (fuel n : Nat) (ds : List D) (st : Store) : run fs fuel (n + 1) ix_guess_form ds st = runFd (run fs fuel n) fuel F_guess_form ds st := rfl
theorem run_guess_key (fuel n : Nat) (ds : List D) (st : Store) : run fs fuel (n + 1) ix_guess_key ds st = runFd (run fs fuel n) fuel F_guess_key ds st := rfl
theorem run_guesses_taken (fuel n : Nat) (ds : List D) (st : Store) : run fs fuel (n + 1) ix_guesses_taken ds st = runFd (run fs fuel n) fuel F_guesses_taken ds st := rfl
theorem run_question_form (fuel n : Nat) (ds : List D) (st : Store) : run fs fuel (n + 1) ix_question_form ds st = runFd (run fs fuel n) fuel F_question_form ds st := rfl
theorem run_is_move (fuel n : Nat) (ds : List D) (st : Store) : run fs fuel (n + 1) ix_is_move ds st = runFd (run fs fuel n) fuel F_is_move ds st := rfl
theorem run_event_form (fuel n : Nat) (ds : List D) (st : Store) : run fs fuel (n + 1) ix_event_form ds st = runFd (run fs fuel n) fuel F_event_form ds st := rfl
theorem run_Asker_init (fuel n : Nat) (ds : List D) (st : Store) : run fs fuel (n + 1) ix_Asker_init ds st = runFd (run fs fuel n) fuel F_Asker_init ds st := rfl
theorem run_Asker_ears (fuel n : Nat) (ds : List D) (st : Store) : run fs fuel (n + 1) ix_Asker_ears ds st = runFd (run fs fuel n) fuel F_Asker_ears ds st := rfl
theorem run_Asker_ahead (fuel n : Nat) (ds : List D) (st : Store) : run fs fuel (n + 1) ix_Asker_ahead ds st = runFd (run fs fuel n) fuel F_Asker_ahead ds st := rfl
theorem run_Asker_answer (fuel n : Nat) (ds : List D) (st : Store) : run fs fuel (n + 1) ix_Asker_answer ds st = runFd (run fs fuel n) fuel F_Asker_answer ds st := rfl
theorem run_Asker_behind (fuel n : Nat) (ds : List D) (st : Store) : run fs fuel (n + 1) ix_Asker_behind ds st = runFd (run fs fuel n) fuel F_Asker_behind ds st := rfl
theorem run_Asker_behind_record (fuel n : Nat) (ds : List D) (st : Store) : run fs fuel (n + 1) ix_Asker_behind_record ds st = runFd (run fs fuel n) fuel F_Asker_behind_record ds st := rfl
theorem run_land_taken (fuel n : Nat) (ds : List D) (st : Store) : run fs fuel (n + 1) ix_land_taken ds st = runFd (run fs fuel n) fuel F_land_taken ds st := rfl
theorem run_number_taken (fuel n : Nat) (ds : List D) (st : Store) : run fs fuel (n + 1) ix_number_taken ds st = runFd (run fs fuel n) fuel F_number_taken ds st := rfl
theorem run_hour_taken (fuel n : Nat) (ds : List D) (st : Store) : run fs fuel (n + 1) ix_hour_taken ds st = runFd (run fs fuel n) fuel F_hour_taken ds st := rfl
theorem run_record_form (fuel n : Nat) (ds : List D) (st : Store) : run fs fuel (n + 1) ix_record_form ds st = runFd (run fs fuel n) fuel F_record_form ds st := rfl
theorem run_may_be (fuel n : Nat) (ds : List D) (st : Store) : run fs fuel (n + 1) ix_may_be ds st = runFd (run fs fuel n) fuel F_may_be ds st := rfl
theorem run_anywhere (fuel n : Nat) (ds : List D) (st : Store) : run fs fuel (n + 1) ix_anywhere ds st = runFd (run fs fuel n) fuel F_anywhere ds st := rfl
theorem run_law_numbers (fuel n : Nat) (ds : List D) (st : Store) : run fs fuel (n + 1) ix_law_numbers ds st = runFd (run fs fuel n) fuel F_law_numbers ds st := rfl
theorem run_law_draw (fuel n : Nat) (ds : List D) (st : Store) : run fs fuel (n + 1) ix_law_draw ds st = runFd (run fs fuel n) fuel F_law_draw ds st := rfl
theorem run_law_whence (fuel n : Nat) (ds : List D) (st : Store) : run fs fuel (n + 1) ix_law_whence ds st = runFd (run fs fuel n) fuel F_law_whence ds st := rfl
theorem run_law_spot (fuel n : Nat) (ds : List D) (st : Store) : run fs fuel (n + 1) ix_law_spot ds st = runFd (run fs fuel n) fuel F_law_spot ds st := rfl
theorem run_law_land (fuel n : Nat) (ds : List D) (st : Store) : run fs fuel (n + 1) ix_law_land ds st = runFd (run fs fuel n) fuel F_law_land ds st := rfl
theorem run_law_goes (fuel n : Nat) (ds : List D) (st : Store) : run fs fuel (n + 1) ix_law_goes ds st = runFd (run fs fuel n) fuel F_law_goes ds st := rfl
theorem run_law_holds (fuel n : Nat) (ds : List D) (st : Store) : run fs fuel (n + 1) ix_law_holds ds st = runFd (run fs fuel n) fuel F_law_holds ds st := rfl
theorem run_law_heard (fuel n : Nat) (ds : List D) (st : Store) : run fs fuel (n + 1) ix_law_heard ds st = runFd (run fs fuel n) fuel F_law_heard ds st := rfl
theorem run_law_key (fuel n : Nat) (ds : List D) (st : Store) : run fs fuel (n + 1) ix_law_key ds st = runFd (run fs fuel n) fuel F_law_key ds st := rfl
theorem run_law_answer (fuel n : Nat) (ds : List D) (st : Store) : run fs fuel (n + 1) ix_law_answer ds st = runFd (run fs fuel n) fuel F_law_answer ds st := rfl
theorem run_law_questions (fuel n : Nat) (ds : List D) (st : Store) : run fs fuel (n + 1) ix_law_questions ds st = runFd (run fs fuel n) fuel F_law_questions ds st := rfl
theorem run_law_record (fuel n : Nat) (ds : List D) (st : Store) : run fs fuel (n + 1) ix_law_record ds st = runFd (run fs fuel n) fuel F_law_record ds st := rfl
theorem run_law_due (fuel n : Nat) (ds : List D) (st : Store) : run fs fuel (n + 1) ix_law_due ds st = runFd (run fs fuel n) fuel F_law_due ds st := rfl
theorem run_law (fuel n : Nat) (ds : List D) (st : Store) : run fs fuel (n + 1) ix_law ds st = runFd (run fs fuel n) fuel F_law ds st := rfl
end Pd.T
end
section
set_option Elab.async false
set_option linter.all false
set_option maxRecDepth 100000
set_option maxHeartbeats 0
namespace Pd.T
open PySem PySem.Spec PyProof.Rows L2
def sub (s : Stmt) (j : Nat) : Stmt := match s with
  | .ClassDef _ _ _ b _ _ _ _ _ _ _ => b.getD j (.Pass ⟨0, 0, 0, 0⟩)
  | _ => .Pass ⟨0, 0, 0, 0⟩
abbrev PW := PySem.Challenge.pw_earway_k19_where_one_may_be
def top (i : Nat) : Stmt := PW.main.body.getD i (.Pass ⟨0, 0, 0, 0⟩)
def d_plain_of : He.DefD := ⟨("plain_of", none), "plain_of", "plain_of", defArgs (top 5), defBody (top 5), defScope (top 5), [], []⟩
def df_plain_of : Df := ⟨d_plain_of, ["value", "part"], ["value"], F_plain_of⟩
theorem tk_plain_of : df_plain_of.takes := fun _ _ _ _ _ _ us hl => match us, hl with | [_], _ => rfl
def d_is_int : He.DefD := ⟨("is_int", none), "is_int", "is_int", defArgs (top 6), defBody (top 6), defScope (top 6), [], []⟩
def df_is_int : Df := ⟨d_is_int, ["value"], ["value"], F_is_int⟩
theorem tk_is_int : df_is_int.takes := fun _ _ _ _ _ _ us hl => match us, hl with | [_], _ => rfl
def d_is_number : He.DefD := ⟨("is_number", none), "is_number", "is_number", defArgs (top 7), defBody (top 7), defScope (top 7), [], []⟩
def df_is_number : Df := ⟨d_is_number, ["value", "low", "high"], ["value", "low", "high"], F_is_number⟩
theorem tk_is_number : df_is_number.takes := fun _ _ _ _ _ _ us hl => match us, hl with | [_, _, _], _ => rfl
def d_is_word : He.DefD := ⟨("is_word", none), "is_word", "is_word", defArgs (top 8), defBody (top 8), defScope (top 8), [], []⟩
def df_is_word : Df := ⟨d_is_word, ["value", "sign"], ["value"], F_is_word⟩
theorem tk_is_word : df_is_word.takes := fun _ _ _ _ _ _ us hl => match us, hl with | [_], _ => rfl
def d_is_hour : He.DefD := ⟨("is_hour", none), "is_hour", "is_hour", defArgs (top 9), defBody (top 9), defScope (top 9), [], []⟩
def df_is_hour : Df := ⟨d_is_hour, ["value"], ["value"], F_is_hour⟩
theorem tk_is_hour : df_is_hour.takes := fun _ _ _ _ _ _ us hl => match us, hl with | [_], _ => rfl
def d_is_direction : He.DefD := ⟨("is_direction", none), "is_direction", "is_direction", defArgs (top 10), defBody (top 10), defScope (top 10), [], []⟩
def df_is_direction : Df := ⟨d_is_direction, ["value"], ["value"], F_is_direction⟩
theorem tk_is_direction : df_is_direction.takes := fun _ _ _ _ _ _ us hl => match us, hl with | [_], _ => rfl
def d_is_whence : He.DefD := ⟨("is_whence", none), "is_whence", "is_whence", defArgs (top 11), defBody (top 11), defScope (top 11), [], []⟩
def df_is_whence : Df := ⟨d_is_whence, ["value"], ["value"], F_is_whence⟩
theorem tk_is_whence : df_is_whence.takes := fun _ _ _ _ _ _ us hl => match us, hl with | [_], _ => rfl
def d_is_span : He.DefD := ⟨("is_span", none), "is_span", "is_span", defArgs (top 12), defBody (top 12), defScope (top 12), [], []⟩
def df_is_span : Df := ⟨d_is_span, ["first", "end"], ["first", "end"], F_is_span⟩
theorem tk_is_span : df_is_span.takes := fun _ _ _ _ _ _ us hl => match us, hl with | [_, _], _ => rfl
def d_is_parts : He.DefD := ⟨("is_parts", none), "is_parts", "is_parts", defArgs (top 13), defBody (top 13), defScope (top 13), [], []⟩
def df_is_parts : Df := ⟨d_is_parts, ["value", "many"], ["value", "many"], F_is_parts⟩
theorem tk_is_parts : df_is_parts.takes := fun _ _ _ _ _ _ us hl => match us, hl with | [_, _], _ => rfl
def d_order_key : He.DefD := ⟨("order_key", none), "order_key", "order_key", defArgs (top 14), defBody (top 14), defScope (top 14), [], []⟩
def df_order_key : Df := ⟨d_order_key, ["value", "part"], ["value"], F_order_key⟩
theorem tk_order_key : df_order_key.takes := fun _ _ _ _ _ _ us hl => match us, hl with | [_], _ => rfl
def d_is_ascending : He.DefD := ⟨("is_ascending", none), "is_ascending", "is_ascending", defArgs (top 15), defBody (top 15), defScope (top 15), [], []⟩
def df_is_ascending : Df := ⟨d_is_ascending, ["rows", "keys", "row", "at"], ["rows"], F_is_ascending⟩
theorem tk_is_ascending : df_is_ascending.takes := fun _ _ _ _ _ _ us hl => match us, hl with | [_], _ => rfl
def d_turned_by : He.DefD := ⟨("turned_by", none), "turned_by", "turned_by", defArgs (top 17), defBody (top 17), defScope (top 17), [], []⟩
def df_turned_by : Df := ⟨d_turned_by, ["direction", "side"], ["direction", "side"], F_turned_by⟩
theorem tk_turned_by : df_turned_by.takes := fun _ _ _ _ _ _ us hl => match us, hl with | [_, _], _ => rfl
def d_passage_form : He.DefD := ⟨("passage_form", none), "passage_form", "passage_form", defArgs (top 18), defBody (top 18), defScope (top 18), [], []⟩
def df_passage_form : Df := ⟨d_passage_form, ["value", "many", "to", "out", "ground"], ["value", "many"], F_passage_form⟩
theorem tk_passage_form : df_passage_form.takes := fun _ _ _ _ _ _ us hl => match us, hl with | [_, _], _ => rfl
def d_hearing_form : He.DefD := ⟨("hearing_form", none), "hearing_form", "hearing_form", defArgs (top 19), defBody (top 19), defScope (top 19), [], []⟩
def df_hearing_form : Df := ⟨d_hearing_form, ["value", "sign", "whence", "first", "end"], ["value"], F_hearing_form⟩
theorem tk_hearing_form : df_hearing_form.takes := fun _ _ _ _ _ _ us hl => match us, hl with | [_], _ => rfl
def d_hearings_form : He.DefD := ⟨("hearings_form", none), "hearings_form", "hearings_form", defArgs (top 20), defBody (top 20), defScope (top 20), [], []⟩
def df_hearings_form : Df := ⟨d_hearings_form, ["value", "row"], ["value"], F_hearings_form⟩
theorem tk_hearings_form : df_hearings_form.takes := fun _ _ _ _ _ _ us hl => match us, hl with | [_], _ => rfl
def d_spot_form : He.DefD := ⟨("spot_form", none), "spot_form", "spot_form", defArgs (top 21), defBody (top 21), defScope (top 21), [], []⟩
def df_spot_form : Df := ⟨d_spot_form, ["value", "many", "passages", "hearings", "way"], ["value", "many"], F_spot_form⟩
theorem tk_spot_form : df_spot_form.takes := fun _ _ _ _ _ _ us hl => match us, hl with | [_, _], _ => rfl
def d_danger_form : He.DefD := ⟨("danger_form", none), "danger_form", "danger_form", defArgs (top 22), defBody (top 22), defScope (top 22), [], []⟩
def df_danger_form : Df := ⟨d_danger_form, ["value", "many", "spot", "direction", "first", "end"], ["value", "many"], F_danger_form⟩
theorem tk_danger_form : df_danger_form.takes := fun _ _ _ _ _ _ us hl => match us, hl with | [_, _], _ => rfl
def d_dangers_form : He.DefD := ⟨("dangers_form", none), "dangers_form", "dangers_form", defArgs (top 23), defBody (top 23), defScope (top 23), [], []⟩
def df_dangers_form : Df := ⟨d_dangers_form, ["value", "many", "row"], ["value", "many"], F_dangers_form⟩
theorem tk_dangers_form : df_dangers_form.takes := fun _ _ _ _ _ _ us hl => match us, hl with | [_, _], _ => rfl
def d_land_form : He.DefD := ⟨("land_form", none), "land_form", "land_form", defArgs (top 24), defBody (top 24), defScope (top 24), [], []⟩
def df_land_form : Df := ⟨d_land_form, ["value", "spots", "dangers", "many", "spot"], ["value"], F_land_form⟩
theorem tk_land_form : df_land_form.takes := fun _ _ _ _ _ _ us hl => match us, hl with | [_], _ => rfl
def d_many_spots : He.DefD := ⟨("many_spots", none), "many_spots", "many_spots", defArgs (top 25), defBody (top 25), defScope (top 25), [], []⟩
def df_many_spots : Df := ⟨d_many_spots, ["land"], ["land"], F_many_spots⟩
theorem tk_many_spots : df_many_spots.takes := fun _ _ _ _ _ _ us hl => match us, hl with | [_], _ => rfl
def d_passage_at : He.DefD := ⟨("passage_at", none), "passage_at", "passage_at", defArgs (top 26), defBody (top 26), defScope (top 26), [], []⟩
def df_passage_at : Df := ⟨d_passage_at, ["land", "spot", "direction"], ["land", "spot", "direction"], F_passage_at⟩
theorem tk_passage_at : df_passage_at.takes := fun _ _ _ _ _ _ us hl => match us, hl with | [_, _, _], _ => rfl
def d_hearings_at : He.DefD := ⟨("hearings_at", none), "hearings_at", "hearings_at", defArgs (top 27), defBody (top 27), defScope (top 27), [], []⟩
def df_hearings_at : Df := ⟨d_hearings_at, ["land", "spot"], ["land", "spot"], F_hearings_at⟩
theorem tk_hearings_at : df_hearings_at.takes := fun _ _ _ _ _ _ us hl => match us, hl with | [_, _], _ => rfl
def d_heard_at : He.DefD := ⟨("heard_at", none), "heard_at", "heard_at", defArgs (top 28), defBody (top 28), defScope (top 28), [], []⟩
def df_heard_at : Df := ⟨d_heard_at, ["land", "spot", "hour", "row"], ["land", "spot", "hour"], F_heard_at⟩
theorem tk_heard_at : df_heard_at.takes := fun _ _ _ _ _ _ us hl => match us, hl with | [_, _, _], _ => rfl
def d_guess_form : He.DefD := ⟨("guess_form", none), "guess_form", "guess_form", defArgs (top 30), defBody (top 30), defScope (top 30), [], []⟩
def df_guess_form : Df := ⟨d_guess_form, ["value", "land", "spot", "face", "hour", "ground"], ["value", "land"], F_guess_form⟩
theorem tk_guess_form : df_guess_form.takes := fun _ _ _ _ _ _ us hl => match us, hl with | [_, _], _ => rfl
def d_guess_key : He.DefD := ⟨("guess_key", none), "guess_key", "guess_key", defArgs (top 31), defBody (top 31), defScope (top 31), [], []⟩
def df_guess_key : Df := ⟨d_guess_key, ["guess", "spot", "face", "hour", "ground"], ["guess"], F_guess_key⟩
theorem tk_guess_key : df_guess_key.takes := fun _ _ _ _ _ _ us hl => match us, hl with | [_], _ => rfl
def d_guesses_taken : He.DefD := ⟨("guesses_taken", none), "guesses_taken", "guesses_taken", defArgs (top 32), defBody (top 32), defScope (top 32), [], []⟩
def df_guesses_taken : Df := ⟨d_guesses_taken, ["value", "at", "land", "low", "high", "rows", "row", "order", "k"], ["value", "at", "land", "low", "high"], F_guesses_taken⟩
theorem tk_guesses_taken : df_guesses_taken.takes := fun _ _ _ _ _ _ us hl => match us, hl with | [_, _, _, _, _], _ => rfl
def d_question_form : He.DefD := ⟨("question_form", none), "question_form", "question_form", defArgs (top 33), defBody (top 33), defScope (top 33), [], []⟩
def df_question_form : Df := ⟨d_question_form, ["value", "form"], ["value"], F_question_form⟩
theorem tk_question_form : df_question_form.takes := fun _ _ _ _ _ _ us hl => match us, hl with | [_], _ => rfl
def d_is_move : He.DefD := ⟨("is_move", none), "is_move", "is_move", defArgs (top 34), defBody (top 34), defScope (top 34), [], []⟩
def df_is_move : Df := ⟨d_is_move, ["question"], ["question"], F_is_move⟩
theorem tk_is_move : df_is_move.takes := fun _ _ _ _ _ _ us hl => match us, hl with | [_], _ => rfl
def d_event_form : He.DefD := ⟨("event_form", none), "event_form", "event_form", defArgs (top 35), defBody (top 35), defScope (top 35), [], []⟩
def df_event_form : Df := ⟨d_event_form, ["value"], ["value"], F_event_form⟩
theorem tk_event_form : df_event_form.takes := fun _ _ _ _ _ _ us hl => match us, hl with | [_], _ => rfl
def d_Asker_init : He.DefD := ⟨("Asker", some "__init__"), "__init__", "Asker.__init__", defArgs (sub (top 36) 0), defBody (sub (top 36) 0), defScope (sub (top 36) 0), [], []⟩
def df_Asker_init : Df := ⟨d_Asker_init, ["self", "land", "spot", "row", "direction", "passage"], ["self", "land"], F_Asker_init⟩
theorem tk_Asker_init : df_Asker_init.takes := fun _ _ _ _ _ _ us hl => match us, hl with | [_, _], _ => rfl
def d_Asker_ears : He.DefD := ⟨("Asker", some "ears"), "ears", "Asker.ears", defArgs (sub (top 36) 4), defBody (sub (top 36) 4), defScope (sub (top 36) 4), [], []⟩
def df_Asker_ears : Df := ⟨d_Asker_ears, ["self", "guess", "place", "rows", "sign", "whence"], ["self", "guess"], F_Asker_ears⟩
theorem tk_Asker_ears : df_Asker_ears.takes := fun _ _ _ _ _ _ us hl => match us, hl with | [_, _], _ => rfl
def d_Asker_ahead : He.DefD := ⟨("Asker", some "ahead"), "ahead", "Asker.ahead", defArgs (sub (top 36) 6), defBody (sub (top 36) 6), defScope (sub (top 36) 6), [], []⟩
def df_Asker_ahead : Df := ⟨d_Asker_ahead, ["self", "guess", "side"], ["self", "guess", "side"], F_Asker_ahead⟩
theorem tk_Asker_ahead : df_Asker_ahead.takes := fun _ _ _ _ _ _ us hl => match us, hl with | [_, _, _], _ => rfl
def d_Asker_answer : He.DefD := ⟨("Asker", some "answer"), "answer", "Asker.answer", defArgs (sub (top 36) 7), defBody (sub (top 36) 7), defScope (sub (top 36) 7), [], []⟩
def df_Asker_answer : Df := ⟨d_Asker_answer, ["self", "question", "guess", "form"], ["self", "question", "guess"], F_Asker_answer⟩
theorem tk_Asker_answer : df_Asker_answer.takes := fun _ _ _ _ _ _ us hl => match us, hl with | [_, _, _], _ => rfl
def d_Asker_behind : He.DefD := ⟨("Asker", some "behind"), "behind", "Asker.behind", defArgs (sub (top 36) 8), defBody (sub (top 36) 8), defScope (sub (top 36) 8), [], []⟩
def df_Asker_behind : Df := ⟨d_Asker_behind, ["self", "question", "guess", "spot", "face", "hour", "ground", "passage"], ["self", "question", "guess"], F_Asker_behind⟩
theorem tk_Asker_behind : df_Asker_behind.takes := fun _ _ _ _ _ _ us hl => match us, hl with | [_, _, _], _ => rfl
def d_Asker_behind_record : He.DefD := ⟨("Asker", some "behind_record"), "behind_record", "Asker.behind_record", defArgs (sub (top 36) 9), defBody (sub (top 36) 9), defScope (sub (top 36) 9), [], []⟩
def df_Asker_behind_record : Df := ⟨d_Asker_behind_record, ["self", "record", "guess", "event"], ["self", "record", "guess"], F_Asker_behind_record⟩
theorem tk_Asker_behind_record : df_Asker_behind_record.takes := fun _ _ _ _ _ _ us hl => match us, hl with | [_, _, _], _ => rfl
def d_land_taken : He.DefD := ⟨("land_taken", none), "land_taken", "land_taken", defArgs (top 38), defBody (top 38), defScope (top 38), [], []⟩
def df_land_taken : Df := ⟨d_land_taken, ["value", "at", "land"], ["value", "at"], F_land_taken⟩
theorem tk_land_taken : df_land_taken.takes := fun _ _ _ _ _ _ us hl => match us, hl with | [_, _], _ => rfl
def d_number_taken : He.DefD := ⟨("number_taken", none), "number_taken", "number_taken", defArgs (top 39), defBody (top 39), defScope (top 39), [], []⟩
def df_number_taken : Df := ⟨d_number_taken, ["value", "at", "low", "high"], ["value", "at", "low", "high"], F_number_taken⟩
theorem tk_number_taken : df_number_taken.takes := fun _ _ _ _ _ _ us hl => match us, hl with | [_, _, _, _], _ => rfl
def d_hour_taken : He.DefD := ⟨("hour_taken", none), "hour_taken", "hour_taken", defArgs (top 40), defBody (top 40), defScope (top 40), [], []⟩
def df_hour_taken : Df := ⟨d_hour_taken, ["value", "at"], ["value", "at"], F_hour_taken⟩
theorem tk_hour_taken : df_hour_taken.takes := fun _ _ _ _ _ _ us hl => match us, hl with | [_, _], _ => rfl
def d_record_form : He.DefD := ⟨("record_form", none), "record_form", "record_form", defArgs (top 43), defBody (top 43), defScope (top 43), [], []⟩
def df_record_form : Df := ⟨d_record_form, ["value", "event"], ["value"], F_record_form⟩
theorem tk_record_form : df_record_form.takes := fun _ _ _ _ _ _ us hl => match us, hl with | [_], _ => rfl
def d_may_be : He.DefD := ⟨("may_be", none), "may_be", "may_be", defArgs (top 44), defBody (top 44), defScope (top 44), [], []⟩
def df_may_be : Df := ⟨d_may_be, ["land", "guesses", "record", "whole", "begun", "events", "asker", "kept", "guess", "last"], ["land", "guesses", "record"], F_may_be⟩
theorem tk_may_be : df_may_be.takes := fun _ _ _ _ _ _ us hl => match us, hl with | [_, _, _], _ => rfl
def d_anywhere : He.DefD := ⟨("anywhere", none), "anywhere", "anywhere", defArgs (top 45), defBody (top 45), defScope (top 45), [], []⟩
def df_anywhere : Df := ⟨d_anywhere, ["land", "hour", "whole", "when", "spot", "face"], ["land", "hour"], F_anywhere⟩
theorem tk_anywhere : df_anywhere.takes := fun _ _ _ _ _ _ us hl => match us, hl with | [_, _], _ => rfl
def d_law_numbers : He.DefD := ⟨("_law_numbers", none), "_law_numbers", "_law_numbers", defArgs (top 47), defBody (top 47), defScope (top 47), [], []⟩
def df_law_numbers : Df := ⟨d_law_numbers, ["script", "place", "many", "cell", "numbers", "rest", "k", "mixed"], ["script", "place", "many"], F_law_numbers⟩
theorem tk_law_numbers : df_law_numbers.takes := fun _ _ _ _ _ _ us hl => match us, hl with | [_, _, _], _ => rfl
def d_law_draw : He.DefD := ⟨("_law_draw", none), "_law_draw", "_law_draw", defArgs (top 48), defBody (top 48), defScope (top 48), [], []⟩
def df_law_draw : Df := ⟨d_law_draw, ["state", "many"], ["state", "many"], F_law_draw⟩
theorem tk_law_draw : df_law_draw.takes := fun _ _ _ _ _ _ us hl => match us, hl with | [_, _], _ => rfl
def d_law_whence : He.DefD := ⟨("_law_whence", none), "_law_whence", "_law_whence", defArgs (top 49), defBody (top 49), defScope (top 49), [], []⟩
def df_law_whence : Df := ⟨d_law_whence, ["row"], ["row"], F_law_whence⟩
theorem tk_law_whence : df_law_whence.takes := fun _ _ _ _ _ _ us hl => match us, hl with | [_], _ => rfl
def d_law_spot : He.DefD := ⟨("_law_spot", none), "_law_spot", "_law_spot", defArgs (top 50), defBody (top 50), defScope (top 50), [], []⟩
def df_law_spot : Df := ⟨d_law_spot, ["state", "spots", "passages", "direction", "passage_its", "out", "hearings", "k", "sign", "whence", "first", "end", "row"], ["state", "spots"], F_law_spot⟩
theorem tk_law_spot : df_law_spot.takes := fun _ _ _ _ _ _ us hl => match us, hl with | [_, _], _ => rfl
def d_law_land : He.DefD := ⟨("_law_land", none), "_law_land", "_law_land", defArgs (top 51), defBody (top 51), defScope (top 51), [], []⟩
def df_law_land : Df := ⟨d_law_land, ["state", "most", "spots", "rows", "k", "dangers", "spot", "direction", "first", "row"], ["state", "most"], F_law_land⟩
theorem tk_law_land : df_law_land.takes := fun _ _ _ _ _ _ us hl => match us, hl with | [_, _], _ => rfl
def d_law_goes : He.DefD := ⟨("_law_goes", none), "_law_goes", "_law_goes", defArgs (top 52), defBody (top 52), defScope (top 52), [], []⟩
def df_law_goes : Df := ⟨d_law_goes, ["land", "guess", "event", "spot", "face", "hour", "ground", "form", "its"], ["land", "guess", "event"], F_law_goes⟩
theorem tk_law_goes : df_law_goes.takes := fun _ _ _ _ _ _ us hl => match us, hl with | [_, _, _], _ => rfl
def d_law_holds : He.DefD := ⟨("_law_holds", none), "_law_holds", "_law_holds", defArgs (top 53), defBody (top 53), defScope (top 53), [], []⟩
def df_law_holds : Df := ⟨d_law_holds, ["land", "guess", "test", "spot", "face", "hour", "ground", "heard_its", "row"], ["land", "guess", "test"], F_law_holds⟩
theorem tk_law_holds : df_law_holds.takes := fun _ _ _ _ _ _ us hl => match us, hl with | [_, _, _], _ => rfl
def d_law_heard : He.DefD := ⟨("_law_heard", none), "_law_heard", "_law_heard", defArgs (top 54), defBody (top 54), defScope (top 54), [], []⟩
def df_law_heard : Df := ⟨d_law_heard, ["land", "spot", "hour", "row"], ["land", "spot", "hour"], F_law_heard⟩
theorem tk_law_heard : df_law_heard.takes := fun _ _ _ _ _ _ us hl => match us, hl with | [_, _, _], _ => rfl
def d_law_key : He.DefD := ⟨("_law_key", none), "_law_key", "_law_key", defArgs (top 55), defBody (top 55), defScope (top 55), [], []⟩
def df_law_key : Df := ⟨d_law_key, ["guess"], ["guess"], F_law_key⟩
theorem tk_law_key : df_law_key.takes := fun _ _ _ _ _ _ us hl => match us, hl with | [_], _ => rfl
def d_law_answer : He.DefD := ⟨("_law_answer", none), "_law_answer", "_law_answer", defArgs (top 56), defBody (top 56), defScope (top 56), [], []⟩
def df_law_answer : Df := ⟨d_law_answer, ["land", "guess", "question", "so"], ["land", "guess", "question"], F_law_answer⟩
theorem tk_law_answer : df_law_answer.takes := fun _ _ _ _ _ _ us hl => match us, hl with | [_, _, _], _ => rfl
def d_law_questions : He.DefD := ⟨("_law_questions", none), "_law_questions", "_law_questions", defArgs (top 57), defBody (top 57), defScope (top 57), [], []⟩
def df_law_questions : Df := ⟨d_law_questions, ["land", "signs", "grounds", "passages", "hearings", "row", "its", "rows", "ground", "sign", "side", "many"], ["land"], F_law_questions⟩
theorem tk_law_questions : df_law_questions.takes := fun _ _ _ _ _ _ us hl => match us, hl with | [_], _ => rfl
def d_law_record : He.DefD := ⟨("_law_record", none), "_law_record", "_law_record", defArgs (top 58), defBody (top 58), defScope (top 58), [], []⟩
def df_law_record : Df := ⟨d_law_record, ["state", "land", "guess", "record", "k", "questions", "question", "so", "behind"], ["state", "land", "guess"], F_law_record⟩
theorem tk_law_record : df_law_record.takes := fun _ _ _ _ _ _ us hl => match us, hl with | [_, _, _], _ => rfl
def d_law_due : He.DefD := ⟨("_law_due", none), "_law_due", "_law_due", defArgs (top 59), defBody (top 59), defScope (top 59), [], []⟩
def df_law_due : Df := ⟨d_law_due, ["land", "guesses", "record", "rows", "guess", "now", "event"], ["land", "guesses", "record"], F_law_due⟩
theorem tk_law_due : df_law_due.takes := fun _ _ _ _ _ _ us hl => match us, hl with | [_, _, _], _ => rfl
def d_law : He.DefD := ⟨("law", none), "law", "law", defArgs (top 60), defBody (top 60), defScope (top 60), [], []⟩
def df_law : Df := ⟨d_law, ["script", "run", "state", "land", "hour", "everywhere", "k", "some", "guess", "guesses", "record", "told", "now", "event"], ["script"], F_law⟩
theorem tk_law : df_law.takes := fun _ _ _ _ _ _ us hl => match us, hl with | [_], _ => rfl
def dfs : List Df := ([df_plain_of, df_is_int, df_is_number, df_is_word, df_is_hour, df_is_direction, df_is_whence, df_is_span, df_is_parts, df_order_key, df_is_ascending, df_turned_by, df_passage_form, df_hearing_form, df_hearings_form, df_spot_form, df_danger_form, df_dangers_form, df_land_form, df_many_spots, df_passage_at, df_hearings_at, df_heard_at, df_guess_form, df_guess_key, df_guesses_taken, df_question_form, df_is_move, df_event_form, df_Asker_init] : List (Df)) ++ ([df_Asker_ears, df_Asker_ahead, df_Asker_answer, df_Asker_behind, df_Asker_behind_record, df_land_taken, df_number_taken, df_hour_taken, df_record_form, df_may_be, df_anywhere, df_law_numbers, df_law_draw, df_law_whence, df_law_spot, df_law_land, df_law_goes, df_law_holds, df_law_heard, df_law_key, df_law_answer, df_law_questions, df_law_record, df_law_due, df_law] : List (Df))
theorem tks : ∀ x ∈ dfs, x.takes := List.forall_mem_cons.mpr ⟨tk_plain_of, List.forall_mem_cons.mpr ⟨tk_is_int, List.forall_mem_cons.mpr ⟨tk_is_number, List.forall_mem_cons.mpr ⟨tk_is_word, List.forall_mem_cons.mpr ⟨tk_is_hour, List.forall_mem_cons.mpr ⟨tk_is_direction, List.forall_mem_cons.mpr ⟨tk_is_whence, List.forall_mem_cons.mpr ⟨tk_is_span, List.forall_mem_cons.mpr ⟨tk_is_parts, List.forall_mem_cons.mpr ⟨tk_order_key, List.forall_mem_cons.mpr ⟨tk_is_ascending, List.forall_mem_cons.mpr ⟨tk_turned_by, List.forall_mem_cons.mpr ⟨tk_passage_form, List.forall_mem_cons.mpr ⟨tk_hearing_form, List.forall_mem_cons.mpr ⟨tk_hearings_form, List.forall_mem_cons.mpr ⟨tk_spot_form, List.forall_mem_cons.mpr ⟨tk_danger_form, List.forall_mem_cons.mpr ⟨tk_dangers_form, List.forall_mem_cons.mpr ⟨tk_land_form, List.forall_mem_cons.mpr ⟨tk_many_spots, List.forall_mem_cons.mpr ⟨tk_passage_at, List.forall_mem_cons.mpr ⟨tk_hearings_at, List.forall_mem_cons.mpr ⟨tk_heard_at, List.forall_mem_cons.mpr ⟨tk_guess_form, List.forall_mem_cons.mpr ⟨tk_guess_key, List.forall_mem_cons.mpr ⟨tk_guesses_taken, List.forall_mem_cons.mpr ⟨tk_question_form, List.forall_mem_cons.mpr ⟨tk_is_move, List.forall_mem_cons.mpr ⟨tk_event_form, List.forall_mem_cons.mpr ⟨tk_Asker_init, List.forall_mem_cons.mpr ⟨tk_Asker_ears, List.forall_mem_cons.mpr ⟨tk_Asker_ahead, List.forall_mem_cons.mpr ⟨tk_Asker_answer, List.forall_mem_cons.mpr ⟨tk_Asker_behind, List.forall_mem_cons.mpr ⟨tk_Asker_behind_record, List.forall_mem_cons.mpr ⟨tk_land_taken, List.forall_mem_cons.mpr ⟨tk_number_taken, List.forall_mem_cons.mpr ⟨tk_hour_taken, List.forall_mem_cons.mpr ⟨tk_record_form, List.forall_mem_cons.mpr ⟨tk_may_be, List.forall_mem_cons.mpr ⟨tk_anywhere, List.forall_mem_cons.mpr ⟨tk_law_numbers, List.forall_mem_cons.mpr ⟨tk_law_draw, List.forall_mem_cons.mpr ⟨tk_law_whence, List.forall_mem_cons.mpr ⟨tk_law_spot, List.forall_mem_cons.mpr ⟨tk_law_land, List.forall_mem_cons.mpr ⟨tk_law_goes, List.forall_mem_cons.mpr ⟨tk_law_holds, List.forall_mem_cons.mpr ⟨tk_law_heard, List.forall_mem_cons.mpr ⟨tk_law_key, List.forall_mem_cons.mpr ⟨tk_law_answer, List.forall_mem_cons.mpr ⟨tk_law_questions, List.forall_mem_cons.mpr ⟨tk_law_record, List.forall_mem_cons.mpr ⟨tk_law_due, List.forall_mem_cons.mpr ⟨tk_law, nofun⟩⟩⟩⟩⟩⟩⟩⟩⟩⟩⟩⟩⟩⟩⟩⟩⟩⟩⟩⟩⟩⟩⟩⟩⟩⟩⟩⟩⟩⟩⟩⟩⟩⟩⟩⟩⟩⟩⟩⟩⟩⟩⟩⟩⟩⟩⟩⟩⟩⟩⟩⟩⟩⟩⟩
theorem fds : dfs.map Df.fd = fs := rfl
def cnames : List Str := (["Asker", "BadValue", "EarError"] : List PySem.Str)
def consts : List (Str × D) := [("MANY_GUESSES", (.int 2400))]
def nms : List (Str × Nat × Nat) := ([("plain_of", ix_plain_of, 1), ("is_int", ix_is_int, 1), ("is_number", ix_is_number, 3), ("is_word", ix_is_word, 1), ("is_hour", ix_is_hour, 1), ("is_direction", ix_is_direction, 1), ("is_whence", ix_is_whence, 1), ("is_span", ix_is_span, 2), ("is_parts", ix_is_parts, 2), ("order_key", ix_order_key, 1), ("is_ascending", ix_is_ascending, 1), ("turned_by", ix_turned_by, 2), ("passage_form", ix_passage_form, 2), ("hearing_form", ix_hearing_form, 1), ("hearings_form", ix_hearings_form, 1), ("spot_form", ix_spot_form, 2), ("danger_form", ix_danger_form, 2), ("dangers_form", ix_dangers_form, 2), ("land_form", ix_land_form, 1), ("many_spots", ix_many_spots, 1), ("passage_at", ix_passage_at, 3), ("hearings_at", ix_hearings_at, 2), ("heard_at", ix_heard_at, 3), ("guess_form", ix_guess_form, 2), ("guess_key", ix_guess_key, 1), ("guesses_taken", ix_guesses_taken, 5), ("question_form", ix_question_form, 1), ("is_move", ix_is_move, 1), ("event_form", ix_event_form, 1), ("land_taken", ix_land_taken, 2)] : List (Str × Nat × Nat)) ++ ([("number_taken", ix_number_taken, 4), ("hour_taken", ix_hour_taken, 2), ("record_form", ix_record_form, 1), ("may_be", ix_may_be, 3), ("anywhere", ix_anywhere, 2), ("_law_numbers", ix_law_numbers, 3), ("_law_draw", ix_law_draw, 2), ("_law_whence", ix_law_whence, 1), ("_law_spot", ix_law_spot, 2), ("_law_land", ix_law_land, 2), ("_law_goes", ix_law_goes, 3), ("_law_holds", ix_law_holds, 3), ("_law_heard", ix_law_heard, 3), ("_law_key", ix_law_key, 1), ("_law_answer", ix_law_answer, 3), ("_law_questions", ix_law_questions, 1), ("_law_record", ix_law_record, 3), ("_law_due", ix_law_due, 3), ("law", ix_law, 1)] : List (Str × Nat × Nat))
def clsns : List (Str × Nat) := [("Asker", 0)]
def mkss : List (Nat × Nat × Nat) := [(0, ix_Asker_init, 1)]
def methss : List (Nat × Str × Nat × Nat) := [(0, "ahead", ix_Asker_ahead, 2), (0, "answer", ix_Asker_answer, 2), (0, "behind", ix_Asker_behind, 2), (0, "behind_record", ix_Asker_behind_record, 2), (0, "ears", ix_Asker_ears, 1)]
def fldss : List (Nat × Str) := [(0, "country"), (0, "grounds"), (0, "known_ears"), (0, "signs")]
def frees : List Str := (["all", "any", "bool", "int", "isinstance", "len", "list", "range", "set", "sorted", "str", "tuple"] : List PySem.Str)
def sg (K : PySem.W.Frag) (P : Program) (w : World) : Sig := ⟨⟨[], P, w, fun c => He.ga K (cnames.getD c "")⟩, fun _ => none, nms, frees, consts, clsns, mkss, methss, fldss⟩
def more : List He.Fa := [.int "MANY_GUESSES" 2400]
def tb (K : PySem.W.Frag) (P : Program) (w : World) : Tabl := ⟨sg K P w, dfs, more, cnames⟩
theorem tb_good (K : PySem.W.Frag) (P : Program) (w : World) : (tb K P w).good = true := by kernel_rfl
theorem tb_goodK (K : PySem.W.Frag) (P : Program) (w : World) : (tb K P w).goodK = true := by kernel_rfl
/-- the facts, with no letter -/
def fa : List He.Fa := ([.glo "plain_of", .glo "is_int", .glo "is_number", .glo "is_word", .glo "is_hour", .glo "is_direction", .glo "is_whence", .glo "is_span", .glo "is_parts", .glo "order_key", .glo "is_ascending", .glo "turned_by", .glo "passage_form", .glo "hearing_form", .glo "hearings_form", .glo "spot_form", .glo "danger_form", .glo "dangers_form", .glo "land_form", .glo "many_spots", .glo "passage_at", .glo "hearings_at", .glo "heard_at", .glo "guess_form", .glo "guess_key", .glo "guesses_taken", .glo "question_form", .glo "is_move", .glo "event_form", .glo "land_taken"] : List (He.Fa)) ++ ([.glo "number_taken", .glo "hour_taken", .glo "record_form", .glo "may_be", .glo "anywhere", .glo "_law_numbers", .glo "_law_draw", .glo "_law_whence", .glo "_law_spot", .glo "_law_land", .glo "_law_goes", .glo "_law_holds", .glo "_law_heard", .glo "_law_key", .glo "_law_answer", .glo "_law_questions", .glo "_law_record", .glo "_law_due", .glo "law", .free "all", .free "any", .free "bool", .free "int", .free "isinstance", .free "len", .free "list", .free "range", .free "set", .free "sorted", .free "str"] : List (He.Fa)) ++ ([.free "tuple", .int "MANY_GUESSES" 2400, .glo "Asker", .mkr "Asker", .cls "Asker", .cls "Asker", .cls "Asker", .cls "Asker", .cls "Asker", .meth "Asker" "ahead", .meth "Asker" "answer", .meth "Asker" "behind", .meth "Asker" "behind_record", .meth "Asker" "ears", .cls "Asker", .cls "Asker", .cls "Asker", .cls "Asker", .noat "Asker" "country", .noat "Asker" "grounds", .noat "Asker" "known_ears", .noat "Asker" "signs"] : List (He.Fa))
theorem tb_fa (K : PySem.W.Frag) (P : Program) (w : World) : (tb K P w).fa = fa := rfl
def fn : List He.DefD := dfs.map (·.d)
def names : List PySem.Str := (["_wall", "__name__", "EarError", "BadValue", "plain_of", "is_int", "is_number", "is_word", "is_hour", "is_direction", "is_whence", "is_span", "is_parts", "order_key", "is_ascending", "turned_by", "passage_form", "hearing_form", "hearings_form", "spot_form", "danger_form", "dangers_form", "land_form", "many_spots", "passage_at", "hearings_at", "heard_at", "guess_form", "guess_key", "guesses_taken"] : List PySem.Str) ++ (["question_form", "is_move", "event_form", "Asker", "land_taken", "number_taken", "hour_taken", "MANY_GUESSES", "record_form", "may_be", "anywhere", "_law_numbers", "_law_draw", "_law_whence", "_law_spot", "_law_land", "_law_goes", "_law_holds", "_law_heard", "_law_key", "_law_answer", "_law_questions", "_law_record", "_law_due"] : List PySem.Str)
abbrev R : PySem.W.OpenRow := PySem.W.OpenLaw.row PySem.Challenge.rw_earway_k19_where_one_may_be
abbrev hk : PySem.W.Hook := He.hookD 4 fa fn
def ob (s : PySem.W.SharedT) : He.AlD := He.obsDG 4 fa fn (HandSHeadRun.getT s)
theorem ob_eq (s : PySem.W.SharedT) : ob s = hk.obs s.abs := He.obsDG_eq (HandSHeadRun.getT_eq s)
theorem head_run (w : World) : HandSHeadRun.RunEq R (PySem.W.view R.prog [60]) hk ob 8000 names w := by
  intro os
  kernel_rfl
theorem con_ok {K : PySem.W.Frag} {h : Heap} {mg : Str → Option Value} (X0 : K.In h) (G0 : h.Ns mainGlobals mg) (c : He.SaysD fa fn K) (P : Program) (w : World) :
    ∀ y d, (sg K P w).consts.lookup y = some d → ∃ v u, mg y = some u ∧ RelV v u ∧ ∀ ρ H, VR K ρ H v d := consts_ok (cs := consts) (by decide +kernel) X0 G0 c
end Pd.T
end
section
set_option Elab.async false
set_option linter.all false
set_option maxRecDepth 100000
set_option autoImplicit false
/-! Running the small language: rules for simp; loops by invariants. -/
namespace Pd
open PySem

/-! ### branches; simp looks at what comes first alone -/
def brR {α : Type} (k : Bool) (a b : R α) : R α := if k = true then a else b
def brS (k : Bool) (a b : RS) : RS := if k = true then a else b
@[simp] theorem brR_t {α : Type} (a b : R α) : brR true a b = a := Eq.trans rfl rfl
@[simp] theorem brR_f {α : Type} (a b : R α) : brR false a b = b := Eq.trans rfl rfl
@[simp] theorem brS_t (a b : RS) : brS true a b = a := Eq.trans rfl rfl
@[simp] theorem brS_f (a b : RS) : brS false a b = b := Eq.trans rfl rfl
theorem brR_congr {α : Type} {k k' : Bool} (a b : R α) (h : k = k') : brR k a b = brR k' a b := by rw [h]
@[simp] theorem brR_and1 (k b : Bool) (st : Store) : brR k (R.ok (D.bl b) st) (.ok (.bl false) st) = .ok (.bl (k && b)) st := by cases k <;> rfl
@[simp] theorem brR_and2 (k b : Bool) (st : Store) : brR k (R.ok (D.bl b) st) (.ok (.bl k) st) = .ok (.bl (k && b)) st := by cases k <;> rfl
@[simp] theorem brR_or (k b : Bool) (st : Store) : brR k (R.ok (D.bl k) st) (.ok (.bl b) st) = .ok (.bl (k || b)) st := by cases k <;> rfl
@[simp] theorem brR_and3 (k l b : Bool) (st : Store) : brR (!k) (R.ok (D.bl b) st) (.ok (.bl (!k)) st) = .ok (.bl (!k && b)) st := by cases k <;> rfl
theorem brS_congr {k k' : Bool} (a b : RS) (h : k = k') : brS k a b = brS k' a b := by rw [h]
theorem bind_congr1 {α β : Type} {r r' : R α} (f : α → Store → R β) (h : r = r') : r.bind f = r'.bind f := by rw [h]
theorem ofE_congr1 {env : Env} {α : Type} {r r' : R α} (f : α → Store → RS) (h : r = r') : RS.ofE env r f = RS.ofE env r' f := by rw [h]
theorem andThen_congr1 {r r' : RS} (f : Env → Store → RS) (h : r = r') : r.andThen f = r'.andThen f := by rw [h]
@[simp] theorem andThen_nx (env : Env) (st : Store) (f : Env → Store → RS) : (RS.nx env st).andThen f = f env st := Eq.trans rfl rfl
@[simp] theorem andThen_ret (d : D) (st : Store) (f : Env → Store → RS) : (RS.ret d st).andThen f = .ret d st := Eq.trans rfl rfl
@[simp] theorem andThen_brk (env : Env) (st : Store) (f : Env → Store → RS) : (RS.brk env st).andThen f = .brk env st := Eq.trans rfl rfl
@[simp] theorem andThen_cnt (env : Env) (st : Store) (f : Env → Store → RS) : (RS.cnt env st).andThen f = .cnt env st := Eq.trans rfl rfl
def retR : RS → R D
  | .nx _ st => .ok .non st
  | .ret d st => .ok d st
  | .exc c d _ st => .exc c d st
  | _ => .err
@[simp] theorem retR_nx (env : Env) (st : Store) : retR (.nx env st) = .ok .non st := Eq.trans rfl rfl
@[simp] theorem retR_ret (d : D) (st : Store) : retR (.ret d st) = .ok d st := Eq.trans rfl rfl
/-- a call, and what is forgotten behind it -/
def callG (cl : Fn) (st0 : Store) (f : Nat) (ds : List D) (st : Store) : R D := (cl f ds st).bind fun d st2 => gc st0 d st2
def callM (cl : Fn) (st0 : Store) (f : Nat) (ds : List D) (st : Store) : R D := (cl f ds st).still.bind fun d st2 => gc st0 d st2
def bfnG (b : Bif) (st0 : Store) (ds : List D) (st : Store) : R D := (bfn b ds st).bind fun d st2 => gc st0 d st2
theorem callG_ok {cl : Fn} {st0 st st' : Store} {f : Nat} {ds : List D} {d : D} (h : cl f ds st = .ok d st') : callG cl st0 f ds st = gc st0 d st' := by
  unfold callG
  rw [h]
  rfl
theorem callM_ok {cl : Fn} {st0 st st' : Store} {f : Nat} {ds : List D} {d : D} (h : cl f ds st = .ok d st') : callM cl st0 f ds st = gc st0 d st' := by
  unfold callM
  rw [h]
  rfl
section
variable {cl : Fn} {env : Env} {st : Store}
def slotR (o : Option (Option D)) (st : Store) : R D := match o with
  | some (some d) => .ok d st
  | _ => .err
@[simp] theorem slotR_some (d : D) (st : Store) : slotR (some (some d)) st = .ok d st := Eq.trans rfl rfl
@[simp] theorem ev_slot (i : Nat) : den cl (.slot i) env st = slotR env[i]? st := rfl
@[simp] theorem ev_cint (i : Int) : den cl (.cint i) env st = .ok (.int i) st := rfl
@[simp] theorem ev_cstr (s : Str) : den cl (.cstr s) env st = .ok (.str s) st := rfl
@[simp] theorem ev_cbl (b : Bool) : den cl (.cbl b) env st = .ok (.bl b) st := rfl
@[simp] theorem ev_cnon : den cl .cnon env st = .ok .non st := rfl
@[simp] theorem ev_con (d : D) : den cl (.con d) env st = .ok d st := rfl
def tupR (ds : List D) (st : Store) : R D := if ds.length ≤ LIM then .ok (.tup ds) st else .err
def lstR (ds : List D) (st : Store) : R D := if ds.length ≤ LIM then alloc (.lst ds) st else .err
theorem tupR_ok {ds : List D} (h : ds.length ≤ LIM) : tupR ds st = .ok (.tup ds) st := if_pos h
theorem lstR_ok {ds : List D} (h : ds.length ≤ LIM) : lstR ds st = .ok (.ref st.length) (st ++ [.lst ds]) := if_pos h
@[simp] theorem tupR_1 (a : D) : tupR [a] st = .ok (.tup [a]) st := rfl
@[simp] theorem tupR_2 (a b : D) : tupR [a, b] st = .ok (.tup [a, b]) st := rfl
@[simp] theorem tupR_3 (a b c : D) : tupR [a, b, c] st = .ok (.tup [a, b, c]) st := rfl
@[simp] theorem tupR_4 (a b c d : D) : tupR [a, b, c, d] st = .ok (.tup [a, b, c, d]) st := rfl
@[simp] theorem tupR_5 (a b c d e : D) : tupR [a, b, c, d, e] st = .ok (.tup [a, b, c, d, e]) st := rfl
@[simp] theorem lstR_0 : lstR [] st = .ok (.ref st.length) (st ++ [.lst []]) := rfl
@[simp] theorem lstR_1 (a : D) : lstR [a] st = .ok (.ref st.length) (st ++ [.lst [a]]) := rfl
@[simp] theorem ev_tup (es : Es) : den cl (.tup es) env st = (dens cl es env st).bind fun ds st => tupR ds st := rfl
@[simp] theorem ev_lst (es : Es) : den cl (.lst es) env st = (dens cl es env st).bind fun ds st => lstR ds st := rfl
@[simp] theorem ev_bin (op : BOp) (a b : E) : den cl (.bin op a b) env st = (den cl a env st).bind fun x st => (den cl b env st).bind fun y st => bop op x y st := rfl
def negR (x : D) (st : Store) : R D := match x with
  | .int i => .ok (.int (-i)) st
  | _ => .err
@[simp] theorem negR_int (i : Int) : negR (.int i) st = .ok (.int (-i)) st := rfl
@[simp] theorem ev_neg (a : E) : den cl (.neg a) env st = (den cl a env st).bind fun x st => negR x st := rfl
@[simp] theorem ev_not (a : E) : den cl (.not a) env st = (den cl a env st).bind fun x st => (R.of (truth x st) st).bind fun b st => .ok (.bl (!b)) st := rfl
@[simp] theorem ev_cmp (op : COp) (a b : E) : den cl (.cmp op a b) env st = (den cl a env st).bind fun x st => (den cl b env st).bind fun y st => (R.of (cop op x y st) st).bind fun k st => .ok (.bl k) st := rfl
@[simp] theorem ev_chain (o1 o2 : COp) (a b c : E) : den cl (.chain o1 o2 a b c) env st = (den cl a env st).bind fun x st => (den cl b env st).bind fun y st => (R.of (cop o1 x y st) st).bind fun k st => brR k ((den cl c env st).bind fun z st => (R.of (cop o2 y z st) st).bind fun k st => .ok (.bl k) st) (.ok (.bl false) st) := rfl
@[simp] theorem ev_band (es : Es) : den cl (.band es) env st = denAnd cl es env st := rfl
@[simp] theorem ev_bor (es : Es) : den cl (.bor es) env st = denOr cl es env st := rfl
@[simp] theorem ev_and1 (e : E) : denAnd cl (.cons e .nil) env st = den cl e env st := rfl
@[simp] theorem ev_and2 (e f : E) (es : Es) : denAnd cl (.cons e (.cons f es)) env st = (den cl e env st).bind fun x st => (R.of (truth x st) st).bind fun k st => brR k (denAnd cl (.cons f es) env st) (.ok x st) := rfl
@[simp] theorem ev_or1 (e : E) : denOr cl (.cons e .nil) env st = den cl e env st := rfl
@[simp] theorem ev_or2 (e f : E) (es : Es) : denOr cl (.cons e (.cons f es)) env st = (den cl e env st).bind fun x st => (R.of (truth x st) st).bind fun k st => brR k (.ok x st) (denOr cl (.cons f es) env st) := rfl
@[simp] theorem ev_ite (c a b : E) : den cl (.ite c a b) env st = (den cl c env st).bind fun x st => (R.of (truth x st) st).bind fun k st => brR k (den cl a env st) (den cl b env st) := rfl
@[simp] theorem ev_idx (a i : E) : den cl (.idx a i) env st = (den cl a env st).bind fun x st => (den cl i env st).bind fun k st => idx x k st := rfl
@[simp] theorem ev_slice (a : E) (lo hi : Eo) : den cl (.slice a lo hi) env st = (den cl a env st).bind fun x st => (denPart cl lo env st).bind fun l st => (denPart cl hi env st).bind fun h st => slice x l h st := rfl
@[simp] theorem ev_part0 : denPart cl .none env st = .ok none st := rfl
def partR (x : D) (st : Store) : R (Option Int) := match x with
  | .int i => .ok (some i) st
  | _ => .err
@[simp] theorem partR_int (i : Int) : partR (.int i) st = .ok (some i) st := rfl
@[simp] theorem ev_part1 (e : E) : denPart cl (.some e) env st = (den cl e env st).bind fun x st => partR x st := rfl
@[simp] theorem ev_cond0 : denCond cl .none env st = .ok true st := rfl
@[simp] theorem ev_cond1 (e : E) : denCond cl (.some e) env st = (den cl e env st).bind fun x st => R.of (truth x st) st := rfl
@[simp] theorem ev_call (f : Nat) (es : Es) : den cl (.call f es) env st = (dens cl es env st).bind fun ds st1 => callG cl st f ds st1 := rfl
@[simp] theorem ev_bfn (b : Bif) (es : Es) : den cl (.bfn b es) env st = (dens cl es env st).bind fun ds st1 => bfnG b st ds st1 := rfl
@[simp] theorem ev_isi (a : E) (o : Bool) (ts : List Ty) : den cl (.isi a o ts) env st = (den cl a env st).bind fun x st => (R.of (ts.mapM fun t => isTy x st t) st).bind fun bs st => .ok (.bl (bs.any id)) st := rfl
@[simp] theorem ev_dnew : den cl .dnew env st = .ok (.ref st.length) (st ++ [.dct []]) := rfl
@[simp] theorem ev_snew : den cl .snew env st = .ok (.ref st.length) (st ++ [.set []]) := rfl
@[simp] theorem ev_fld (c : Nat) (a : E) (f : Str) : den cl (.fld c a f) env st = (den cl a env st).bind fun x st => R.of ((insOf c x st).bind fun fs => lookF f fs) st := rfl
def methR (cl : Fn) (o : Option (List (Str × D))) (m : Str) (f : Nat) (es : Es) (env : Env) (st0 st : Store) (x : D) : R D := (R.of o st).bind fun fs st1 => if noneF m fs then (dens cl es env st1).bind fun ds st2 => callM cl st0 f (x :: ds) st2 else .err
@[simp] theorem ev_meth (c : Nat) (a : E) (m : Str) (f : Nat) (es : Es) : den cl (.meth c a m f es) env st = (den cl a env st).bind fun x st1 => methR cl (insOf c x st1) m f es env st st1 x := rfl
theorem methR_ok {fs : List (Str × D)} {m : Str} {f : Nat} {es : Es} {st0 : Store} {x : D} (h : noneF m fs = true) : methR cl (some fs) m f es env st0 st x = (dens cl es env st).bind fun ds st2 => callM cl st0 f (x :: ds) st2 := by
  unfold methR
  simp [h]
@[simp] theorem ev_dens0 : dens cl .nil env st = .ok [] st := rfl
@[simp] theorem ev_dens1 (e : E) (es : Es) : dens cl (.cons e es) env st = (den cl e env st).bind fun d st => (dens cl es env st).bind fun ds st => .ok (d :: ds) st := rfl
@[simp] theorem ev_seq (e : E) : denIt cl (.seq e) env st = (den cl e env st).bind fun x st => R.of (itemsOf x st) st := rfl
def rng1R (x : D) (st : Store) : R Items := match x with
  | .int j => R.of (rngItems 0 j) st
  | _ => .err
def rng2R (x y : D) (st : Store) : R Items := match x, y with
  | .int i, .int j => R.of (rngItems i j) st
  | _, _ => .err
@[simp] theorem rng1R_int (j : Int) : rng1R (.int j) st = R.of (rngItems 0 j) st := Eq.trans rfl rfl
@[simp] theorem rng2R_int (i j : Int) : rng2R (.int i) (.int j) st = R.of (rngItems i j) st := Eq.trans rfl rfl
@[simp] theorem ev_rng1 (e : E) : denIt cl (.rng1 e) env st = (den cl e env st).bind fun x st => rng1R x st := rfl
@[simp] theorem ev_rng2 (a b : E) : denIt cl (.rng2 a b) env st = (den cl a env st).bind fun x st => (den cl b env st).bind fun y st => rng2R x y st := rfl
theorem ev_lrng {it : It} {w : Items} {st' : Store} (h : denIt cl it env st = .ok w st') (hl : w.ds.length ≤ LIM) : den cl (.lrng it) env st = .ok (.ref st'.length) (st' ++ [.lst w.ds]) := by
  show (denIt cl it env st).bind _ = _
  rw [h]
  show (if w.ds.length ≤ LIM then _ else _) = _
  rw [if_pos hl]
  rfl
/-! statements -/
variable {fuel : Nat}
@[simp] theorem ev_set (i : Nat) (e : E) : denS cl fuel (.set i e) env st = RS.ofE env (den cl e env st) fun d st => .nx (set1 env i d) st := rfl
def unpR (is : List Nat) (env : Env) (d : D) (st : Store) : RS := match assignTg env (.many is) d with
  | some env => .nx env st
  | none => .err
@[simp] theorem ev_unp (is : List Nat) (e : E) : denS cl fuel (.unp is e) env st = RS.ofE env (den cl e env st) fun d st => unpR is env d st := rfl
theorem unpR_ok {is : List Nat} {env env' : Env} {ds : List D} (h : setMany env is ds = some env') : unpR is env (.tup ds) st = .nx env' st := by
  show (match setMany env is ds with
    | some env => RS.nx env st
    | none => .err) = _
  rw [h]
@[simp] theorem unpR_2 (i j : Nat) (a b : D) : unpR [i, j] env (.tup [a, b]) st = .nx (set1 (set1 env i a) j b) st := rfl
@[simp] theorem unpR_3 (i j k : Nat) (a b c : D) : unpR [i, j, k] env (.tup [a, b, c]) st = .nx (set1 (set1 (set1 env i a) j b) k c) st := rfl
@[simp] theorem unpR_4 (i j k l : Nat) (a b c d : D) : unpR [i, j, k, l] env (.tup [a, b, c, d]) st = .nx (set1 (set1 (set1 (set1 env i a) j b) k c) l d) st := rfl
@[simp] theorem ev_par (i j : Nat) (a b : E) : denS cl fuel (.par i j a b) env st = RS.ofE env (den cl a env st) fun x st => RS.ofE env (den cl b env st) fun y st => .nx (set1 (set1 env i x) j y) st := rfl
@[simp] theorem ev_sub (a i e : E) : denS cl fuel (.sub a i e) env st = RS.ofE env (den cl e env st) fun d st => RS.ofE env (den cl a env st) fun x st => RS.ofE env (den cl i env st) fun k st => putD env d x k st := rfl
@[simp] theorem ev_setf (c : Nat) (a : E) (f : Str) (e : E) : denS cl fuel (.setf c a f e) env st = RS.ofE env (den cl e env st) fun d st => RS.ofE env (den cl a env st) fun x st => setfD env c f d x st := rfl
@[simp] theorem ev_aug (i : Nat) (op : BOp) (e : E) : denS cl fuel (.aug i op e) env st = augF i op (den cl e) env st := rfl
def appR (x : D) (e : E) (cl : Fn) (env : Env) (st : Store) : RS := match x with
  | .ref n => if (lstAt st n).isSome then RS.ofE env (den cl e env st) fun d st => appD env n d st else .err
  | _ => .err
@[simp] theorem ev_app (a e : E) : denS cl fuel (.app a e) env st = RS.ofE env (den cl a env st) fun x st => appR x e cl env st := rfl
theorem appR_ok {n : Nat} {e : E} {ds : List D} (h : st[n]? = some (.lst ds)) : appR (.ref n) e cl env st = RS.ofE env (den cl e env st) fun d st => appD env n d st := by
  unfold appR lstAt
  simp [h]
theorem appD_ok {n : Nat} {d : D} {ds : List D} (h : st[n]? = some (.lst ds)) (hl : ds.length < LIM) : appD env n d st = .nx env (st.set n (.lst (ds ++ [d]))) := by
  unfold appD lstAt
  simp [h, hl]
@[simp] theorem ev_drop (e : E) : denS cl fuel (.drop e) env st = RS.ofE env (den cl e env st) fun _ st => .nx env st := rfl
@[simp] theorem ev_iff (c : E) (a b : Ss) : denS cl fuel (.iff c a b) env st = RS.ofE env ((den cl c env st).bind fun x st => R.of (truth x st) st) fun k st => brS k (denSs cl fuel a env st) (denSs cl fuel b env st) := rfl
@[simp] theorem ev_ret (e : E) : denS cl fuel (.ret e) env st = RS.ofE env (den cl e env st) fun d st => .ret d st := rfl
@[simp] theorem ev_retN : denS cl fuel .retN env st = .ret .non st := rfl
@[simp] theorem ev_brk : denS cl fuel .brk env st = .brk env st := rfl
@[simp] theorem ev_cont : denS cl fuel .cont env st = .cnt env st := rfl
@[simp] theorem ev_pass : denS cl fuel .pass env st = .nx env st := rfl
theorem ev_loop (tg : Tg) (it : It) (body : Ss) (fg : List Nat) : denS cl fuel (.loop tg it body fg) env st = RS.ofE env (denIt cl it env st) fun w st => forLoop tg w (denSs cl fuel body) fg w.ds env st := rfl
@[simp] theorem ev_nil : denSs cl fuel .nil env st = .nx env st := rfl
@[simp] theorem ev_cons (s : S) (ss : Ss) : denSs cl fuel (.cons s ss) env st = (denS cl fuel s env st).andThen fun env st => denSs cl fuel ss env st := by
  show (match denS cl fuel s env st with
    | .nx env st => denSs cl fuel ss env st
    | r => r) = _
  cases denS cl fuel s env st <;> rfl
end
theorem runFd_eq {cl : Fn} {fuel : Nat} {f : Fd} {ds : List D} {st : Store} (h : ds.length = f.ps) : runFd cl fuel f ds st = retR (denSs cl fuel f.body (startE f.names ds) st) := by
  unfold runFd
  rw [if_pos h]
  cases denSs cl fuel f.body (startE f.names ds) st <;> rfl
@[simp] theorem set1_eq (env : Env) (i : Nat) (d : D) : set1 env i d = env.set i (some d) := rfl

/-! ### values -/
section
variable {st : Store}
@[simp] theorem truth_bl (b : Bool) : truth (.bl b) st = some b := rfl
@[simp] theorem truth_non : truth .non st = some false := rfl
@[simp] theorem truth_int (i : Int) : truth (.int i) st = some (i != 0) := rfl
@[simp] theorem truth_tup (ds : List D) : truth (.tup ds) st = some (!ds.isEmpty) := rfl
@[simp] theorem bop_addi (a b : Int) : bop .add (.int a) (.int b) st = .ok (.int (a + b)) st := rfl
@[simp] theorem bop_subi (a b : Int) : bop .sub (.int a) (.int b) st = .ok (.int (a - b)) st := rfl
theorem bop_mod {a b : Int} (h : 0 < b) : bop .mod (.int a) (.int b) st = .ok (.int (a % b)) st := if_pos h
theorem bop_fdiv {a b : Int} (h : 0 < b ∧ b < 1073741824) : bop .fdiv (.int a) (.int b) st = .ok (.int (a / b)) st := if_pos h
theorem bop_mulr {a b : Int} (h : -(2 ^ 64) < b ∧ b < 2 ^ 64) : bop .mul (.int a) (.int b) st = .ok (.int (a * b)) st := if_pos (.inr h)
theorem bop_mull {a b : Int} (h : -(2 ^ 64) < a ∧ a < 2 ^ 64) : bop .mul (.int a) (.int b) st = .ok (.int (a * b)) st := if_pos (.inl h)
theorem bop_addt {a b : List D} (h : a.length + b.length ≤ LIM) : bop .add (.tup a) (.tup b) st = .ok (.tup (a ++ b)) st := if_pos h
@[simp] theorem cop_lei (a b : Int) : cop .le (.int a) (.int b) st = some (decide (a ≤ b)) := rfl
@[simp] theorem cop_lti (a b : Int) : cop .lt (.int a) (.int b) st = some (decide (a < b)) := rfl
@[simp] theorem cop_gti (a b : Int) : cop .gt (.int a) (.int b) st = some (decide (b < a)) := rfl
@[simp] theorem cop_gei (a b : Int) : cop .ge (.int a) (.int b) st = some (decide (b ≤ a)) := rfl
@[simp] theorem cop_les (a b : Str) : cop .le (.str a) (.str b) st = some (!decide (b.cps.toList < a.cps.toList)) := rfl
@[simp] theorem cop_eqi (a b : Int) : cop .eq (.int a) (.int b) st = some (decide (a = b)) := rfl
@[simp] theorem cop_nei (a b : Int) : cop .ne (.int a) (.int b) st = some (!decide (a = b)) := rfl
@[simp] theorem cop_isN (a : D) : cop .is a .non st = some a.isNon := by cases a <;> rfl
@[simp] theorem cop_isnN (a : D) : cop .isnot a .non st = some (!a.isNon) := rfl
@[simp] theorem cop_isB (a : D) (b : Bool) : cop .is a (.bl b) st = some (a.isB b) := by cases a <;> rfl
@[simp] theorem isNon_non : D.isNon .non = true := rfl
@[simp] theorem isNon_int (i : Int) : D.isNon (.int i) = false := rfl
@[simp] theorem isNon_str (i : Str) : D.isNon (.str i) = false := rfl
@[simp] theorem isNon_bl (i : Bool) : D.isNon (.bl i) = false := rfl
@[simp] theorem isNon_tup (i : List D) : D.isNon (.tup i) = false := rfl
@[simp] theorem isB_bl (b c : Bool) : D.isB b (.bl c) = (c == b) := rfl
@[simp] theorem isB_non (b : Bool) : D.isB b .non = false := rfl
@[simp] theorem isB_int (b : Bool) (i : Int) : D.isB b (.int i) = false := rfl
@[simp] theorem isB_str (b : Bool) (i : Str) : D.isB b (.str i) = false := rfl
@[simp] theorem isB_tup (b : Bool) (i : List D) : D.isB b (.tup i) = false := rfl
theorem eqD_of {a b : D} (h : ∀ n, a ≠ .ref n) (ha : a.fit 60 = true) (hb : b.fit 60 = true) : eqD st a b = some (a.eq b) := by
  unfold eqD
  split
  · exact absurd rfl (h _)
  · simp [ha, hb]
@[simp] theorem isTy_flat_i (i : Int) (t : Ty) : isTy (.int i) st t = some (tyB (.int i) t) := rfl
@[simp] theorem isTy_flat_s (i : Str) (t : Ty) : isTy (.str i) st t = some (tyB (.str i) t) := rfl
@[simp] theorem isTy_flat_b (i : Bool) (t : Ty) : isTy (.bl i) st t = some (tyB (.bl i) t) := rfl
@[simp] theorem isTy_flat_n (t : Ty) : isTy .non st t = some (tyB .non t) := rfl
@[simp] theorem isTy_flat_t (ds : List D) (t : Ty) : isTy (.tup ds) st t = some (tyB (.tup ds) t) := rfl
@[simp] theorem idx_t (ds : List D) (k : Int) : idx (.tup ds) (.int k) st = R.of (atI ds k) st := rfl
@[simp] theorem idx_z (ds : List D) (k : Int) : idx (.frz ds) (.int k) st = R.of (atI ds k) st := rfl
theorem idx_l {n : Nat} {ds : List D} {k : Int} (h : st[n]? = some (.lst ds)) : idx (.ref n) (.int k) st = R.of (atI ds k) st := by
  unfold idx
  simp [h]
@[simp] theorem slice_t (ds : List D) (lo hi : Option Int) : slice (.tup ds) lo hi st = .ok (.tup (cut ds lo hi)) st := rfl
end
theorem atI_nn {α : Type} {xs : List α} {i : Int} (h : 0 ≤ i) : atI xs i = xs[i.toNat]? := by
  unfold atI ixN
  rw [if_pos h]
  split
  · rfl
  · rename_i h2
    rw [List.getElem?_eq_none (by omega)]
    rfl
@[simp] theorem atI_0 {α : Type} (xs : List α) : atI xs 0 = xs[0]? := atI_nn (by omega)
@[simp] theorem atI_1 {α : Type} (xs : List α) : atI xs 1 = xs[1]? := atI_nn (by omega)
@[simp] theorem atI_2 {α : Type} (xs : List α) : atI xs 2 = xs[2]? := atI_nn (by omega)
@[simp] theorem atI_3 {α : Type} (xs : List α) : atI xs 3 = xs[3]? := atI_nn (by omega)
@[simp] theorem atI_4 {α : Type} (xs : List α) : atI xs 4 = xs[4]? := atI_nn (by omega)
theorem atI_last {α : Type} (xs : List α) : atI xs (-1) = xs.getLast? := by
  unfold atI ixN
  rw [if_neg (by omega)]
  cases xs with
  | nil => rfl
  | cons x xs =>
    rw [if_pos (by simp only [List.length_cons]; omega), List.getLast?_eq_getElem?]
    show (x :: xs)[(-1 + ((x :: xs).length : Int)).toNat]? = _
    congr 1
    simp only [List.length_cons]
    omega
@[simp] theorem cut_none {α : Type} (xs : List α) : cut xs none none = xs := by
  unfold cut sIx
  simp
theorem cut_to {α : Type} {xs : List α} {k : Int} (h : 0 ≤ k) : cut xs none (some k) = xs.take k.toNat := by
  unfold cut sIx
  simp only [List.drop_zero]
  rw [if_neg (by omega)]
  rw [Nat.sub_zero]
  by_cases h2 : k.toNat ≤ xs.length
  · rw [Nat.min_eq_left h2]
  · rw [Nat.min_eq_right (by omega), List.take_of_length_le (by omega), List.take_of_length_le (by omega)]
theorem cut_last {α : Type} (xs : List α) : cut xs none (some (-1)) = xs.dropLast := by
  unfold cut sIx
  simp only [List.drop_zero]
  rw [if_pos (by omega), List.dropLast_eq_take]
  congr 1
  omega

/-! ### gc -/
mutual
theorem sameRfl : ∀ d : D, d.same d = true
  | .non => rfl
  | .bl b => by simp [D.same]
  | .int b => by simp [D.same]
  | .str b => by simp [D.same]
  | .tup b => by simpa [D.same] using samesRfl b
  | .frz b => by simpa [D.same] using samesRfl b
  | .ref b => by simp [D.same]
theorem samesRfl : ∀ ds : List D, sames ds ds = true
  | [] => rfl
  | d :: ds => by simp [sames, sameRfl d, samesRfl ds]
end
@[simp] theorem sames_self (ds : List D) : sames ds ds = true := samesRfl ds
@[simp] theorem cell_same_refl (c : Cell) : c.same c = true := by
  cases c <;> simp [Cell.same, samesRfl]
theorem older_refl (n : Nat) : ∀ (st L : Store), older n st (st ++ L) = true
  | [], _ => rfl
  | c :: cs, L => by simp [older, older_refl n cs L]
theorem older_set {n : Nat} {c : Cell} (hc : c.under n = true) : ∀ (st : Store) (r : Nat) (L : Store), older n st (st.set r c ++ L) = true
  | [], _, _ => rfl
  | x :: cs, 0, L => by simp [older, hc, older_refl]
  | x :: cs, r + 1, L => by simp [older, older_set hc cs r L]
theorem gc_base {st base L : Store} {d : D} (hl : base.length = st.length) (ho : older st.length st (base ++ L) = true) (hd : d.under st.length = true) : gc st d (base ++ L) = .ok d base := by
  unfold gc
  rw [if_pos ho, if_pos hd, ← hl]
  simp
@[simp] theorem gc_same {st : Store} {d : D} (hd : d.under st.length = true) : gc st d st = .ok d st := by
  have := gc_base (st := st) (base := st) (L := []) (d := d) rfl (older_refl _ _ _) hd
  simpa using this
@[simp] theorem gc_app {st L : Store} {d : D} (hd : d.under st.length = true) : gc st d (st ++ L) = .ok d st := gc_base rfl (older_refl _ _ _) hd
@[simp] theorem gc_set {st : Store} {d : D} {r : Nat} {c : Cell} (hd : d.under st.length = true) (hc : c.under st.length = true) : gc st d (st.set r c) = .ok d (st.set r c) := by
  have := gc_base (st := st) (base := st.set r c) (L := []) (d := d) (by simp) (older_set hc _ _ _) hd
  simpa using this
@[simp] theorem gc_set_app {st L : Store} {d : D} {r : Nat} {c : Cell} (hd : d.under st.length = true) (hc : c.under st.length = true) : gc st d (st.set r c ++ L) = .ok d (st.set r c) := gc_base (by simp) (older_set hc _ _ _) hd
/-- a list that is handed back -/
theorem gc_new {st L : Store} {c : Cell} {k : Nat} (hk : L[k]? = some c) (hc : c.under st.length = true) : gc st (.ref (st.length + k)) (st ++ L) = .ok (.ref st.length) (st ++ [c]) := by
  unfold gc
  rw [if_pos (older_refl _ _ _)]
  have h1 : (D.ref (st.length + k)).under st.length = false := by simp [D.under]
  have h2 : (st ++ L)[st.length + k]? = some c := by rw [List.getElem?_append_right (by omega)]; simpa using hk
  rw [h1]
  simp only [h2, hc]
  simp
@[simp] theorem gc_new0 {st : Store} {c : Cell} {L : Store} (hc : c.under st.length = true) : gc st (.ref st.length) (st ++ c :: L) = .ok (.ref st.length) (st ++ [c]) := gc_new (k := 0) rfl hc
@[simp] theorem gc_new1 {st : Store} {c c0 : Cell} {L : Store} (hc : c.under st.length = true) : gc st (.ref (st.length + 1)) (st ++ c0 :: c :: L) = .ok (.ref st.length) (st ++ [c]) := gc_new (k := 1) rfl hc
@[simp] theorem under_non (n : Nat) : D.under .non n = true := Eq.trans rfl rfl
@[simp] theorem under_bl (b : Bool) (n : Nat) : D.under (.bl b) n = true := Eq.trans rfl rfl
@[simp] theorem under_int (b : Int) (n : Nat) : D.under (.int b) n = true := Eq.trans rfl rfl
@[simp] theorem under_str (b : Str) (n : Nat) : D.under (.str b) n = true := Eq.trans rfl rfl
@[simp] theorem under_tup (b : List D) (n : Nat) : D.under (.tup b) n = unders b n := Eq.trans rfl rfl
@[simp] theorem under_frz (b : List D) (n : Nat) : D.under (.frz b) n = unders b n := Eq.trans rfl rfl
@[simp] theorem under_ref (b : Nat) (n : Nat) : D.under (.ref b) n = decide (b < n) := Eq.trans rfl rfl
@[simp] theorem unders_nil (n : Nat) : unders [] n = true := Eq.trans rfl rfl
@[simp] theorem unders_cons (d : D) (ds : List D) (n : Nat) : unders (d :: ds) n = (d.under n && unders ds n) := Eq.trans rfl rfl
theorem undersAll : ∀ {ds : List D} {n : Nat}, (∀ d ∈ ds, d.under n = true) → unders ds n = true
  | [], _, _ => rfl
  | d :: ds, n, h => by
    rw [unders_cons, h d List.mem_cons_self, undersAll fun e he => h e (List.mem_cons_of_mem _ he)]
    rfl
theorem unders_map {α : Type} {xs : List α} {f : α → D} {n : Nat} (h : ∀ x ∈ xs, (f x).under n = true) : unders (xs.map f) n = true := undersAll fun d hd => by
  obtain ⟨x, hx, rfl⟩ := List.mem_map.mp hd
  exact h x hx
@[simp] theorem cunder_lst (ds : List D) (n : Nat) : Cell.under (.lst ds) n = unders ds n := Eq.trans rfl rfl
@[simp] theorem cunder_set (ds : List D) (n : Nat) : Cell.under (.set ds) n = unders ds n := Eq.trans rfl rfl
mutual
theorem fit_under : ∀ (d : D) (k n : Nat), d.fit k = true → d.under n = true
  | .non, _, _, _ => rfl
  | .bl _, _, _, _ => rfl
  | .int _, _, _, _ => rfl
  | .str _, _, _, _ => rfl
  | .tup ds, k, n, h => by
    cases k with
    | zero => cases h
    | succ k => exact fits_under ds k n h
  | .frz ds, k, n, h => by
    cases k with
    | zero => cases h
    | succ k => exact fits_under ds k n h
  | .ref _, _, _, h => by cases h
theorem fits_under : ∀ (ds : List D) (k n : Nat), fits ds k = true → unders ds n = true
  | [], _, _, _ => rfl
  | d :: ds, k, n, h => by
    have h : (D.fit d k && fits ds k) = true := h
    rw [Bool.and_eq_true] at h
    rw [unders_cons, fit_under d k n h.1, fits_under ds k n h.2]
    rfl
end
mutual
theorem fit_eq : ∀ (d : D) (k : Nat), d.fit k = true → d.eq d = true
  | .non, _, _ => rfl
  | .bl b, _, _ => by simp [D.eq]
  | .int b, _, _ => by simp [D.eq]
  | .str b, _, _ => by simp [D.eq]
  | .tup ds, k, h => by
    cases k with
    | zero => cases h
    | succ k => exact fits_eq ds k h
  | .frz ds, k, h => by
    cases k with
    | zero => cases h
    | succ k => exact fits_eq ds k h
  | .ref _, _, h => by cases h
theorem fits_eq : ∀ (ds : List D) (k : Nat), fits ds k = true → eqs ds ds = true
  | [], _, _ => rfl
  | d :: ds, k, h => by
    have h : (D.fit d k && fits ds k) = true := h
    rw [Bool.and_eq_true] at h
    show (d.eq d && eqs ds ds) = true
    rw [fit_eq d k h.1, fits_eq ds k h.2]
    rfl
end
theorem fits_all : ∀ {ds : List D} {n : Nat}, (∀ d ∈ ds, d.fit n = true) → fits ds n = true
  | [], _, _ => rfl
  | d :: ds, n, h => by
    show (d.fit n && fits ds n) = true
    rw [h d List.mem_cons_self, fits_all fun e he => h e (List.mem_cons_of_mem _ he)]
    rfl
theorem fits_map {α : Type} {xs : List α} {f : α → D} {n : Nat} (h : ∀ x ∈ xs, (f x).fit n = true) : fits (xs.map f) n = true := fits_all fun d hd => by
  obtain ⟨x, hx, rfl⟩ := List.mem_map.mp hd
  exact h x hx
theorem eqs_map {α : Type} {xs ys : List α} {f : α → D} (h : ∀ x ∈ xs, ∀ y ∈ ys, (f x).eq (f y) = true → x = y) (e : eqs (xs.map f) (ys.map f) = true) : xs = ys := by
  induction xs generalizing ys with
  | nil => cases ys with
    | nil => rfl
    | cons y ys => cases e
  | cons x xs ih => cases ys with
    | nil => cases e
    | cons y ys =>
      have e : ((f x).eq (f y) && eqs (xs.map f) (ys.map f)) = true := e
      rw [Bool.and_eq_true] at e
      rw [h x List.mem_cons_self y List.mem_cons_self e.1, ih (fun a ha b hb => h a (List.mem_cons_of_mem _ ha) b (List.mem_cons_of_mem _ hb)) e.2]

/-! ### built-ins -/
section
variable {st : Store}
theorem bfnG_ok {b : Bif} {st0 st st' : Store} {ds : List D} {d : D} (h : bfn b ds st = .ok d st') : bfnG b st0 ds st = gc st0 d st' := by
  unfold bfnG
  rw [h]
  rfl
@[simp] theorem bfnG_lent (ds : List D) (st0 : Store) : bfnG .len st0 [.tup ds] st = gc st0 (.int ds.length) st := rfl
@[simp] theorem bfnG_lenz (ds : List D) (st0 : Store) : bfnG .len st0 [.frz ds] st = gc st0 (.int ds.length) st := rfl
@[simp] theorem bfnG_int (i : Int) (st0 : Store) : bfnG .int st0 [.int i] st = gc st0 (.int i) st := rfl
@[simp] theorem bfnG_tupt (ds : List D) (st0 : Store) : bfnG .tuple st0 [.tup ds] st = gc st0 (.tup ds) st := rfl
theorem bfnG_lens {s : Str} {st0 : Store} (h : s.cps.size ≤ LIM) : bfnG .len st0 [.str s] st = gc st0 (.int s.cps.size) st := bfnG_ok (if_pos h)
theorem bfnG_lenl {n : Nat} {ds : List D} {st0 : Store} (h : st[n]? = some (.lst ds)) : bfnG .len st0 [.ref n] st = gc st0 (.int ds.length) st := bfnG_ok (by simp [bfn, bfn1, h])
theorem bfnG_lenset {n : Nat} {ds : List D} {st0 : Store} (h : st[n]? = some (.set ds)) : bfnG .len st0 [.ref n] st = gc st0 (.int ds.length) st := bfnG_ok (by simp [bfn, bfn1, h])
theorem bfnG_tupl {n : Nat} {ds : List D} {st0 : Store} (h : st[n]? = some (.lst ds)) : bfnG .tuple st0 [.ref n] st = gc st0 (.tup ds) st := bfnG_ok (by simp [bfn, bfn1, seqOf, lstAt, h])
theorem blsOf_map {α : Type} (xs : List α) (f : α → Bool) : blsOf (xs.map fun x => .bl (f x)) = some (xs.map f) := by
  induction xs with
  | nil => rfl
  | cons x xs ih => simp [blsOf, ih]
theorem bfnG_all {α : Type} {n : Nat} {xs : List α} {f : α → Bool} {st0 : Store} (h : st[n]? = some (.lst (xs.map fun x => .bl (f x)))) : bfnG .all st0 [.ref n] st = gc st0 (.bl (xs.all f)) st := bfnG_ok (by simp [bfn, bfn1, lstAt, h, blsOf_map, List.all_map, Function.comp_def])
theorem bfnG_any {α : Type} {n : Nat} {xs : List α} {f : α → Bool} {st0 : Store} (h : st[n]? = some (.lst (xs.map fun x => .bl (f x)))) : bfnG .any st0 [.ref n] st = gc st0 (.bl (xs.any f)) st := bfnG_ok (by simp [bfn, bfn1, lstAt, h, blsOf_map, List.any_map, Function.comp_def])
end

/-! ### rows made by a comprehension -/
section
variable {cl : Fn} {env : Env} {st : Store}
theorem compLoop_map {α : Type} (enc : α → D) (p : α → Bool) (g : α → D) {tg : Tg} {w : Items} {cond : Env → Store → R Bool} {elt : Env → Store → R D} (hs : srcOk st w = true) :
    ∀ (xs : List α) (acc : List D), (∀ x ∈ xs, ∃ env', assignTg env tg (enc x) = some env' ∧ cond env' st = .ok (p x) st ∧ (p x = true → elt env' st = .ok (g x) st)) → acc.length + xs.length ≤ LIM →
      compLoop env tg w cond elt (xs.map enc) acc st = .ok (.ref st.length) (st ++ [.lst (acc ++ (xs.filter p).map g)])
  | [], acc, _, _ => by simp [compLoop, hs, alloc]
  | x :: xs, acc, h, hl => by
    obtain ⟨env', e1, e2, e3⟩ := h x List.mem_cons_self
    simp only [List.length_cons] at hl
    simp only [List.map_cons, compLoop, hs, e1, e2, R.bind_ok, if_true]
    cases hp : p x with
    | true =>
      simp only [e3 hp, R.bind_ok, if_true]
      rw [if_pos (by omega), compLoop_map enc p g hs xs _ (fun y hy => h y (List.mem_cons_of_mem _ hy)) (by simp; omega)]
      simp [hp]
    | false =>
      simp only [Bool.false_eq_true, if_false]
      rw [compLoop_map enc p g hs xs acc (fun y hy => h y (List.mem_cons_of_mem _ hy)) (by omega)]
      simp [hp]
theorem still_ok {α : Type} {r : R α} {a : α} {st : Store} (h : r = .ok a st) : r.still = .ok a st := by
  rw [h]
  rfl
/-- [g x for x in xs if p x] -/
theorem den_comp {α : Type} (xs : List α) (enc : α → D) (p : α → Bool) (g : α → D) {elt : E} {tg : Tg} {it : It} {cond : Eo} {own : List Nat} {w : Items} (hit : denIt cl it env st = .ok w st) (hw : w.ds = xs.map enc) (hs : srcOk st w = true) (hl : xs.length ≤ LIM)
    (h : ∀ x ∈ xs, ∃ env', assignTg (wipeE env own) tg (enc x) = some env' ∧ denCond cl cond env' st = .ok (p x) st ∧ (p x = true → den cl elt env' st = .ok (g x) st)) :
    den cl (.comp elt tg it cond own) env st = .ok (.ref st.length) (st ++ [.lst ((xs.filter p).map g)]) := by
  show (denIt cl it env st).bind _ = _
  rw [hit, R.bind_ok, hw, compLoop_map enc p g hs xs [] (fun x hx => ?_) (by simpa using hl)]
  · rfl
  · obtain ⟨env', e1, e2, e3⟩ := h x hx
    exact ⟨env', e1, still_ok e2, fun hp => still_ok (e3 hp)⟩
/-- [g x for x in xs] -/
theorem den_compA {α : Type} (xs : List α) (enc : α → D) (g : α → D) {elt : E} {tg : Tg} {it : It} {own : List Nat} {w : Items} (hit : denIt cl it env st = .ok w st) (hw : w.ds = xs.map enc) (hs : srcOk st w = true) (hl : xs.length ≤ LIM)
    (h : ∀ x ∈ xs, ∃ env', assignTg (wipeE env own) tg (enc x) = some env' ∧ den cl elt env' st = .ok (g x) st) :
    den cl (.comp elt tg it .none own) env st = .ok (.ref st.length) (st ++ [.lst (xs.map g)]) := by
  have := den_comp (cl := cl) (env := env) (st := st) (cond := .none) xs enc (fun _ => true) g hit hw hs hl (fun x hx => by
    obtain ⟨env', e1, e2⟩ := h x hx
    exact ⟨env', e1, rfl, fun _ => e2⟩)
  rwa [List.filter_eq_self.mpr (fun _ _ => rfl)] at this
theorem srcOk_none {ds : List D} : srcOk st ⟨ds, none⟩ = true := rfl
theorem srcOk_some {ds : List D} {n : Nat} (h : st[n]? = some (.lst ds)) : srcOk st ⟨ds, some n⟩ = true := by simp [srcOk, h]
@[simp] theorem itemsOf_tup (ds : List D) : itemsOf (.tup ds) st = some ⟨ds, none⟩ := rfl
@[simp] theorem itemsOf_frz (ds : List D) : itemsOf (.frz ds) st = some ⟨ds, none⟩ := rfl
theorem itemsOf_ref {ds : List D} {n : Nat} (h : st[n]? = some (.lst ds)) : itemsOf (.ref n) st = some ⟨ds, some n⟩ := by simp [itemsOf, lstAt, h]
@[simp] theorem itemsOf_str (x : Str) : itemsOf (.str x) st = some ⟨x.cps.toList.map fun c => .str ⟨#[c]⟩, none⟩ := rfl
theorem rngItems_ok {i j : Int} (h : -(2 ^ 62) ≤ i ∧ i < 2 ^ 62 ∧ -(2 ^ 62) ≤ j ∧ j < 2 ^ 62) : rngItems i j = some ⟨(List.range (j - i).toNat).map fun (k : Nat) => .int (i + (k : Int)), none⟩ := if_pos h
end

/-! ### loops -/
section
variable {α : Type} (enc : α → D) {tg : Tg} {w : Items} {body : Env → Store → RS} {fg : List Nat}
/-- a loop whose turns go on, or end all by a return -/
theorem forLoop_ret (I : List α → Env → Store → Prop) (Q : D → Store → Prop) (hs : ∀ rest env st, I rest env st → srcOk st w = true)
    (step : ∀ x rest env st, I (x :: rest) env st → ∃ env', assignTg (wipeE env fg) tg (enc x) = some env' ∧
      ((∃ env2 st2, (body env' st = .nx env2 st2 ∨ body env' st = .cnt env2 st2) ∧ I rest env2 st2) ∨ ∃ d st2, body env' st = .ret d st2 ∧ Q d st2)) :
    ∀ (xs : List α) (env : Env) (st : Store), I xs env st →
      (∃ env2 st2, forLoop tg w body fg (xs.map enc) env st = .nx (wipeE env2 fg) st2 ∧ I [] env2 st2) ∨ ∃ d st2, forLoop tg w body fg (xs.map enc) env st = .ret d st2 ∧ Q d st2
  | [], env, st, h => .inl ⟨env, st, by simp [forLoop, hs _ _ _ h], h⟩
  | x :: xs, env, st, h => by
    obtain ⟨env', e1, h1⟩ := step x xs env st h
    simp only [List.map_cons, forLoop, hs _ _ _ h, if_true, e1]
    rcases h1 with ⟨env2, st2, e2 | e2, h2⟩ | ⟨d, st2, e2, h2⟩
    · rw [e2]
      exact forLoop_ret I Q hs step xs env2 st2 h2
    · rw [e2]
      exact forLoop_ret I Q hs step xs env2 st2 h2
    · rw [e2]
      exact .inr ⟨d, st2, rfl, h2⟩
/-- a loop whose turns all go on -/
theorem forLoop_nx (I : List α → Env → Store → Prop) (hs : ∀ rest env st, I rest env st → srcOk st w = true)
    (step : ∀ x rest env st, I (x :: rest) env st → ∃ env', assignTg (wipeE env fg) tg (enc x) = some env' ∧
      ∃ env2 st2, (body env' st = .nx env2 st2 ∨ body env' st = .cnt env2 st2) ∧ I rest env2 st2) (xs : List α) (env : Env) (st : Store) (h : I xs env st) :
      ∃ env2 st2, forLoop tg w body fg (xs.map enc) env st = .nx (wipeE env2 fg) st2 ∧ I [] env2 st2 := by
  rcases forLoop_ret enc I (fun _ _ => False) hs (fun x rest env st h => by
    obtain ⟨env', e1, h1⟩ := step x rest env st h
    exact ⟨env', e1, .inl h1⟩) xs env st h with h | ⟨_, _, _, q⟩
  · exact h
  · exact q.elim
end
end Pd
end
section
set_option Elab.async false
set_option linter.all false
set_option maxRecDepth 100000
set_option autoImplicit false
/-! Plain data: what holds of it; the key by which rows ascend. -/
namespace Pd
open PySem

mutual
/-- plain data, not too long, at most so deep -/
def D.pl : D → Nat → Bool
  | .non, _ => true
  | .bl _, _ => true
  | .int _, _ => true
  | .str s, _ => s.cps.all (· < 0x110000)
  | .tup ds, k => match k with
    | 0 => false
    | k + 1 => decide (ds.length ≤ 4000) && pls ds k
  | .frz _, _ => false
  | .ref _, _ => false
def pls : List D → Nat → Bool
  | [], _ => true
  | d :: ds, k => D.pl d k && pls ds k
end
theorem pls_all {ds : List D} {k : Nat} : pls ds k = true ↔ ∀ d ∈ ds, d.pl k = true := by
  induction ds with
  | nil => simp [pls]
  | cons d ds ih => simp [pls, ih]
@[simp] theorem pl_non (k : Nat) : D.pl .non k = true := Eq.trans rfl rfl
@[simp] theorem pl_bl (b : Bool) (k : Nat) : D.pl (.bl b) k = true := Eq.trans rfl rfl
@[simp] theorem pl_int (b : Int) (k : Nat) : D.pl (.int b) k = true := Eq.trans rfl rfl
@[simp] theorem pl_str (s : Str) (k : Nat) : D.pl (.str s) k = s.cps.all (· < 0x110000) := Eq.trans rfl rfl
@[simp] theorem pl_tup (ds : List D) (k : Nat) : D.pl (.tup ds) (k + 1) = (decide (ds.length ≤ 4000) && pls ds k) := Eq.trans rfl rfl
@[simp] theorem pls_nil (k : Nat) : pls [] k = true := Eq.trans rfl rfl
@[simp] theorem pls_cons (d : D) (ds : List D) (k : Nat) : pls (d :: ds) k = (d.pl k && pls ds k) := Eq.trans rfl rfl
theorem pls_map {α : Type} {xs : List α} {f : α → D} {k : Nat} (h : ∀ x ∈ xs, (f x).pl k = true) : pls (xs.map f) k = true := pls_all.mpr fun d hd => by
  obtain ⟨x, hx, rfl⟩ := List.mem_map.mp hd
  exact h x hx
mutual
theorem pl_mono : ∀ (d : D) (k j : Nat), d.pl k = true → k ≤ j → d.pl j = true
  | .non, _, _, _, _ => rfl
  | .bl _, _, _, _, _ => rfl
  | .int _, _, _, _, _ => rfl
  | .str _, _, _, h, _ => h
  | .tup ds, k, j, h, hj => by
    cases k with
    | zero => cases h
    | succ k =>
      cases j with
      | zero => omega
      | succ j =>
        rw [pl_tup, Bool.and_eq_true] at h ⊢
        exact ⟨h.1, pls_mono ds k j h.2 (by omega)⟩
  | .frz _, _, _, h, _ => by cases h
  | .ref _, _, _, h, _ => by cases h
theorem pls_mono : ∀ (ds : List D) (k j : Nat), pls ds k = true → k ≤ j → pls ds j = true
  | [], _, _, _, _ => rfl
  | d :: ds, k, j, h, hj => by
    rw [pls_cons, Bool.and_eq_true] at h ⊢
    exact ⟨pl_mono d k j h.1 hj, pls_mono ds k j h.2 hj⟩
end
mutual
theorem pl_fit : ∀ (d : D) (k : Nat), d.pl k = true → d.fit k = true
  | .non, _, _ => rfl
  | .bl _, _, _ => rfl
  | .int _, _, _ => rfl
  | .str _, _, h => h
  | .tup ds, k, h => by
    cases k with
    | zero => cases h
    | succ k =>
      rw [pl_tup, Bool.and_eq_true] at h
      exact pls_fit ds k h.2
  | .frz _, _, h => by cases h
  | .ref _, _, h => by cases h
theorem pls_fit : ∀ (ds : List D) (k : Nat), pls ds k = true → fits ds k = true
  | [], _, _ => rfl
  | d :: ds, k, h => by
    rw [pls_cons, Bool.and_eq_true] at h
    show (d.fit k && fits ds k) = true
    rw [pl_fit d k h.1, pls_fit ds k h.2]
    rfl
end
mutual
theorem pl_kok : ∀ (d : D) (k : Nat), d.pl k = true → d.kok k = true
  | .non, _, _ => rfl
  | .bl _, _, _ => rfl
  | .int _, _, _ => rfl
  | .str _, _, h => rfl
  | .tup ds, k, h => by
    cases k with
    | zero => cases h
    | succ k =>
      rw [pl_tup, Bool.and_eq_true] at h
      exact pls_koks ds k h.2
  | .frz _, _, h => by cases h
  | .ref _, _, h => by cases h
theorem pls_koks : ∀ (ds : List D) (k : Nat), pls ds k = true → koks ds k = true
  | [], _, _ => rfl
  | d :: ds, k, h => by
    rw [pls_cons, Bool.and_eq_true] at h
    show (d.kok k && koks ds k) = true
    rw [pl_kok d k h.1, pls_koks ds k h.2]
    rfl
end
theorem pl_fit60 {d : D} {k : Nat} (h : d.pl k = true) (hk : k ≤ 60) : d.fit 60 = true := pl_fit d 60 (pl_mono d k 60 h hk)
theorem pls_fit60 {ds : List D} {k : Nat} (h : pls ds k = true) (hk : k ≤ 60) : fits ds 60 = true := pls_fit ds 60 (pls_mono ds k 60 h hk)
theorem pl_under {d : D} {k : Nat} (h : d.pl k = true) (n : Nat) : d.under n = true := fit_under d k n (pl_fit d k h)
theorem pls_under {ds : List D} {k : Nat} (h : pls ds k = true) (n : Nat) : unders ds n = true := fits_under ds k n (pls_fit ds k h)
theorem pl_not_ref {d : D} {k : Nat} (h : d.pl k = true) : ∀ n, d ≠ .ref n := fun n e => by
  subst e
  cases h
theorem eqD_pl {st : Store} {a b : D} {k j : Nat} (ha : a.pl k = true) (hb : b.pl j = true) (hk : k ≤ 60) (hj : j ≤ 60) : eqD st a b = some (a.eq b) := eqD_of (pl_not_ref ha) (pl_fit60 ha hk) (pl_fit60 hb hj)
@[simp] theorem cop_eqD {st : Store} (a b : D) : cop .eq a b st = eqD st a b := by cases a <;> cases b <;> rfl
@[simp] theorem cop_neD {st : Store} (a b : D) : cop .ne a b st = (eqD st a b).map (!·) := by cases a <;> cases b <;> rfl
@[simp] theorem cop_memD {st : Store} (a b : D) : cop .mem a b st = memD st a b := by cases a <;> cases b <;> rfl
@[simp] theorem cop_nmemD {st : Store} (a b : D) : cop .notmem a b st = (memD st a b).map (!·) := by cases a <;> cases b <;> rfl
@[simp] theorem eqD_int {st : Store} (a b : Int) : eqD st (.int a) (.int b) = some (decide (a = b)) := rfl
@[simp] theorem eqD_non {st : Store} : eqD st .non .non = some true := rfl
@[simp] theorem eqD_ni {st : Store} (b : Int) : eqD st .non (.int b) = some false := rfl
@[simp] theorem eqD_in {st : Store} (b : Int) : eqD st (.int b) .non = some false := rfl
@[simp] theorem eqD_bb {st : Store} (b c : Bool) : eqD st (.bl b) (.bl c) = some (b == c) := rfl
theorem cop_ltD {st : Store} {a b : D} {k j : Nat} (ha : a.pl k = true) (hb : b.pl j = true) (hk : k ≤ 60) (hj : j ≤ 60) : cop .lt a b st = a.lt b := by
  have : cop .lt a b st = ltD a b := by cases a <;> cases b <;> rfl
  rw [this]
  unfold ltD
  rw [pl_fit60 ha hk, pl_fit60 hb hj]
  rfl
mutual
/-- no truth values -/
def D.nob : D → Bool
  | .bl _ => false
  | .ref _ => false
  | .frz _ => false
  | .tup ds => nobs ds
  | _ => true
def nobs : List D → Bool
  | [] => true
  | d :: ds => D.nob d && nobs ds
end
@[simp] theorem nob_int (i : Int) : D.nob (.int i) = true := Eq.trans rfl rfl
@[simp] theorem nob_str (i : Str) : D.nob (.str i) = true := Eq.trans rfl rfl
@[simp] theorem nob_non : D.nob .non = true := Eq.trans rfl rfl
@[simp] theorem nob_tup (ds : List D) : D.nob (.tup ds) = nobs ds := Eq.trans rfl rfl
@[simp] theorem nobs_nil : nobs [] = true := Eq.trans rfl rfl
@[simp] theorem nobs_cons (d : D) (ds : List D) : nobs (d :: ds) = (d.nob && nobs ds) := Eq.trans rfl rfl
mutual
theorem eq_nob : ∀ (a b : D), a.eq b = true → a.nob = true → b.nob = true → a = b
  | .non, b, h, _, hb => by cases b <;> first | rfl | cases h
  | .int i, b, h, _, hb => by
    cases b with
    | int j => simp [D.eq] at h; rw [h]
    | bl x => cases hb
    | _ => cases h
  | .bl x, _, _, ha, _ => by cases ha
  | .str s, b, h, _, hb => by
    cases b with
    | str j => simp [D.eq] at h; rw [h]
    | _ => cases h
  | .tup xs, b, h, h1, h2 => by
    cases b with
    | tup ys => rw [eqs_nob xs ys h h1 h2]
    | _ => cases h
  | .frz xs, b, h, h1, h2 => by cases h1
  | .ref _, b, h, h1, _ => by cases h1
theorem eqs_nob : ∀ (a b : List D), eqs a b = true → nobs a = true → nobs b = true → a = b
  | [], [], _, _, _ => rfl
  | [], _ :: _, h, _, _ => by cases h
  | _ :: _, [], h, _, _ => by cases h
  | x :: xs, y :: ys, h, h1, h2 => by
    have h : (x.eq y && eqs xs ys) = true := h
    rw [nobs_cons] at h1 h2
    rw [Bool.and_eq_true] at h h1 h2
    rw [eq_nob x y h.1 h1.1 h2.1, eqs_nob xs ys h.2 h1.2 h2.2]
end
mutual
theorem nob_eq : ∀ (a : D), a.nob = true → a.eq a = true
  | .non, _ => rfl
  | .int i, _ => by simp [D.eq]
  | .bl x, ha => by cases ha
  | .str s, _ => by simp [D.eq]
  | .tup xs, h => nobs_eq xs h
  | .frz xs, h => by cases h
  | .ref _, h => by cases h
theorem nobs_eq : ∀ (a : List D), nobs a = true → eqs a a = true
  | [], _ => rfl
  | x :: xs, h => by
    rw [nobs_cons, Bool.and_eq_true] at h
    show (x.eq x && eqs xs xs) = true
    rw [nob_eq x h.1, nobs_eq xs h.2]
    rfl
end
theorem eq_iff {a b : D} (ha : a.nob = true) (hb : b.nob = true) : a.eq b = true ↔ a = b := ⟨fun h => eq_nob a b h ha hb, fun h => h ▸ nob_eq a ha⟩

/-! ### the key by which rows ascend -/
mutual
def okey : D → D
  | .non => .tup [.int 0]
  | .bl b => if b = true then .tup [.int 2] else .tup [.int 1]
  | .int i => .tup [.int 3, .int i]
  | .str s => .tup [.int 4, .str s]
  | .tup ds => .tup [.int 5, .tup (okeys ds)]
  | _ => .non
def okeys : List D → List D
  | [] => []
  | d :: ds => okey d :: okeys ds
end
theorem okeys_map : ∀ ds : List D, okeys ds = ds.map okey
  | [] => rfl
  | d :: ds => by rw [okeys, okeys_map ds]; rfl
mutual
theorem okey_pl : ∀ (d : D) (k : Nat), d.pl k = true → (okey d).pl (2 * k + 1) = true
  | .non, k, _ => by simp [okey]
  | .bl b, k, _ => by cases b <;> simp [okey]
  | .int i, k, _ => by simp [okey]
  | .str s, k, h => by simpa [okey] using h
  | .tup ds, k, h => by
    cases k with
    | zero => cases h
    | succ k =>
      rw [pl_tup, Bool.and_eq_true] at h
      have e : 2 * (k + 1) + 1 = (2 * k + 1) + 1 + 1 := by omega
      have hl : (okeys ds).length ≤ 4000 := by rw [okeys_map, List.length_map]; exact of_decide_eq_true h.1
      rw [okey, e, pl_tup, pls_cons, pls_cons, pl_tup, okeys_pl ds k h.2]
      simp [hl]
  | .frz _, _, h => by cases h
  | .ref _, _, h => by cases h
theorem okeys_pl : ∀ (ds : List D) (k : Nat), pls ds k = true → pls (okeys ds) (2 * k + 1) = true
  | [], _, _ => rfl
  | d :: ds, k, h => by
    rw [pls_cons, Bool.and_eq_true] at h
    rw [okeys, pls_cons, okey_pl d k h.1, okeys_pl ds k h.2]
    rfl
end
end Pd
end
section
set_option Elab.async false
set_option linter.all false
set_option maxRecDepth 100000
set_option autoImplicit false
/-! Sets made by comprehensions; dicts; lists at places of the store. -/
namespace Pd
open PySem
section
variable {cl : Fn} {env : Env} {st : Store}
theorem any_eq_false {acc : List D} {y : D} (h : ∀ a ∈ acc, a.eq y = false) : (acc.any fun e => e.eq y) = false := by
  rw [List.any_eq_false]
  intro a ha
  rw [h a ha]
  decide
theorem saddD_new {acc : List D} {y : D} (hk : likeK acc y = true) (hl : acc.length < 62) (hn : ∀ a ∈ acc, a.eq y = false) : saddD acc y = some (acc ++ [y]) := by
  unfold saddD
  rw [hk, any_eq_false hn]
  have : decide (acc.length < 62) = true := decide_eq_true hl
  simp [this]
theorem likeK_tup {acc : List D} {y : D} (h : ∀ a ∈ acc, a.tupK = true) (hy : y.tupK = true) : likeK acc y = true := by
  unfold likeK
  have : acc.all D.tupK = true := List.all_eq_true.mpr h
  rw [this, hy]
  simp
theorem likeK_scal {acc : List D} {y : D} (h : ∀ a ∈ acc, a.scal = true) (hy : y.scal = true) : likeK acc y = true := by
  unfold likeK
  have : acc.all D.scal = true := List.all_eq_true.mpr h
  rw [this, hy]
  simp
theorem compLoopS_nodup {α : Type} (enc g : α → D) {tg : Tg} {w : Items} {cond : Env → Store → R Bool} {elt : Env → Store → R D} (hs : srcOk st w = true) :
    ∀ (xs : List α) (acc : List D), (∀ x ∈ xs, ∃ env', assignTg env tg (enc x) = some env' ∧ cond env' st = .ok true st ∧ elt env' st = .ok (g x) st) → acc.length + xs.length ≤ 60 →
      (∀ a ∈ acc, a.tupK = true) → (∀ x ∈ xs, (g x).tupK = true) → (acc ++ xs.map g).Pairwise (fun a b => a.eq b = false) →
      compLoopS env tg w cond elt (xs.map enc) acc st = .ok (.ref st.length) (st ++ [.set (acc ++ xs.map g)])
  | [], acc, _, _, _, _, _ => by simp [compLoopS, hs, alloc]
  | x :: xs, acc, h, hl, ha, hg, hp => by
    obtain ⟨env', e1, e2, e3⟩ := h x List.mem_cons_self
    simp only [List.length_cons] at hl
    simp only [List.map_cons, compLoopS, hs, e1, e2, e3, R.bind_ok, if_true]
    rw [saddD_new (likeK_tup ha (hg x List.mem_cons_self)) (by omega) (fun a hm => (List.pairwise_append.mp hp).2.2 a hm _ List.mem_cons_self)]
    dsimp only
    rw [compLoopS_nodup enc g hs xs (acc ++ [g x]) (fun y hy => h y (List.mem_cons_of_mem _ hy)) (by simp; omega) (fun a hm => ?_) (fun y hy => hg y (List.mem_cons_of_mem _ hy)) (by simpa using hp)]
    · simp
    · rcases List.mem_append.mp hm with hm | hm
      · exact ha a hm
      · rw [List.mem_singleton] at hm
        rw [hm]
        exact hg x List.mem_cons_self
/-- {g x for x in xs}, all unlike -/
theorem den_scomp {α : Type} (xs : List α) (enc g : α → D) {elt : E} {tg : Tg} {it : It} {own : List Nat} {w : Items} (hit : denIt cl it env st = .ok w st) (hw : w.ds = xs.map enc) (hs : srcOk st w = true) (hl : xs.length ≤ 60)
    (h : ∀ x ∈ xs, ∃ env', assignTg (wipeE env own) tg (enc x) = some env' ∧ den cl elt env' st = .ok (g x) st) (hg : ∀ x ∈ xs, (g x).tupK = true) (hp : (xs.map g).Pairwise fun a b => a.eq b = false) :
    den cl (.scomp elt tg it .none own) env st = .ok (.ref st.length) (st ++ [.set (xs.map g)]) := by
  show (denIt cl it env st).bind _ = _
  rw [hit, R.bind_ok, hw, compLoopS_nodup enc g hs xs [] (fun x hx => ?_) (by simpa using hl) (by simp) hg (by simpa using hp)]
  · rfl
  · obtain ⟨env', e1, e2⟩ := h x hx
    exact ⟨env', e1, rfl, still_ok e2⟩
end
@[simp] theorem all_tt {α : Type} (xs : List α) : (xs.all fun _ => true) = true := by simp
/-! all([..]), any([..]), tuple([..]), len({..}) -/
def bfnC (b : Bif) (cl : Fn) (c : E) (env : Env) (st : Store) : R D := den cl (.bfn b (.cons c .nil)) env st
section
variable {cl : Fn} {env : Env} {st : Store}
@[simp high] theorem ev_bfnC (b : Bif) (elt : E) (tg : Tg) (it : It) (cond : Eo) (own : List Nat) : den cl (.bfn b (.cons (.comp elt tg it cond own) .nil)) env st = bfnC b cl (.comp elt tg it cond own) env st := rfl
@[simp high] theorem ev_bfnS (b : Bif) (elt : E) (tg : Tg) (it : It) (cond : Eo) (own : List Nat) : den cl (.bfn b (.cons (.scomp elt tg it cond own) .nil)) env st = bfnC b cl (.scomp elt tg it cond own) env st := rfl
@[simp high] theorem ev_bfn2 (b : Bif) (elt : E) (tg : Tg) (it : It) (tg2 : Tg) (it2 : It) (own vs : List Nat) : den cl (.bfn b (.cons (.comp2 elt tg it tg2 it2 own vs) .nil)) env st = bfnC b cl (.comp2 elt tg it tg2 it2 own vs) env st := rfl
theorem bfnC_of {b : Bif} {c : E} {x d : D} {st1 st2 : Store} (h : den cl c env st = .ok x st1) (hb : bfn b [x] st1 = .ok d st2) : bfnC b cl c env st = gc st d st2 := by
  show ((den cl c env st).bind fun d st => (R.ok ([] : List D) st).bind fun ds st => .ok (d :: ds) st).bind _ = _
  rw [h]
  exact bfnG_ok hb
variable {α : Type} (xs : List α) (enc : α → D) {elt : E} {tg : Tg} {it : It} {cond : Eo} {own : List Nat} {w : Items}
theorem bfnC_all (p q : α → Bool) (hit : denIt cl it env st = .ok w st) (hw : w.ds = xs.map enc) (hs : srcOk st w = true) (hl : xs.length ≤ LIM)
    (h : ∀ x ∈ xs, ∃ env', assignTg (wipeE env own) tg (enc x) = some env' ∧ denCond cl cond env' st = .ok (p x) st ∧ (p x = true → den cl elt env' st = .ok (.bl (q x)) st)) :
    bfnC .all cl (.comp elt tg it cond own) env st = .ok (.bl ((xs.filter p).all q)) st := by
  rw [bfnC_of (den_comp xs enc p (fun x => .bl (q x)) hit hw hs hl h) (d := .bl ((xs.filter p).all q)) (st2 := st ++ [.lst ((xs.filter p).map fun x => .bl (q x))]) (by simp [bfn, bfn1, lstAt, blsOf_map, List.all_map, Function.comp_def])]
  simp
theorem bfnC_any (p q : α → Bool) (hit : denIt cl it env st = .ok w st) (hw : w.ds = xs.map enc) (hs : srcOk st w = true) (hl : xs.length ≤ LIM)
    (h : ∀ x ∈ xs, ∃ env', assignTg (wipeE env own) tg (enc x) = some env' ∧ denCond cl cond env' st = .ok (p x) st ∧ (p x = true → den cl elt env' st = .ok (.bl (q x)) st)) :
    bfnC .any cl (.comp elt tg it cond own) env st = .ok (.bl ((xs.filter p).any q)) st := by
  rw [bfnC_of (den_comp xs enc p (fun x => .bl (q x)) hit hw hs hl h) (d := .bl ((xs.filter p).any q)) (st2 := st ++ [.lst ((xs.filter p).map fun x => .bl (q x))]) (by simp [bfn, bfn1, lstAt, blsOf_map, List.any_map, Function.comp_def])]
  simp
theorem bfnC_tup (p : α → Bool) (g : α → D) (hit : denIt cl it env st = .ok w st) (hw : w.ds = xs.map enc) (hs : srcOk st w = true) (hl : xs.length ≤ LIM)
    (h : ∀ x ∈ xs, ∃ env', assignTg (wipeE env own) tg (enc x) = some env' ∧ denCond cl cond env' st = .ok (p x) st ∧ (p x = true → den cl elt env' st = .ok (g x) st)) (hu : ∀ x ∈ xs, p x = true → (g x).under st.length = true) :
    bfnC .tuple cl (.comp elt tg it cond own) env st = .ok (.tup ((xs.filter p).map g)) st := by
  rw [bfnC_of (den_comp xs enc p g hit hw hs hl h) (d := .tup ((xs.filter p).map g)) (st2 := st ++ [.lst ((xs.filter p).map g)]) (by simp [bfn, bfn1, seqOf, lstAt])]
  rw [gc_app]
  rw [under_tup]
  refine unders_map fun x hx => ?_
  rw [List.mem_filter] at hx
  exact hu x hx.1 hx.2
theorem bfnC_allA (q : α → Bool) (hit : denIt cl it env st = .ok w st) (hw : w.ds = xs.map enc) (hs : srcOk st w = true) (hl : xs.length ≤ LIM)
    (h : ∀ x ∈ xs, ∃ env', assignTg (wipeE env own) tg (enc x) = some env' ∧ den cl elt env' st = .ok (.bl (q x)) st) :
    bfnC .all cl (.comp elt tg it .none own) env st = .ok (.bl (xs.all q)) st := by
  have := bfnC_all (cl := cl) (env := env) (st := st) (cond := .none) xs enc (fun _ => true) q hit hw hs hl (fun x hx => by
    obtain ⟨env', e1, e2⟩ := h x hx
    exact ⟨env', e1, rfl, fun _ => e2⟩)
  rwa [List.filter_eq_self.mpr (fun _ _ => rfl)] at this
theorem bfnC_anyA (q : α → Bool) (hit : denIt cl it env st = .ok w st) (hw : w.ds = xs.map enc) (hs : srcOk st w = true) (hl : xs.length ≤ LIM)
    (h : ∀ x ∈ xs, ∃ env', assignTg (wipeE env own) tg (enc x) = some env' ∧ den cl elt env' st = .ok (.bl (q x)) st) :
    bfnC .any cl (.comp elt tg it .none own) env st = .ok (.bl (xs.any q)) st := by
  have := bfnC_any (cl := cl) (env := env) (st := st) (cond := .none) xs enc (fun _ => true) q hit hw hs hl (fun x hx => by
    obtain ⟨env', e1, e2⟩ := h x hx
    exact ⟨env', e1, rfl, fun _ => e2⟩)
  rwa [List.filter_eq_self.mpr (fun _ _ => rfl)] at this
theorem bfnC_tupA (g : α → D) (hit : denIt cl it env st = .ok w st) (hw : w.ds = xs.map enc) (hs : srcOk st w = true) (hl : xs.length ≤ LIM)
    (h : ∀ x ∈ xs, ∃ env', assignTg (wipeE env own) tg (enc x) = some env' ∧ den cl elt env' st = .ok (g x) st) (hu : ∀ x ∈ xs, (g x).under st.length = true) :
    bfnC .tuple cl (.comp elt tg it .none own) env st = .ok (.tup (xs.map g)) st := by
  have := bfnC_tup (cl := cl) (env := env) (st := st) (cond := .none) xs enc (fun _ => true) g hit hw hs hl (fun x hx => by
    obtain ⟨env', e1, e2⟩ := h x hx
    exact ⟨env', e1, rfl, fun _ => e2⟩) (fun x hx _ => hu x hx)
  rwa [List.filter_eq_self.mpr (fun _ _ => rfl)] at this
theorem bfnC_lenS (g : α → D) (hit : denIt cl it env st = .ok w st) (hw : w.ds = xs.map enc) (hs : srcOk st w = true) (hl : xs.length ≤ 60)
    (h : ∀ x ∈ xs, ∃ env', assignTg (wipeE env own) tg (enc x) = some env' ∧ den cl elt env' st = .ok (g x) st) (hg : ∀ x ∈ xs, (g x).tupK = true) (hp : (xs.map g).Pairwise fun a b => a.eq b = false) :
    bfnC .len cl (.scomp elt tg it .none own) env st = .ok (.int xs.length) st := by
  rw [bfnC_of (den_scomp xs enc g hit hw hs hl h hg hp) (d := .int xs.length) (st2 := st ++ [.set (xs.map g)]) (by simp [bfn, bfn1])]
  simp
end
/-- range(n) -/
def encN (k : Nat) : D := .int (k : Int)
@[simp] theorem encN_eq (k : Nat) : encN k = .int (k : Int) := rfl
def rngW (n : Nat) : Items := ⟨(List.range n).map encN, none⟩
@[simp] theorem rngW_ds (n : Nat) : (rngW n).ds = (List.range n).map encN := rfl
@[simp] theorem rngW_src (n : Nat) (st : Store) : srcOk st (rngW n) = true := rfl
theorem rngN {n : Nat} (h : n < 2 ^ 62) : rngItems 0 (n : Int) = some (rngW n) := by
  rw [rngItems_ok (by omega)]
  unfold rngW encN
  simp
theorem rngL {i : Int} (h0 : 0 ≤ i) (h : i < 2 ^ 62) : rngItems 0 i = some (rngW i.toNat) := by
  rw [rngItems_ok (by omega)]
  unfold rngW encN
  simp
@[simp] theorem rng8 : rngItems 0 8 = some (rngW 8) := rngN (n := 8) (by omega)
/-! lists at the end of the store -/
section
variable {st : Store}
@[simp] theorem at_end (c : Cell) (L : Store) : (st ++ c :: L)[st.length]? = some c := by simp
theorem at_low {r : Nat} {L : Store} (h : r < st.length) : (st ++ L)[r]? = st[r]? := List.getElem?_append_left h
theorem lt_of_at {r : Nat} {c : Cell} (h : st[r]? = some c) : r < st.length := (List.getElem?_eq_some_iff.mp h).1
theorem at_set {r : Nat} {c c' : Cell} (h : st[r]? = some c) : (st.set r c')[r]? = some c' := by
  rw [List.getElem?_set_self (lt_of_at h)]
theorem set_low {r : Nat} {c : Cell} {L : Store} (h : r < st.length) : (st ++ L).set r c = st.set r c ++ L := List.set_append_left _ _ h
theorem set_end (c c' : Cell) (L : Store) : (st ++ c :: L).set st.length c' = st ++ c' :: L := by
  rw [List.set_append_right _ _ (by omega)]
  simp
end
end Pd
end
section
set_option Elab.async false
set_option linter.all false
set_option maxRecDepth 100000
set_option autoImplicit false
/-! Dicts, instances, sorted rows. -/
namespace Pd
open PySem
section
variable {env : Env} {st : Store} {cl : Fn}
theorem putD_dct {n : Nat} {kvs : List (D × D)} {k d : D} (h : st[n]? = some (.dct kvs)) (hk : likeK (kvs.map (·.1)) k = true) (hl : kvs.length < LIM) : putD env d (.ref n) k st = .nx env (st.set n (.dct (dput kvs k d))) := by
  unfold putD
  simp [h, hk, hl]
theorem putD_lst {n j : Nat} {ds : List D} {k : Int} {d : D} (h : st[n]? = some (.lst ds)) (hk : ixN ds.length k = some j) : putD env d (.ref n) (.int k) st = .nx env (st.set n (.lst (ds.set j d))) := by
  unfold putD
  simp [h, hk]
theorem dput_len (kvs : List (D × D)) (k d : D) : (dput kvs k d).length ≤ kvs.length + 1 := by
  unfold dput
  split <;> simp
theorem dput_key {kvs : List (D × D)} {k d : D} {p : D × D} (h : p ∈ dput kvs k d) : (∃ q ∈ kvs, p.1 = q.1) ∨ p.1 = k := by
  unfold dput at h
  split at h
  · rw [List.mem_map] at h
    obtain ⟨q, hq, e⟩ := h
    refine .inl ⟨q, hq, ?_⟩
    split at e <;> rw [← e]
  · rw [List.mem_append, List.mem_singleton] at h
    rcases h with h | h
    · exact .inl ⟨p, h, rfl⟩
    · exact .inr (by rw [h])
theorem likeK_keys_scal {kvs : List (D × D)} {k : D} (h : ∀ p ∈ kvs, p.1.scal = true) (hk : k.scal = true) : likeK (kvs.map (·.1)) k = true := likeK_scal (fun a ha => by
  obtain ⟨p, hp, rfl⟩ := List.mem_map.mp ha
  exact h p hp) hk
theorem likeK_keys_tup {kvs : List (D × D)} {k : D} (h : ∀ p ∈ kvs, p.1.tupK = true) (hk : k.tupK = true) : likeK (kvs.map (·.1)) k = true := likeK_tup (fun a ha => by
  obtain ⟨p, hp, rfl⟩ := List.mem_map.mp ha
  exact h p hp) hk
theorem memD_dct {n : Nat} {kvs : List (D × D)} {k : D} (h : st[n]? = some (.dct kvs)) (hk : likeK (kvs.map (·.1)) k = true) : memD st k (.ref n) = some (dlook kvs k).isSome := by
  unfold memD
  simp [h, hk]
theorem idx_dct {n : Nat} {kvs : List (D × D)} {k : D} (h : st[n]? = some (.dct kvs)) (hk : likeK (kvs.map (·.1)) k = true) : idx (.ref n) k st = R.of (dlook kvs k) st := by
  unfold idx
  simp [h, hk]
theorem memD_lst {n : Nat} {ds : List D} {a : D} (h : st[n]? = some (.lst ds)) (ha : a.fit 60 = true) (hd : fits ds 60 = true) : memD st a (.ref n) = some (ds.any fun d => d.eq a) := by
  unfold memD
  simp [h, ha, hd]
theorem setfD_ok {c n : Nat} {f : Str} {d : D} {fs : List (Str × D)} (h : st[n]? = some (.ins c fs)) (hl : fs.length < 1000) : setfD env c f d (.ref n) st = .nx env (st.set n (.ins c (putFD f d fs))) := by
  unfold setfD
  simp [h, hl]
theorem insOf_ok {c n : Nat} {fs : List (Str × D)} (h : st[n]? = some (.ins c fs)) : insOf c (.ref n) st = some fs := by
  unfold insOf
  simp [h]
def mkR (r : R D) (st0 : Store) (n : Nat) : R D := r.still.bind fun r st2 => match r with
  | .non => gc st0 (.ref n) st2
  | _ => .err
@[simp] theorem ev_mk (c f : Nat) (es : Es) : den cl (.mk c f es) env st = (dens cl es env st).bind fun ds st1 => mkR (cl f (.ref st1.length :: ds) (st1 ++ [.ins c []])) st st1.length := rfl
theorem mkR_ok {r : R D} {st0 st2 : Store} {n : Nat} (h : r = .ok .non st2) : mkR r st0 n = gc st0 (.ref n) st2 := by
  unfold mkR
  rw [h]
  rfl
/-- what is made names cells that are new: all stay -/
theorem gc_keep {c : Cell} {L : Store} (hc : c.under st.length = false) : gc st (.ref st.length) (st ++ c :: L) = .ok (.ref st.length) (st ++ c :: L) := by
  unfold gc
  rw [if_pos (older_refl _ _ _)]
  have h1 : (D.ref st.length).under st.length = false := by simp
  have h2 : (st ++ c :: L)[st.length]? = some c := by simp
  rw [h1]
  simp only [h2, hc]
  simp
/-- the value that is known for a key: the first that is the same -/
theorem dlook_mem {kvs : List (D × D)} {k v : D} (h : dlook kvs k = some v) : ∃ p ∈ kvs, p.1.eq k = true ∧ p.2 = v := by
  unfold dlook at h
  cases e : kvs.find? (fun p => p.1.eq k) with
  | none => rw [e] at h; cases h
  | some p =>
    rw [e] at h
    cases h
    exact ⟨p, List.mem_of_find?_eq_some e, List.find?_some (p := fun p : D × D => p.1.eq k) e, rfl⟩
theorem dlook_none {kvs : List (D × D)} {k : D} (h : dlook kvs k = none) : (kvs.any fun p => p.1.eq k) = false := by
  unfold dlook at h
  rw [List.any_eq_false]
  intro p hp
  cases e : kvs.find? (fun p => p.1.eq k) with
  | none => exact List.find?_eq_none.mp e p hp
  | some q => rw [e] at h; cases h
theorem dput_new {kvs : List (D × D)} {k v : D} (h : dlook kvs k = none) : dput kvs k v = kvs ++ [(k, v)] := by
  unfold dput
  rw [dlook_none h]
  rfl
/-! a sorted row -/
theorem sameOn_refl : ∀ st : Store, sameOn st st = true
  | [] => rfl
  | c :: cs => by simp [sameOn, sameOn_refl cs]
theorem keysBy_ok {α : Type} {f : D → Store → R D} {st : Store} (enc kf : α → D) : ∀ (xs : List α), (∀ x ∈ xs, f (enc x) st = .ok (kf x) st) → (∀ x ∈ xs, (kf x).under 0 = true) → keysBy f st (xs.map enc) = .ok (xs.map kf) st
  | [], _, _ => rfl
  | x :: xs, h, hu => by
    simp only [List.map_cons, keysBy, h x List.mem_cons_self, R.bind_ok, sameOn_refl, hu x List.mem_cons_self]
    rw [keysBy_ok enc kf xs (fun y hy => h y (List.mem_cons_of_mem _ hy)) (fun y hy => hu y (List.mem_cons_of_mem _ hy))]
    rfl
theorem den_sortk {α : Type} (xs : List α) (enc kf : α → D) {a : E} {f : Nat} {x : D} {st1 : Store} (hx : den cl a env st = .ok x st1) (hr : rowsOf x st1 = some (xs.map enc)) (hk : ∀ x ∈ xs, cl f [enc x] st1 = .ok (kf x) st1) (hu : ∀ x ∈ xs, (kf x).under 0 = true) (hs : sortable (xs.map kf) = true) :
    den cl (.sortk a f) env st = gc st (.ref st1.length) (st1 ++ [.lst (sortK (xs.map kf) (xs.map enc))]) := by
  show (den cl a env st).bind _ = _
  rw [hx, R.bind_ok, hr, R.of_some, R.bind_ok, keysBy_ok (f := fun d st => cl f [d] st) enc kf xs hk hu, R.still_ok, R.bind_ok, if_pos hs]
  rfl
theorem rowsOf_lst {n : Nat} {ds : List D} (h : st[n]? = some (.lst ds)) : rowsOf (.ref n) st = some ds := by simp [rowsOf, h]
theorem rowsOf_dct {n : Nat} {kvs : List (D × D)} (h : st[n]? = some (.dct kvs)) (hl : kvs.length ≤ LIM) : rowsOf (.ref n) st = some (kvs.map (·.1)) := by simp [rowsOf, h, hl]
theorem sortK_map {α : Type} (xs : List α) (kf enc : α → D) (le : α → α → Bool) (h : ∀ a ∈ xs, ∀ b ∈ xs, le a b = !(((kf b).lt (kf a)).getD false)) : sortK (xs.map kf) (xs.map enc) = (xs.mergeSort le).map enc := by
  unfold sortK
  rw [List.zip_map']
  rw [← List.map_mergeSort (r := le) (s := leK) (f := fun x => (kf x, enc x)) (fun a ha b hb => h a ha b hb)]
  rw [List.map_map]
  rfl
theorem sortK_self {ks : List D} : ∃ l, sortK ks ks = l ∧ l.Perm ks := by
  refine ⟨_, rfl, ?_⟩
  unfold sortK
  have h1 : (((ks.zip ks).mergeSort leK).map (·.2)).Perm ((ks.zip ks).map (·.2)) := (List.mergeSort_perm _ _).map _
  have h2 : (ks.zip ks).map (·.2) = ks := List.map_snd_zip (by simp)
  rw [h2] at h1
  exact h1
/-- a set of a row -/
theorem setOfL_ok : ∀ (ds acc : List D), (∀ d ∈ ds, d.nob = true) → (∀ d ∈ acc, d.nob = true) → ((∀ d ∈ acc ++ ds, d.tupK = true) ∧ acc.length + ds.length < 62 ∨ (∀ d ∈ acc ++ ds, d.scal = true) ∧ acc.length + ds.length < 4000) →
    ∃ es, setOfL acc ds = some es ∧ (∀ d, d ∈ es ↔ d ∈ acc ∨ d ∈ ds) ∧ es.length ≤ acc.length + ds.length
  | [], acc, _, _, _ => ⟨acc, rfl, fun d => by simp, by simp⟩
  | d :: ds, acc, h1, h2, h3 => by
    have key : ∃ acc', saddD acc d = some acc' ∧ (∀ e, e ∈ acc' ↔ e ∈ acc ∨ e = d) ∧ acc'.length ≤ acc.length + 1 := by
      have like : likeK acc d = true := by
        rcases h3 with ⟨h3, _⟩ | ⟨h3, _⟩
        · exact likeK_tup (fun a ha => h3 a (List.mem_append_left _ ha)) (h3 d (by simp))
        · exact likeK_scal (fun a ha => h3 a (List.mem_append_left _ ha)) (h3 d (by simp))
      have room : (d.scal && decide (acc.length < 4000) || decide (acc.length < 62)) = true := by
        rcases h3 with ⟨_, h4⟩ | ⟨h3, h4⟩
        · simp at h4
          have : acc.length < 62 := by omega
          simp [this]
        · simp at h4
          have : acc.length < 4000 := by omega
          simp [this, h3 d (by simp)]
      unfold saddD
      rw [like, room]
      simp only [Bool.and_self, if_true]
      by_cases hm : (acc.any fun e => e.eq d) = true
      · rw [if_pos hm]
        refine ⟨acc, rfl, fun e => ⟨.inl, fun z => ?_⟩, by omega⟩
        rcases z with z | z
        · exact z
        · obtain ⟨x, hx, e1⟩ := List.any_eq_true.mp hm
          rw [z, ← (eq_iff (h2 x hx) (h1 d List.mem_cons_self)).mp e1]
          exact hx
      · rw [if_neg hm]
        exact ⟨acc ++ [d], rfl, fun e => by simp, by simp⟩
    obtain ⟨acc', e1, e2, e3⟩ := key
    obtain ⟨es, f1, f2, f3⟩ := setOfL_ok ds acc' (fun e he => h1 e (List.mem_cons_of_mem _ he)) (fun e he => by
      rcases (e2 e).mp he with z | z
      · exact h2 e z
      · rw [z]; exact h1 d List.mem_cons_self) (by
      rcases h3 with ⟨h3, h4⟩ | ⟨h3, h4⟩
      · refine .inl ⟨fun e he => ?_, by simp at h4; omega⟩
        rcases List.mem_append.mp he with z | z
        · rcases (e2 e).mp z with z | z
          · exact h3 e (List.mem_append_left _ z)
          · rw [z]; exact h3 d (by simp)
        · exact h3 e (by simp [z])
      · refine .inr ⟨fun e he => ?_, by simp at h4; omega⟩
        rcases List.mem_append.mp he with z | z
        · rcases (e2 e).mp z with z | z
          · exact h3 e (List.mem_append_left _ z)
          · rw [z]; exact h3 d (by simp)
        · exact h3 e (by simp [z]))
    refine ⟨es, ?_, fun e => ?_, by simp; omega⟩
    · show (saddD acc d).bind _ = _
      rw [e1]
      exact f1
    · rw [f2 e, e2 e]
      simp only [List.mem_cons]
      constructor
      · rintro ((z | z) | z)
        · exact .inl z
        · exact .inr (.inl z)
        · exact .inr (.inr z)
      · rintro (z | z | z)
        · exact .inl (.inl z)
        · exact .inl (.inr z)
        · exact .inr z
theorem bfnG_set {n : Nat} {ds es : List D} {st0 : Store} (h : st[n]? = some (.lst ds)) (hs : setOfL [] ds = some es) : bfnG .set st0 [.ref n] st = gc st0 (.ref st.length) (st ++ [.set es]) := bfnG_ok (by simp [bfn, bfn1, lstOf, lstAt, h, hs, alloc])
theorem bfnG_sortedS {n : Nat} {es : List D} {st0 : Store} (h : st[n]? = some (.set es)) (hs : sortable es = true) : bfnG .sorted st0 [.ref n] st = gc st0 (.ref st.length) (st ++ [.lst (sortK es es)]) := bfnG_ok (by simp [bfn, bfn1, collOf, h, hs, alloc])
theorem bfnG_sortedL {n : Nat} {es : List D} {st0 : Store} (h : st[n]? = some (.lst es)) (hs : sortable es = true) : bfnG .sorted st0 [.ref n] st = gc st0 (.ref st.length) (st ++ [.lst (sortK es es)]) := bfnG_ok (by simp [bfn, bfn1, collOf, h, hs, alloc])
end
end Pd
end
section
set_option Elab.async false
set_option linter.all false
set_option maxRecDepth 100000
set_option autoImplicit false
/-! Comprehensions of two rows; of what changes the store. -/
namespace Pd
open PySem
section
variable {cl : Fn} {env : Env} {st : Store}
theorem compIn_map {α : Type} (enc g : α → D) {tg : Tg} {w : Items} {elt : Env → Store → R D} (hs : srcOk st w = true) :
    ∀ (xs : List α) (acc : List D), (∀ x ∈ xs, ∃ env', assignTg env tg (enc x) = some env' ∧ elt env' st = .ok (g x) st) → acc.length + xs.length ≤ LIM →
      compIn env tg w elt (xs.map enc) acc st = .ok (acc ++ xs.map g) st
  | [], acc, _, _ => by simp [compIn, hs]
  | x :: xs, acc, h, hl => by
    obtain ⟨env', e1, e2⟩ := h x List.mem_cons_self
    simp only [List.length_cons] at hl
    simp only [List.map_cons, compIn, hs, e1, e2, R.bind_ok, if_true]
    rw [if_pos (by omega), compIn_map enc g hs xs _ (fun y hy => h y (List.mem_cons_of_mem _ hy)) (by simp; omega)]
    simp
theorem compLoop2_map {α : Type} (enc : α → D) (row : α → List D) {tg : Tg} {w : Items} {inner : Env → List D → Store → R (List D)} (hs : srcOk st w = true) :
    ∀ (xs : List α) (acc : List D), (∀ x ∈ xs, ∃ env', assignTg env tg (enc x) = some env' ∧ ∀ acc : List D, acc.length + (row x).length ≤ LIM → inner env' acc st = .ok (acc ++ row x) st) → acc.length + (xs.flatMap row).length ≤ LIM →
      compLoop2 env tg w inner (xs.map enc) acc st = .ok (.ref st.length) (st ++ [.lst (acc ++ xs.flatMap row)])
  | [], acc, _, _ => by simp [compLoop2, hs, alloc]
  | x :: xs, acc, h, hl => by
    obtain ⟨env', e1, e2⟩ := h x List.mem_cons_self
    rw [List.flatMap_cons, List.length_append] at hl
    simp only [List.map_cons, compLoop2, hs, e1, if_true]
    rw [e2 acc (by omega), R.bind_ok, compLoop2_map enc row hs xs _ (fun y hy => h y (List.mem_cons_of_mem _ hy)) (by rw [List.length_append]; omega)]
    simp
/-- tuple([g x y for x in xs for y in ys x]) -/
theorem bfnC_tup2 {α β : Type} (xs : List α) (enc : α → D) (ys : α → List β) (encb : β → D) (g : α → β → D) {elt : E} {tg tg2 : Tg} {it it2 : It} {own vs : List Nat} {w : Items} (hit : denIt cl it env st = .ok w st) (hw : w.ds = xs.map enc) (hs : srcOk st w = true)
    (hl : (xs.flatMap fun x => (ys x).map (g x)).length ≤ LIM)
    (h : ∀ x ∈ xs, ∃ env', assignTg (wipeE env own) tg (enc x) = some env' ∧ ∃ w2, denIt cl it2 env' st = .ok w2 st ∧ w2.ds = (ys x).map encb ∧ srcOk st w2 = true ∧ ∀ y ∈ ys x, ∃ env2, assignTg (wipeE env' vs) tg2 (encb y) = some env2 ∧ den cl elt env2 st = .ok (g x y) st)
    (hu : ∀ x ∈ xs, ∀ y ∈ ys x, (g x y).under st.length = true) :
    bfnC .tuple cl (.comp2 elt tg it tg2 it2 own vs) env st = .ok (.tup (xs.flatMap fun x => (ys x).map (g x))) st := by
  have e : den cl (.comp2 elt tg it tg2 it2 own vs) env st = .ok (.ref st.length) (st ++ [.lst (xs.flatMap fun x => (ys x).map (g x))]) := by
    show (denIt cl it env st).bind _ = _
    rw [hit, R.bind_ok, hw, compLoop2_map enc (fun x => (ys x).map (g x)) hs xs [] (fun x hx => ?_) (by simpa using hl)]
    · simp
    · obtain ⟨env', e1, w2, e2, e3, e4, e5⟩ := h x hx
      refine ⟨env', e1, fun acc ha => ?_⟩
      rw [still_ok e2, R.bind_ok, e3]
      refine compIn_map encb (g x) e4 (ys x) acc (fun y hy => ?_) (by simpa using ha)
      obtain ⟨env2, a, b⟩ := e5 y hy
      exact ⟨env2, a, still_ok b⟩
  rw [bfnC_of e (d := .tup (xs.flatMap fun x => (ys x).map (g x))) (st2 := st ++ [.lst (xs.flatMap fun x => (ys x).map (g x))]) (by simp [bfn, bfn1, seqOf, lstAt])]
  rw [gc_app]
  rw [under_tup]
  refine undersAll fun d hd => ?_
  obtain ⟨x, hx, hd⟩ := List.mem_flatMap.mp hd
  obtain ⟨y, hy, rfl⟩ := List.mem_map.mp hd
  exact hu x hx y hy
/-! rows whose making changes the store: what holds goes on -/
/-- [e for x in xs if c], each turn leaves the store as J says, each result as P says -/
theorem compLoop_inv {α : Type} (enc : α → D) {tg : Tg} {w : Items} {cond : Env → Store → R Bool} {elt : Env → Store → R D} (J : Store → Prop) (P : α → D → Prop) (hs : ∀ st, J st → srcOk st w = true) :
    ∀ (xs : List α) (acc : List D) (st : Store), J st → (∀ x ∈ xs, ∀ st, J st → ∃ env', assignTg env tg (enc x) = some env' ∧ ∃ b st1, cond env' st = .ok b st1 ∧ J st1 ∧ (b = true → ∃ y st2, elt env' st1 = .ok y st2 ∧ J st2 ∧ P x y)) → acc.length + xs.length ≤ LIM →
      ∃ (zs : List (α × D)) (st' : Store), compLoop env tg w cond elt (xs.map enc) acc st = .ok (.ref st'.length) (st' ++ [.lst (acc ++ zs.map (·.2))]) ∧ J st' ∧ (∀ z ∈ zs, P z.1 z.2) ∧ (zs.map (·.1)).Sublist xs
  | [], acc, st, hJ, _, _ => ⟨[], st, by simp [compLoop, hs st hJ, alloc], hJ, by simp, by simp⟩
  | x :: xs, acc, st, hJ, h, hl => by
    obtain ⟨env', e1, b, st1, e2, j1, e3⟩ := h x List.mem_cons_self st hJ
    simp only [List.length_cons] at hl
    simp only [List.map_cons, compLoop, hs st hJ, e1, e2, R.bind_ok, if_true]
    cases b with
    | true =>
      obtain ⟨y, st2, e4, j2, hp⟩ := e3 rfl
      simp only [e4, R.bind_ok, if_true]
      rw [if_pos (by omega)]
      obtain ⟨zs, st', f1, f2, f3, f4⟩ := compLoop_inv enc J P hs xs (acc ++ [y]) st2 j2 (fun z hz => h z (List.mem_cons_of_mem _ hz)) (by simp; omega)
      exact ⟨(x, y) :: zs, st', by rw [f1]; simp, f2, fun z hz => by
        rcases List.mem_cons.mp hz with hz | hz
        · rw [hz]; exact hp
        · exact f3 z hz, by simpa using f4.cons₂ x⟩
    | false =>
      simp only [Bool.false_eq_true, if_false]
      obtain ⟨zs, st', f1, f2, f3, f4⟩ := compLoop_inv enc J P hs xs acc st1 j1 (fun z hz => h z (List.mem_cons_of_mem _ hz)) (by omega)
      exact ⟨zs, st', f1, f2, f3, f4.cons x⟩
/-- the same with no test: one result each -/
theorem compLoop_all {α : Type} (enc : α → D) {tg : Tg} {w : Items} {elt : Env → Store → R D} (J : Store → Prop) (P : α → D → Prop) (hs : ∀ st, J st → srcOk st w = true) :
    ∀ (xs : List α) (acc : List D) (st : Store), J st → (∀ x ∈ xs, ∀ st, J st → ∃ env', assignTg env tg (enc x) = some env' ∧ ∃ y st2, elt env' st = .ok y st2 ∧ J st2 ∧ P x y) → acc.length + xs.length ≤ LIM →
      ∃ (zs : List D) (st' : Store), compLoop env tg w (fun _ st => .ok true st) elt (xs.map enc) acc st = .ok (.ref st'.length) (st' ++ [.lst (acc ++ zs)]) ∧ J st' ∧ (∀ z ∈ zs, ∃ x ∈ xs, P x z) ∧ zs.length = xs.length
  | [], acc, st, hJ, _, _ => ⟨[], st, by simp [compLoop, hs st hJ, alloc], hJ, by simp, by simp⟩
  | x :: xs, acc, st, hJ, h, hl => by
    obtain ⟨env', e1, y, st2, e4, j2, hp⟩ := h x List.mem_cons_self st hJ
    simp only [List.length_cons] at hl
    simp only [List.map_cons, compLoop, hs st hJ, e1, R.bind_ok, if_true, e4]
    rw [if_pos (by omega)]
    obtain ⟨zs, st', f1, f2, f3, f4⟩ := compLoop_all enc J P hs xs (acc ++ [y]) st2 j2 (fun z hz => h z (List.mem_cons_of_mem _ hz)) (by simp; omega)
    exact ⟨y :: zs, st', by rw [f1]; simp, f2, fun z hz => by
      rcases List.mem_cons.mp hz with hz | hz
      · exact ⟨x, List.mem_cons_self, by rw [hz]; exact hp⟩
      · obtain ⟨a, ha, hq⟩ := f3 z hz
        exact ⟨a, List.mem_cons_of_mem _ ha, hq⟩, by simp [f4]⟩
end
end Pd
end
section
set_option Elab.async false
set_option linter.all false
set_option maxRecDepth 100000
set_option autoImplicit false
/-! What holds behind a statement, a row of statements, an expression. -/
namespace Pd
open PySem
def Gives (Q : D → Store → Prop) (r : R D) : Prop := ∃ d st, r = .ok d st ∧ Q d st
/-- behind: Pn where it goes on, Pc where the turn is over, Pr where it returns -/
def Ends (Pn Pc : Env → Store → Prop) (Pr : D → Store → Prop) : RS → Prop
  | .nx e s => Pn e s
  | .cnt e s => Pc e s
  | .ret d s => Pr d s
  | _ => False
@[simp] theorem Ends_nx {Pn Pc : Env → Store → Prop} {Pr : D → Store → Prop} (e : Env) (s : Store) : Ends Pn Pc Pr (.nx e s) = Pn e s := Eq.trans rfl rfl
@[simp] theorem Ends_cnt {Pn Pc : Env → Store → Prop} {Pr : D → Store → Prop} (e : Env) (s : Store) : Ends Pn Pc Pr (.cnt e s) = Pc e s := Eq.trans rfl rfl
@[simp] theorem Ends_ret {Pn Pc : Env → Store → Prop} {Pr : D → Store → Prop} (d : D) (s : Store) : Ends Pn Pc Pr (.ret d s) = Pr d s := Eq.trans rfl rfl
section
variable {cl : Fn} {fuel : Nat} {Pn Pc : Env → Store → Prop} {Pr : D → Store → Prop} {env : Env} {st : Store}
theorem Ends.cons {s : S} {ss : Ss} (h : Ends (fun e t => Ends Pn Pc Pr (denSs cl fuel ss e t)) Pc Pr (denS cl fuel s env st)) : Ends Pn Pc Pr (denSs cl fuel (.cons s ss) env st) := by
  rw [ev_cons]
  cases e : denS cl fuel s env st <;> rw [e] at h <;> exact h
theorem Ends.set {i : Nat} {e : E} {ss : Ss} (Q : D → Store → Prop) (h : Gives Q (den cl e env st)) (k : ∀ d st1, Q d st1 → Ends Pn Pc Pr (denSs cl fuel ss (env.set i (some d)) st1)) : Ends Pn Pc Pr (denSs cl fuel (.cons (.set i e) ss) env st) := by
  obtain ⟨d, st1, e1, q⟩ := h
  refine Ends.cons ?_
  rw [ev_set, e1]
  exact k d st1 q
theorem Ends.loop {α : Type} (xs : List α) (enc : α → D) (I : List α → Env → Store → Prop) {tg : Tg} {it : It} {body : Ss} {fg : List Nat} {ss : Ss} {w : Items} {st1 : Store} (hit : denIt cl it env st = .ok w st1) (hw : w.ds = xs.map enc) (hs : ∀ rest env st, I rest env st → srcOk st w = true) (h0 : I xs env st1)
    (step : ∀ x rest env st, I (x :: rest) env st → ∃ env', assignTg (wipeE env fg) tg (enc x) = some env' ∧ Ends (I rest) (I rest) Pr (denSs cl fuel body env' st))
    (k : ∀ env st, I [] env st → Ends Pn Pc Pr (denSs cl fuel ss (wipeE env fg) st)) : Ends Pn Pc Pr (denSs cl fuel (.cons (.loop tg it body fg) ss) env st) := by
  refine Ends.cons ?_
  rw [ev_loop, hit, RS.ofE_ok, hw]
  rcases forLoop_ret (tg := tg) (w := w) (body := denSs cl fuel body) (fg := fg) enc I Pr hs (fun x rest env st h => by
    obtain ⟨env', e1, h1⟩ := step x rest env st h
    refine ⟨env', e1, ?_⟩
    cases e : denSs cl fuel body env' st with
    | nx e2 s2 => rw [e] at h1; exact .inl ⟨e2, s2, .inl rfl, h1⟩
    | cnt e2 s2 => rw [e] at h1; exact .inl ⟨e2, s2, .inr rfl, h1⟩
    | ret d s2 => rw [e] at h1; exact .inr ⟨d, s2, rfl, h1⟩
    | brk _ _ => rw [e] at h1; exact h1.elim
    | exc _ _ _ _ => rw [e] at h1; exact h1.elim
    | err => rw [e] at h1; exact h1.elim) xs env st1 h0 with ⟨e2, s2, e, h⟩ | ⟨d, s2, e, h⟩
  · rw [e]
    exact k e2 s2 h
  · rw [e]
    exact h
theorem Ends.imp {Pn' Pc' : Env → Store → Prop} {Pr' : D → Store → Prop} {rs : RS} (h : Ends Pn Pc Pr rs) (hn : ∀ e s, Pn e s → Pn' e s) (hc : ∀ e s, Pc e s → Pc' e s) (hr : ∀ d s, Pr d s → Pr' d s) : Ends Pn' Pc' Pr' rs := by
  cases rs with
  | nx e s => exact hn e s h
  | cnt e s => exact hc e s h
  | ret d s => exact hr d s h
  | brk _ _ => exact h.elim
  | exc _ _ _ _ => exact h.elim
  | err => exact h.elim
/-- a call that returns -/
theorem run_gives {f : Fd} {ds : List D} {Q : D → Store → Prop} (hp : ds.length = f.ps) (h : Ends (fun _ s => Q .non s) (fun _ _ => False) Q (denSs cl fuel f.body (startE f.names ds) st)) : Gives Q (runFd cl fuel f ds st) := by
  rw [runFd_eq hp]
  cases e : denSs cl fuel f.body (startE f.names ds) st with
  | nx e2 s2 => rw [e] at h; exact ⟨_, _, rfl, h⟩
  | ret d s2 => rw [e] at h; exact ⟨_, _, rfl, h⟩
  | cnt _ _ => rw [e] at h; exact h.elim
  | brk _ _ => rw [e] at h; exact h.elim
  | exc _ _ _ _ => rw [e] at h; exact h.elim
  | err => rw [e] at h; exact h.elim
end
theorem at_plus' {st : Store} (M : Store) (i : Nat) : (st ++ M)[st.length + i]? = M[i]? := by
  rw [List.getElem?_append_right (by omega)]
  congr 1
  omega
theorem set_plus' {st : Store} (M : Store) (i : Nat) (c : Cell) : (st ++ M).set (st.length + i) c = st ++ M.set i c := by
  rw [List.set_append_right _ _ (by omega)]
  congr 2
  omega
/-! ### a store with a cell of one number -/
def Wd (st : Store) (r : Nat) (s : Int) (L : Store) : Store := st.set r (.lst [.int s]) ++ L
section
variable {st : Store} {r : Nat} {s : Int} {L : Store}
theorem Wd_start (h : st[r]? = some (.lst [.int s])) : st = Wd st r s [] := by
  obtain ⟨h1, h2⟩ := List.getElem?_eq_some_iff.mp h
  unfold Wd
  rw [List.append_nil, ← h2, List.set_getElem_self]
@[simp] theorem Wd_len : (Wd st r s L).length = st.length + L.length := by simp [Wd]
@[simp] theorem Wd_app (M : Store) : Wd st r s L ++ M = Wd st r s (L ++ M) := by simp [Wd]
theorem Wd_get (h : r < st.length) : (Wd st r s L)[r]? = some (.lst [.int s]) := by
  unfold Wd
  rw [List.getElem?_append_left (by simpa using h), List.getElem?_set_self h]
theorem Wd_set (h : r < st.length) (s' : Int) : (Wd st r s L).set r (.lst [.int s']) = Wd st r s' L := by
  unfold Wd
  rw [List.set_append_left _ _ (by simpa using h), List.set_set]
theorem Wd_at (i : Nat) : (Wd st r s L)[st.length + i]? = L[i]? := by
  have := at_plus' (st := st.set r (.lst [.int s])) L i
  simpa [Wd] using this
theorem Wd_at0 : (Wd st r s L)[st.length]? = L[0]? := Wd_at (L := L) 0
theorem Wd_put (i : Nat) (c : Cell) : (Wd st r s L).set (st.length + i) c = Wd st r s (L.set i c) := by
  have := set_plus' (st := st.set r (.lst [.int s])) L i c
  simpa [Wd] using this
theorem Wd_put0 (c : Cell) : (Wd st r s L).set st.length c = Wd st r s (L.set 0 c) := Wd_put 0 c
theorem Wd_gc {s' : Int} {M : Store} {d : D} (h : r < st.length) (hd : d.under (Wd st r s L).length = true) : gc (Wd st r s L) d (Wd st r s' (L ++ M)) = .ok d (Wd st r s' L) := by
  have e : Wd st r s' (L ++ M) = Wd st r s' L ++ M := by simp
  rw [e]
  refine gc_base (by rw [Wd_len, Wd_len]) ?_ hd
  have := older_set (n := (Wd st r s L).length) (c := .lst [.int s']) rfl (Wd st r s L) r M
  rwa [Wd_set h] at this
theorem Wd_gc0 {s' : Int} {d : D} (h : r < st.length) (hd : d.under (Wd st r s L).length = true) : gc (Wd st r s L) d (Wd st r s' L) = .ok d (Wd st r s' L) := by
  have := Wd_gc (st := st) (r := r) (s := s) (s' := s') (L := L) (M := []) h hd
  rwa [List.append_nil] at this
end
end Pd
end
section
set_option Elab.async false
set_option linter.all false
set_option maxRecDepth 100000
set_option autoImplicit false
/-! A sorted row ascends. -/
namespace Pd
theorem sort_asc {α : Type} {lt ne : α → α → Prop} [∀ a b, Decidable (lt a b)] (irr : ∀ a, ¬ lt a a) (trans : ∀ {a b c}, lt a b → lt b c → lt a c) (neg : ∀ {a b c}, ¬ lt b a → ¬ lt c b → ¬ lt c a) (tri : ∀ {a b}, ne a b → ¬ lt b a → lt a b) (sym : ∀ {a b}, ne a b → ne b a) {xs : List α} (hp : xs.Pairwise ne) :
    (xs.mergeSort fun a b => !decide (lt b a)).Pairwise lt := by
  have h1 : (xs.mergeSort fun a b => !decide (lt b a)).Pairwise (fun a b => (!decide (lt b a)) = true) := List.pairwise_mergeSort (le := fun a b => !decide (lt b a)) (fun a b c h1 h2 => by
    simp only [Bool.not_eq_true', decide_eq_false_iff_not] at *
    exact neg h1 h2) (fun a b => by
    by_cases h : lt a b
    · have : ¬ lt b a := fun h' => irr a (trans h h')
      simp [this]
    · simp [h]) _
  have h2 : (xs.mergeSort fun a b => !decide (lt b a)).Pairwise ne := (List.Perm.pairwise_iff (fun {a b} h => sym h) (List.mergeSort_perm _ _)).mpr hp
  refine List.Pairwise.imp (fun {a b} h => ?_) (h1.and h2)
  have := h.1
  simp only [Bool.not_eq_true', decide_eq_false_iff_not] at this
  exact tri h.2 this
end Pd
end
section
set_option Elab.async false
set_option linter.all false
set_option maxRecDepth 100000
set_option autoImplicit false
/-! Forms: numbers, words, keys. -/
namespace Pd.T
open PySem
variable {fuel : Nat}
theorem is_int_i (n : Nat) (i : Int) (st : Store) : callG (run fs fuel (n + 1)) st ix_is_int [.int i] st = .ok (.bl true) st := by
  rw [callG, run_is_int, runFd_eq rfl]
  simp [F_is_int, B_is_int, startE, tyB]
theorem is_number_i (n : Nat) (i lo hi : Int) (st : Store) : callG (run fs fuel (n + 2)) st ix_is_number [.int i, .int lo, .int hi] st = .ok (.bl (decide (lo ≤ i) && decide (i ≤ hi))) st := by
  rw [callG, run_is_number, runFd_eq rfl]
  simp [F_is_number, B_is_number, startE, is_int_i]
theorem is_hour_i (n : Nat) (i : Int) (st : Store) : callG (run fs fuel (n + 3)) st ix_is_hour [.int i] st = .ok (.bl (decide (0 ≤ i) && decide (i ≤ 23))) st := by
  rw [callG, run_is_hour, runFd_eq rfl]
  simp [F_is_hour, B_is_hour, startE, is_number_i]
theorem is_direction_i (n : Nat) (i : Int) (st : Store) : callG (run fs fuel (n + 3)) st ix_is_direction [.int i] st = .ok (.bl (decide (0 ≤ i) && decide (i ≤ 7))) st := by
  rw [callG, run_is_direction, runFd_eq rfl]
  simp [F_is_direction, B_is_direction, startE, is_number_i]
def optI : Option Int → D
  | none => .non
  | some i => .int i
@[simp] theorem optI_isNon (w : Option Int) : (optI w).isNon = w.isNone := by cases w <;> rfl
@[simp] theorem optI_pl (w : Option Int) (k : Nat) : (optI w).pl k = true := by cases w <;> simp [optI]
@[simp] theorem optI_nob (w : Option Int) : (optI w).nob = true := by cases w <;> simp [optI]
@[simp] theorem optI_under (w : Option Int) (k : Nat) : (optI w).under k = true := by cases w <;> simp [optI]
@[simp] theorem optI_inj (v w : Option Int) : optI v = optI w ↔ v = w := by cases v <;> cases w <;> simp [optI]
def whB : Option Int → Bool
  | none => true
  | some i => decide (0 ≤ i) && decide (i ≤ 7)
theorem is_whence_i (n : Nat) (w : Option Int) (st : Store) : callG (run fs fuel (n + 4)) st ix_is_whence [optI w] st = .ok (.bl (whB w)) st := by
  rw [callG, run_is_whence, runFd_eq rfl]
  cases w with
  | none => simp [F_is_whence, B_is_whence, startE, optI, whB]
  | some i => simp [F_is_whence, B_is_whence, startE, optI, whB, is_direction_i]
theorem is_span_i (n : Nat) (i j : Int) (st : Store) : callG (run fs fuel (n + 3)) st ix_is_span [.int i, .int j] st = .ok (.bl (decide (0 ≤ i) && decide (i ≤ 23) && (decide (1 ≤ j) && decide (j ≤ 24)) && decide (i < j))) st := by
  rw [callG, run_is_span, runFd_eq rfl]
  simp [F_is_span, B_is_span, startE, is_number_i]
  by_cases h1 : 0 ≤ i <;> by_cases h2 : i ≤ 23 <;> by_cases h3 : 1 ≤ j <;> by_cases h4 : j ≤ 24 <;> simp [h1, h2, h3, h4]
theorem is_parts_t (n : Nat) (ds : List D) (k : Int) (st : Store) : callG (run fs fuel (n + 1)) st ix_is_parts [.tup ds, .int k] st = .ok (.bl (decide ((ds.length : Int) = k))) st := by
  rw [callG, run_is_parts, runFd_eq rfl]
  simp [F_is_parts, B_is_parts, startE, tyB]
/-- words -/
def wordB (s : Str) : Bool := decide (1 ≤ s.cps.size) && decide (s.cps.size ≤ 8) && s.cps.toList.all fun c => decide (97 ≤ c) && decide (c ≤ 122)
theorem wordB_fit {s : Str} (h : wordB s = true) : s.cps.all (· < 0x110000) = true := by
  unfold wordB at h
  rw [Bool.and_eq_true, List.all_eq_true] at h
  rw [← Array.all_toList, List.all_eq_true]
  intro x hx
  have := h.2 x hx
  simp at this
  simp
  omega
theorem is_word_s (n : Nat) (s : Str) (h : wordB s = true) (st : Store) : callG (run fs fuel (n + 1)) st ix_is_word [.str s] st = .ok (.bl true) st := by
  rw [callG, run_is_word, runFd_eq rfl]
  have h' := h
  unfold wordB at h
  simp only [Bool.and_eq_true, decide_eq_true_eq, List.all_eq_true] at h
  obtain ⟨⟨h1, h2⟩, h3⟩ := h
  have e1 : (1 : Int) ≤ s.cps.size := by omega
  have e2 : (s.cps.size : Int) ≤ 8 := by omega
  have e3 := bfnG_lens (st := st) (st0 := st) (s := s) (by unfold LIM; omega)
  simp [F_is_word, B_is_word, startE, tyB, e1, e2, e3]
  rw [bfnC_allA (w := ⟨s.cps.toList.map fun c => .str ⟨#[c]⟩, none⟩) s.cps.toList (fun c => .str ⟨#[c]⟩) (fun c => true) (by simp) rfl rfl (by unfold LIM; simp; omega)]
  · simp
  · intro c hc
    have := h3 c hc
    refine ⟨_, rfl, ?_⟩
    have ea : ("a" : Str).cps.toList = [97] := by decide +kernel
    have ez : ("z" : Str).cps.toList = [122] := by decide +kernel
    simp [ea, ez, wipeE]
    constructor
    · rw [← List.not_lt, List.cons_lt_cons_iff]
      simp
      omega
    · rw [← List.not_lt, List.cons_lt_cons_iff]
      simp
      omega
theorem plain_of_pl : ∀ (k n : Nat) (d : D) (st : Store), d.pl k = true → callG (run fs fuel (n + k + 1)) st ix_plain_of [d] st = .ok d st := by
  intro k
  induction k with
  | zero =>
    intro n d st h
    rw [callG, run_plain_of, runFd_eq rfl]
    cases d <;> first | (cases h; done) | simp [F_plain_of, B_plain_of, startE, tyB]
  | succ k ih =>
    intro n d st h
    rw [callG, run_plain_of, runFd_eq rfl]
    cases d with
    | tup ds =>
      rw [pl_tup, Bool.and_eq_true] at h
      have hl := of_decide_eq_true h.1
      simp [F_plain_of, B_plain_of, startE, tyB]
      rw [bfnC_tupA (w := ⟨ds, none⟩) ds id id (by simp) (by simp) rfl (by unfold LIM; omega) _ (fun x hx => pl_under (pls_all.mp h.2 x hx) _)]
      · simp [pls_under h.2]
      · intro x hx
        refine ⟨_, rfl, ?_⟩
        have := ih n x st (pls_all.mp h.2 x hx)
        rw [Nat.add_assoc] at this
        simp [wipeE, this]
    | _ => first | (cases h; done) | simp [F_plain_of, B_plain_of, startE, tyB]
theorem order_key_pl : ∀ (k n : Nat) (d : D) (st : Store), d.pl k = true → callG (run fs fuel (n + k + 1)) st ix_order_key [d] st = .ok (okey d) st := by
  intro k
  induction k with
  | zero =>
    intro n d st h
    rw [callG, run_order_key, runFd_eq rfl]
    cases d with
    | bl b => cases b <;> simp [F_order_key, B_order_key, startE, tyB, okey]
    | _ => first | (cases h; done) | simp [F_order_key, B_order_key, startE, tyB, okey]
  | succ k ih =>
    intro n d st h
    rw [callG, run_order_key, runFd_eq rfl]
    cases d with
    | tup ds =>
      rw [pl_tup, Bool.and_eq_true] at h
      have hl := of_decide_eq_true h.1
      simp [F_order_key, B_order_key, startE, tyB, okey]
      rw [bfnC_tupA (w := ⟨ds, none⟩) ds id okey (by simp) (by simp) rfl (by unfold LIM; omega) _ (fun x hx => pl_under (okey_pl _ _ (pls_all.mp h.2 x hx)) _)]
      · have := pls_under (okeys_pl ds k h.2) st.length
        rw [okeys_map] at this
        simp [okeys_map, this]
      · intro x hx
        refine ⟨_, rfl, ?_⟩
        have := ih n x st (pls_all.mp h.2 x hx)
        rw [Nat.add_assoc] at this
        simp [wipeE, this]
    | bl b => cases b <;> simp [F_order_key, B_order_key, startE, tyB, okey]
    | _ => first | (cases h; done) | simp [F_order_key, B_order_key, startE, tyB, okey]
end Pd.T
end
section
set_option Elab.async false
set_option linter.all false
set_option maxRecDepth 100000
set_option autoImplicit false
/-! Lands. -/
namespace Pd.T
open PySem
variable {fuel : Nat}
/-- a < b by their keys -/
def klt (a b : D) : Prop := (okey a).lt (okey b) = some true
theorem is_ascending_t (k n : Nat) (hk : k ≤ 10) (rows : List D) (hp : pls rows k = true) (hl : rows.length ≤ 4000) (ha : rows.Pairwise klt) (st : Store) : callG (run fs fuel (n + k + 2)) st ix_is_ascending [.tup rows] st = .ok (.bl true) st := by
  rw [callG, run_is_ascending, runFd_eq rfl]
  simp [F_is_ascending, B_is_ascending, startE]
  rw [den_compA (w := ⟨rows, none⟩) rows id okey (by simp) (by simp) rfl (by unfold LIM; omega)]
  · have e1 : bfnG .len (st ++ [.lst (rows.map okey)]) [.ref st.length] (st ++ [.lst (rows.map okey)]) = .ok (.int rows.length) (st ++ [.lst (rows.map okey)]) := by
      rw [bfnG_lenl (ds := rows.map okey) (by simp)]
      simp
    simp
    rw [bfnC_allA (w := ⟨(List.range ((rows.length : Int) - 1 - 0).toNat).map fun (k : Nat) => .int (0 + (k : Int)), none⟩) (List.range ((rows.length : Int) - 1 - 0).toNat) (fun k => .int (0 + (k : Int))) (fun _ => true) (by simp [e1]; rw [rngItems_ok (by omega)]; simp) rfl rfl (by unfold LIM; simp; omega)]
    · simp
    · intro j hj
      have hj := List.mem_range.mp hj
      refine ⟨_, rfl, ?_⟩
      have i1 : idx (.ref st.length) (.int (j : Int)) (st ++ [.lst (rows.map okey)]) = .ok (okey rows[j]) (st ++ [.lst (rows.map okey)]) := by
        rw [idx_l (ds := rows.map okey) (by simp), atI_nn (by omega)]
        simp
        rw [List.getElem?_eq_getElem (by omega)]
        simp
      have i2 : idx (.ref st.length) (.int ((j : Int) + 1)) (st ++ [.lst (rows.map okey)]) = .ok (okey rows[j + 1]) (st ++ [.lst (rows.map okey)]) := by
        rw [idx_l (ds := rows.map okey) (by simp), atI_nn (by omega)]
        have : ((j : Int) + 1).toNat = j + 1 := by omega
        simp [this]
        rw [List.getElem?_eq_getElem (by omega)]
        simp
      have p1 := okey_pl _ _ (pls_all.mp hp rows[j] (List.getElem_mem _))
      have p2 := okey_pl _ _ (pls_all.mp hp rows[j + 1] (List.getElem_mem _))
      have l1 : klt rows[j] rows[j + 1] := List.pairwise_iff_getElem.mp ha j (j + 1) (by omega) (by omega) (by omega)
      simp [wipeE, i1, i2]
      rw [cop_ltD p1 p2 (by omega) (by omega), l1]
      simp
  · intro x hx
    refine ⟨_, rfl, ?_⟩
    have := order_key_pl (fuel := fuel) k n x st (pls_all.mp hp x hx)
    simp [wipeE, this]
structure Psg where
  to : Int
  out : Int
  ground : Str
structure Hr where
  sign : Str
  whence : Option Int
  first : Int
  last : Int
structure Dg where
  spot : Int
  dir : Option Int
  first : Int
  last : Int
structure Spot where
  ways : List (Option Psg)
  hears : List Hr
structure Land where
  spots : List Spot
  dangers : List Dg
def Psg.d (p : Psg) : D := .tup [.int p.to, .int p.out, .str p.ground]
def wayD : Option Psg → D
  | none => .non
  | some p => p.d
def Hr.d (h : Hr) : D := .tup [.str h.sign, optI h.whence, .int h.first, .int h.last]
def Dg.d (g : Dg) : D := .tup [.int g.spot, optI g.dir, .int g.first, .int g.last]
def Spot.d (s : Spot) : D := .tup [.tup (s.ways.map wayD), .tup (s.hears.map Hr.d)]
def Land.d (l : Land) : D := .tup [.tup (l.spots.map Spot.d), .tup (l.dangers.map Dg.d)]
def wI : Option Int → Int
  | none => -1
  | some i => i
/-- the order of rows with a sign or a spot and a direction -/
def Hr.lt (a b : Hr) : Prop := a.sign.cps.toList < b.sign.cps.toList ∨ a.sign = b.sign ∧ wI a.whence < wI b.whence
def Dg.lt (a b : Dg) : Prop := a.spot < b.spot ∨ a.spot = b.spot ∧ wI a.dir < wI b.dir
structure Psg.Ok (n : Int) (p : Psg) : Prop where
  to0 : 0 ≤ p.to
  to1 : p.to < n
  out0 : 0 ≤ p.out
  out1 : p.out < 8
  gr : wordB p.ground = true
structure Hr.Ok (h : Hr) : Prop where
  sg : wordB h.sign = true
  wh : whB h.whence = true
  f0 : 0 ≤ h.first
  fl : h.first < h.last
  l1 : h.last ≤ 24
structure Dg.Ok (n : Int) (g : Dg) : Prop where
  s0 : 0 ≤ g.spot
  s1 : g.spot < n
  wh : whB g.dir = true
  f0 : 0 ≤ g.first
  fl : g.first < g.last
  l1 : g.last ≤ 24
structure Spot.Ok (n : Int) (s : Spot) : Prop where
  w8 : s.ways.length = 8
  ws : ∀ p, some p ∈ s.ways → Psg.Ok n p
  h12 : s.hears.length ≤ 12
  hs : ∀ h ∈ s.hears, h.Ok
  asc : s.hears.Pairwise Hr.lt
structure Land.Ok (l : Land) : Prop where
  n1 : 1 ≤ l.spots.length
  n12 : l.spots.length ≤ 12
  ss : ∀ s ∈ l.spots, Spot.Ok l.spots.length s
  g24 : l.dangers.length ≤ 24
  gs : ∀ g ∈ l.dangers, Dg.Ok l.spots.length g
  asc : l.dangers.Pairwise Dg.lt
theorem Psg.Ok.pl {n : Int} {p : Psg} (h : Psg.Ok n p) (k : Nat) : p.d.pl (k + 1) = true := by
  have := wordB_fit h.gr
  simp [Psg.d] at this ⊢
  exact this
theorem Hr.Ok.pl {p : Hr} (h : Hr.Ok p) (k : Nat) : p.d.pl (k + 1) = true := by
  have := wordB_fit h.sg
  simp [Hr.d] at this ⊢
  exact this
theorem Dg.Ok.pl {n : Int} {p : Dg} (h : Dg.Ok n p) (k : Nat) : p.d.pl (k + 1) = true := by
  simp [Dg.d]
theorem way_pl {n : Int} {s : Spot} (h : Spot.Ok n s) {w : Option Psg} (hw : w ∈ s.ways) (k : Nat) : (wayD w).pl (k + 1) = true := by
  cases w with
  | none => simp [wayD]
  | some p => exact (h.ws p hw).pl k
theorem Spot.Ok.pl {n : Int} {s : Spot} (h : Spot.Ok n s) (k : Nat) : s.d.pl (k + 3) = true := by
  have h1 := h.w8
  have h2 := h.h12
  simp [Spot.d, h1]
  refine ⟨pls_map fun w hw => way_pl h hw k, by omega, pls_map fun x hx => (h.hs x hx).pl k⟩
theorem Land.Ok.pl {l : Land} (h : Land.Ok l) (k : Nat) : l.d.pl (k + 5) = true := by
  have h1 := h.n12
  have h2 := h.g24
  simp [Land.d]
  refine ⟨⟨by omega, pls_map fun s hs => (h.ss s hs).pl k⟩, by omega, pls_map fun x hx => (h.gs x hx).pl (k + 2)⟩
theorem Land.Ok.under {l : Land} (h : Land.Ok l) (n : Nat) : l.d.under n = true := pl_under (h.pl 0) n
theorem lt_irr (a : List Nat) : ¬ a < a := List.lt_irrefl a
theorem whB_wI {w : Option Int} (h : whB w = true) : -1 ≤ wI w := by
  cases w <;> simp [whB, wI] at h ⊢
  omega
theorem klt_hr {a b : Hr} (ha : whB a.whence = true) (hb : whB b.whence = true) (h : Hr.lt a b) : klt a.d b.d := by
  unfold klt Hr.d
  simp only [okey, okeys]
  have q (x y : Option Int) (h0 : whB x = true) (hx : wI x < wI y) (r1 r2 : List D) : lts (okey (optI x) :: r1) (okey (optI y) :: r2) = some true := by
    have := whB_wI h0
    cases x <;> cases y <;> simp [wI, optI, okey, lts, D.lt, D.eq, eqs] at hx this ⊢
    · omega
    · rw [if_neg (by omega), if_neg (by omega), decide_eq_true hx]
  rcases h with h | ⟨h1, h2⟩
  · have : a.sign ≠ b.sign := fun e => by rw [e] at h; exact lt_irr _ h
    simp [D.lt, lts, D.eq, eqs, this, h]
  · have q := q a.whence b.whence ha h2 [.tup [.int 3, .int a.first], .tup [.int 3, .int a.last]] [.tup [.int 3, .int b.first], .tup [.int 3, .int b.last]]
    have e : ∀ (z : Str) (r1 r2 : List D), lts (.tup [.int 4, .str z] :: r1) (.tup [.int 4, .str z] :: r2) = lts r1 r2 := fun z r1 r2 => by simp [lts, D.eq, eqs]
    have e5 : ∀ x y : List D, D.lt (.tup [.int 5, .tup x]) (.tup [.int 5, .tup y]) = if eqs x y = true then some false else lts x y := fun x y => by
      simp only [D.lt, lts, D.eq]
      simp
      rfl
    rw [e5, h1, e, q]
    have : eqs (.tup [.int 4, .str b.sign] :: okey (optI a.whence) :: [.tup [.int 3, .int a.first], .tup [.int 3, .int a.last]]) (.tup [.int 4, .str b.sign] :: okey (optI b.whence) :: [.tup [.int 3, .int b.first], .tup [.int 3, .int b.last]]) = false := by
      cases ha : a.whence <;> cases hb : b.whence <;> rw [ha, hb] at h2 <;> simp [wI, optI, okey, D.eq, eqs] at h2 ⊢
      intro z; omega
    rw [if_neg (by rw [this]; decide)]
theorem klt_dg {a b : Dg} (ha : whB a.dir = true) (hb : whB b.dir = true) (h : Dg.lt a b) : klt a.d b.d := by
  unfold klt Dg.d
  simp only [okey, okeys]
  have q (x y : Option Int) (h0 : whB x = true) (hx : wI x < wI y) (r1 r2 : List D) : lts (okey (optI x) :: r1) (okey (optI y) :: r2) = some true := by
    have := whB_wI h0
    cases x <;> cases y <;> simp [wI, optI, okey, lts, D.lt, D.eq, eqs] at hx this ⊢
    · omega
    · rw [if_neg (by omega), if_neg (by omega), decide_eq_true hx]
  rcases h with h | ⟨h1, h2⟩
  · have : a.spot ≠ b.spot := by omega
    simp [D.lt, lts, D.eq, eqs, this, h]
  · have q := q a.dir b.dir ha h2 [.tup [.int 3, .int a.first], .tup [.int 3, .int a.last]] [.tup [.int 3, .int b.first], .tup [.int 3, .int b.last]]
    have e : ∀ (z : Int) (r1 r2 : List D), lts (.tup [.int 3, .int z] :: r1) (.tup [.int 3, .int z] :: r2) = lts r1 r2 := fun z r1 r2 => by simp [lts, D.eq, eqs]
    have e5 : ∀ x y : List D, D.lt (.tup [.int 5, .tup x]) (.tup [.int 5, .tup y]) = if eqs x y = true then some false else lts x y := fun x y => by
      simp only [D.lt, lts, D.eq]
      simp
      rfl
    rw [e5, h1, e, q]
    have : eqs (.tup [.int 3, .int b.spot] :: okey (optI a.dir) :: [.tup [.int 3, .int a.first], .tup [.int 3, .int a.last]]) (.tup [.int 3, .int b.spot] :: okey (optI b.dir) :: [.tup [.int 3, .int b.first], .tup [.int 3, .int b.last]]) = false := by
      cases ha : a.dir <;> cases hb : b.dir <;> rw [ha, hb] at h2 <;> simp [wI, optI, okey, D.eq, eqs] at h2 ⊢
      intro z; omega
    rw [if_neg (by rw [this]; decide)]
theorem passage_form_t (n : Nat) {m : Int} {p : Psg} (h : Psg.Ok m p) (st : Store) : callG (run fs fuel (n + 4)) st ix_passage_form [p.d, .int m] st = .ok (.bl true) st := by
  have h0 := h.to0
  have h1 : p.to ≤ m - 1 := by have := h.to1; omega
  have h2 := h.out0
  have h3 : p.out ≤ 7 := by have := h.out1; omega
  rw [callG, run_passage_form, runFd_eq rfl]
  simp [F_passage_form, B_passage_form, startE, Psg.d, is_parts_t, is_number_i, is_direction_i, is_word_s _ _ h.gr, h0, h1, h2, h3]
theorem hearing_form_t (n : Nat) {p : Hr} (h : p.Ok) (st : Store) : callG (run fs fuel (n + 5)) st ix_hearing_form [p.d] st = .ok (.bl true) st := by
  have h0 := h.f0
  have h1 := h.fl
  have h2 := h.l1
  have h3 : p.first ≤ 23 := by omega
  have h4 : 1 ≤ p.last := by omega
  rw [callG, run_hearing_form, runFd_eq rfl]
  simp [F_hearing_form, B_hearing_form, startE, Hr.d, is_parts_t, is_number_i, is_whence_i, is_word_s _ _ h.sg, is_span_i, h.wh, h0, h1, h2, h3, h4]
theorem danger_form_t (n : Nat) {m : Int} {p : Dg} (h : Dg.Ok m p) (st : Store) : callG (run fs fuel (n + 5)) st ix_danger_form [p.d, .int m] st = .ok (.bl true) st := by
  have h0 := h.f0
  have h1 := h.fl
  have h2 := h.l1
  have h3 : p.first ≤ 23 := by omega
  have h4 : 1 ≤ p.last := by omega
  have h5 := h.s0
  have h6 : p.spot ≤ m - 1 := by have := h.s1; omega
  rw [callG, run_danger_form, runFd_eq rfl]
  simp [F_danger_form, B_danger_form, startE, Dg.d, is_parts_t, is_number_i, is_whence_i, is_span_i, h.wh, h0, h1, h2, h3, h4, h5, h6]
theorem Hr.lt_ne {a b : Hr} (h : Hr.lt a b) : ¬ (a.sign = b.sign ∧ a.whence = b.whence) := fun ⟨e1, e2⟩ => by
  rcases h with h | ⟨_, h⟩
  · rw [e1] at h
    exact lt_irr _ h
  · rw [e2] at h
    omega
theorem Dg.lt_ne {a b : Dg} (h : Dg.lt a b) : ¬ (a.spot = b.spot ∧ a.dir = b.dir) := fun ⟨e1, e2⟩ => by
  rcases h with h | ⟨_, h⟩
  · omega
  · rw [e2] at h
    omega
theorem eq_opt (a b : Option Int) : (optI a).eq (optI b) = decide (a = b) := by
  cases a <;> cases b <;> simp [optI, D.eq]
  rfl
theorem hearings_form_t (n : Nat) {hs : List Hr} (hl : hs.length ≤ 12) (ho : ∀ h ∈ hs, h.Ok) (ha : hs.Pairwise Hr.lt) (st : Store) : callG (run fs fuel (n + 6)) st ix_hearings_form [.tup (hs.map Hr.d)] st = .ok (.bl true) st := by
  rw [callG, run_hearings_form, runFd_eq rfl]
  have e1 : ¬ (12 : Int) < hs.length := by omega
  have asc : (hs.map Hr.d).Pairwise klt := by
    rw [List.pairwise_map]
    exact List.Pairwise.imp_of_mem (fun x y h => klt_hr (ho _ x).wh (ho _ y).wh h) ha
  have e2 := is_ascending_t (fuel := fuel) 1 (n + 2) (by omega) (hs.map Hr.d) (pls_map fun h hh => (ho h hh).pl 0) (by simp; omega) asc st
  simp [F_hearings_form, B_hearings_form, startE, tyB, e1]
  rw [bfnC_allA (w := ⟨hs.map Hr.d, none⟩) hs Hr.d (fun _ => true) (by simp) rfl rfl (by unfold LIM; omega)]
  · simp [e2]
    rw [bfnC_lenS (w := ⟨hs.map Hr.d, none⟩) hs Hr.d (fun h => .tup [.str h.sign, optI h.whence]) (by simp) rfl rfl (by omega)]
    · simp
    · intro h hh
      refine ⟨_, rfl, ?_⟩
      simp [wipeE, Hr.d, cut_to]
    · intro h _
      cases hw : h.whence <;> simp [D.tupK, koks, D.kok, optI]
    · rw [List.pairwise_map]
      refine List.Pairwise.imp (fun {a b} h => ?_) ha
      have := Hr.lt_ne h
      simp [D.eq, eqs, eq_opt]
      exact fun e1 e2 => this ⟨e1, e2⟩
  · intro h hh
    refine ⟨_, rfl, ?_⟩
    simp [wipeE, hearing_form_t _ (ho h hh)]
theorem dangers_form_t (n : Nat) {m : Int} {hs : List Dg} (hl : hs.length ≤ 24) (ho : ∀ h ∈ hs, Dg.Ok m h) (ha : hs.Pairwise Dg.lt) (st : Store) : callG (run fs fuel (n + 6)) st ix_dangers_form [.tup (hs.map Dg.d), .int m] st = .ok (.bl true) st := by
  rw [callG, run_dangers_form, runFd_eq rfl]
  have e1 : ¬ (24 : Int) < hs.length := by omega
  have asc : (hs.map Dg.d).Pairwise klt := by
    rw [List.pairwise_map]
    exact List.Pairwise.imp_of_mem (fun x y h => klt_dg (ho _ x).wh (ho _ y).wh h) ha
  have e2 := is_ascending_t (fuel := fuel) 1 (n + 2) (by omega) (hs.map Dg.d) (pls_map fun h hh => (ho h hh).pl 0) (by simp; omega) asc st
  simp [F_dangers_form, B_dangers_form, startE, tyB, e1]
  rw [bfnC_allA (w := ⟨hs.map Dg.d, none⟩) hs Dg.d (fun _ => true) (by simp) rfl rfl (by unfold LIM; omega)]
  · simp [e2]
    rw [bfnC_lenS (w := ⟨hs.map Dg.d, none⟩) hs Dg.d (fun h => .tup [.int h.spot, optI h.dir]) (by simp) rfl rfl (by omega)]
    · simp
    · intro h hh
      refine ⟨_, rfl, ?_⟩
      simp [wipeE, Dg.d, cut_to]
    · intro h _
      cases hw : h.dir <;> simp [D.tupK, koks, D.kok, optI]
    · rw [List.pairwise_map]
      refine List.Pairwise.imp (fun {a b} h => ?_) ha
      have := Dg.lt_ne h
      simp [D.eq, eqs, eq_opt]
      exact fun e1 e2 => this ⟨e1, e2⟩
  · intro h hh
    refine ⟨_, rfl, ?_⟩
    simp [wipeE, danger_form_t _ (ho h hh)]
theorem spot_form_t (n : Nat) {m : Int} {s : Spot} (h : Spot.Ok m s) (st : Store) : callG (run fs fuel (n + 7)) st ix_spot_form [s.d, .int m] st = .ok (.bl true) st := by
  rw [callG, run_spot_form, runFd_eq rfl]
  have e8 : ((s.ways.length : Int)) = 8 := by have := h.w8; omega
  simp [F_spot_form, B_spot_form, startE, Spot.d, is_parts_t, e8]
  rw [bfnC_allA (w := ⟨s.ways.map wayD, none⟩) s.ways wayD (fun _ => true) (by simp) rfl rfl (by unfold LIM; omega)]
  · simp [hearings_form_t _ h.h12 h.hs h.asc]
  · intro w hw
    refine ⟨_, rfl, ?_⟩
    cases w with
    | none => simp [wipeE, wayD]
    | some p =>
      have := passage_form_t (fuel := fuel) (n + 2) (h.ws p hw) st
      have e : p.d.isNon = false := rfl
      simp [wipeE, wayD, this, e]
theorem land_form_t (n : Nat) {l : Land} (h : l.Ok) (st : Store) : callG (run fs fuel (n + 8)) st ix_land_form [l.d] st = .ok (.bl true) st := by
  rw [callG, run_land_form, runFd_eq rfl]
  have e1 : (1 : Int) ≤ l.spots.length := by have := h.n1; omega
  have e2 : (l.spots.length : Int) ≤ 12 := by have := h.n12; omega
  simp [F_land_form, B_land_form, startE, Land.d, is_parts_t, tyB, e1, e2]
  rw [bfnC_allA (w := ⟨l.spots.map Spot.d, none⟩) l.spots Spot.d (fun _ => true) (by simp) rfl rfl (by have := h.n12; unfold LIM; omega)]
  · simp [dangers_form_t _ h.g24 h.gs h.asc]
  · intro s hs
    refine ⟨_, rfl, ?_⟩
    simp [wipeE, spot_form_t _ (h.ss s hs)]
theorem land_taken_t (n : Nat) {l : Land} (h : l.Ok) (k : Int) (st : Store) : callG (run fs fuel (n + 9)) st ix_land_taken [l.d, .int k] st = .ok l.d st := by
  rw [callG, run_land_taken, runFd_eq rfl]
  have e1 := plain_of_pl (fuel := fuel) 5 (n + 2) l.d st (h.pl 0)
  have e2 := h.under st.length
  simp [F_land_taken, B_land_taken, startE, e1, land_form_t _ h, e2]
end Pd.T
end
section
set_option Elab.async false
set_option linter.all false
set_option maxRecDepth 100000
set_option autoImplicit false
/-! Guesses, questions, events. -/
namespace Pd.T
open PySem
variable {fuel : Nat}
structure Gs where
  spot : Int
  face : Int
  hour : Int
  ground : Option Str
  deriving DecidableEq
def grD : Option Str → D
  | none => .non
  | some s => .str s
def Gs.d (g : Gs) : D := .tup [.int g.spot, .int g.face, .int g.hour, grD g.ground]
def grS : Option Str → Str
  | none => ""
  | some s => s
def gkey (g : Gs) : D := .tup [.int g.spot, .int g.face, .int g.hour, .str (grS g.ground)]
structure Gs.Ok (m : Int) (g : Gs) : Prop where
  s0 : 0 ≤ g.spot
  s1 : g.spot < m
  f0 : 0 ≤ g.face
  f1 : g.face < 8
  h0 : 0 ≤ g.hour
  h1 : g.hour < 24
  gr : ∀ w, g.ground = some w → wordB w = true
@[simp] theorem grD_isNon (w : Option Str) : (grD w).isNon = w.isNone := by cases w <;> rfl
@[simp] theorem grD_nob (w : Option Str) : (grD w).nob = true := by cases w <;> simp [grD]
@[simp] theorem grD_under (w : Option Str) (k : Nat) : (grD w).under k = true := by cases w <;> simp [grD]
@[simp] theorem grD_inj (v w : Option Str) : grD v = grD w ↔ v = w := by cases v <;> cases w <;> simp [grD]
theorem Gs.d_inj {a b : Gs} (h : a.d = b.d) : a = b := by
  cases a; cases b
  simp [Gs.d] at h
  simp [h]
@[simp] theorem Gs.nob (g : Gs) : g.d.nob = true := by simp [Gs.d]
@[simp] theorem Gs.under (g : Gs) (n : Nat) : g.d.under n = true := by simp [Gs.d]
@[simp] theorem Gs.notNon (g : Gs) : g.d.isNon = false := by simp [Gs.d]
theorem Gs.eq_d (a b : Gs) : a.d.eq b.d = decide (a = b) := by
  by_cases h : a = b
  · rw [h, nob_eq _ b.nob]; simp
  · rw [decide_eq_false h]
    cases e : a.d.eq b.d with
    | false => rfl
    | true => exact absurd (Gs.d_inj ((eq_iff a.nob b.nob).mp e)) h
theorem Gs.Ok.pl {m : Int} {g : Gs} (h : Gs.Ok m g) (k : Nat) : g.d.pl (k + 1) = true := by
  cases e : g.ground with
  | none => simp [Gs.d, grD, e]
  | some w =>
    have := wordB_fit (h.gr w e)
    simp [Gs.d, grD, e] at this ⊢
    exact this
theorem emptyStr : ("" : Str).cps = #[] := by decide +kernel
theorem grS_fit {w : Option Str} (h : ∀ x, w = some x → wordB x = true) : (grS w).cps.all (· < 0x110000) = true := by
  cases w with
  | none => simp [grS, emptyStr]
  | some w => exact wordB_fit (h w rfl)
theorem Gs.Ok.kpl {m : Int} {g : Gs} (h : Gs.Ok m g) (k : Nat) : (gkey g).pl (k + 1) = true := by
  have := grS_fit h.gr
  simp [gkey] at this ⊢
  exact this
/-- the order of guesses -/
def glt (a b : Gs) : Prop := a.spot < b.spot ∨ a.spot = b.spot ∧ (a.face < b.face ∨ a.face = b.face ∧ (a.hour < b.hour ∨ a.hour = b.hour ∧ (grS a.ground).cps.toList < (grS b.ground).cps.toList))
instance (a b : Gs) : Decidable (glt a b) := by unfold glt; infer_instance
theorem Str.ext' {a b : Str} (h : a.cps.toList = b.cps.toList) : a = b := by
  cases a; cases b
  simp at h
  simp [h]
theorem lt_key (a b : Gs) : (gkey a).lt (gkey b) = some (decide (glt a b)) := by
  unfold gkey glt
  simp only [D.lt, lts, D.eq]
  by_cases h1 : a.spot = b.spot
  · by_cases h2 : a.face = b.face
    · by_cases h3 : a.hour = b.hour
      · by_cases h4 : grS a.ground = grS b.ground
        · simp [h1, h2, h3, h4, lt_irr]
        · simp [h1, h2, h3, h4]
      · simp [h1, h2, h3]
    · simp [h1, h2]
  · simp [h1]
theorem glt_irr (a : Gs) : ¬ glt a a := by
  unfold glt
  have := lt_irr (grS a.ground).cps.toList
  simp
theorem glt_trans {a b c : Gs} (h1 : glt a b) (h2 : glt b c) : glt a c := by
  unfold glt at *
  rcases h1 with h1 | ⟨e1, h1 | ⟨f1, h1 | ⟨g1, h1⟩⟩⟩ <;> rcases h2 with h2 | ⟨e2, h2 | ⟨f2, h2 | ⟨g2, h2⟩⟩⟩ <;>
    first
    | exact .inl (by omega)
    | exact .inr ⟨by omega, .inl (by omega)⟩
    | exact .inr ⟨by omega, .inr ⟨by omega, .inl (by omega)⟩⟩
    | exact .inr ⟨by omega, .inr ⟨by omega, .inr ⟨by omega, List.lt_trans h1 h2⟩⟩⟩
theorem glt_tri {m : Int} {a b : Gs} (ha : Gs.Ok m a) (hb : Gs.Ok m b) (h1 : ¬ glt a b) (h2 : ¬ glt b a) : a = b := by
  unfold glt at h1 h2
  have e1 : a.spot = b.spot := by omega
  have e2 : a.face = b.face := by
    have := fun x => h1 (.inr ⟨e1, .inl x⟩)
    have := fun x => h2 (.inr ⟨e1.symm, .inl x⟩)
    omega
  have e3 : a.hour = b.hour := by
    have := fun x => h1 (.inr ⟨e1, .inr ⟨e2, .inl x⟩⟩)
    have := fun x => h2 (.inr ⟨e1.symm, .inr ⟨e2.symm, .inl x⟩⟩)
    omega
  have q1 := fun x => h1 (.inr ⟨e1, .inr ⟨e2, .inr ⟨e3, x⟩⟩⟩)
  have q2 := fun x => h2 (.inr ⟨e1.symm, .inr ⟨e2.symm, .inr ⟨e3.symm, x⟩⟩⟩)
  have e4 : grS a.ground = grS b.ground := Str.ext' (List.le_antisymm (List.not_lt.mp q2) (List.not_lt.mp q1))
  have e5 : a.ground = b.ground := by
    cases h : a.ground with
    | none =>
      cases h' : b.ground with
      | none => rfl
      | some w =>
        rw [h, h'] at e4
        have := hb.gr w h'
        simp only [grS] at e4
        rw [← e4] at this
        exact absurd this (by decide +kernel)
    | some v =>
      cases h' : b.ground with
      | none =>
        rw [h, h'] at e4
        have := ha.gr v h
        simp only [grS] at e4
        rw [e4] at this
        exact absurd this (by decide +kernel)
      | some w =>
        rw [h, h'] at e4
        simp only [grS] at e4
        rw [e4]
  cases a; cases b
  simp at *
  simp [*]
theorem guess_key_r (n : Nat) (g : Gs) (st : Store) : run fs fuel (n + 1) ix_guess_key [g.d] st = .ok (gkey g) st := by
  rw [run_guess_key, runFd_eq rfl]
  cases h : g.ground <;> simp [F_guess_key, B_guess_key, startE, Gs.d, gkey, grD, grS, h]
theorem gkey_under (g : Gs) (n : Nat) : (gkey g).under n = true := by simp [gkey]
theorem guess_key_c (n : Nat) (g : Gs) (st : Store) : callG (run fs fuel (n + 1)) st ix_guess_key [g.d] st = .ok (gkey g) st := by
  rw [callG_ok (guess_key_r n g st), gc_same (gkey_under g _)]
theorem many_spots_c (n : Nat) (l : Land) (st : Store) : callG (run fs fuel (n + 1)) st ix_many_spots [l.d] st = .ok (.int l.spots.length) st := by
  rw [callG, run_many_spots, runFd_eq rfl]
  simp [F_many_spots, B_many_spots, startE, Land.d]
theorem guess_form_c (n : Nat) (l : Land) {g : Gs} (h : Gs.Ok l.spots.length g) (st : Store) : callG (run fs fuel (n + 4)) st ix_guess_form [g.d, l.d] st = .ok (.bl true) st := by
  have h0 := h.s0
  have h1 : g.spot ≤ (l.spots.length : Int) - 1 := by have := h.s1; omega
  have h2 := h.f0
  have h3 : g.face ≤ 7 := by have := h.f1; omega
  have h4 := h.h0
  have h5 : g.hour ≤ 23 := by have := h.h1; omega
  have ms := many_spots_c (fuel := fuel) (n + 2) l st
  rw [callG, run_guess_form, runFd_eq rfl]
  cases e : g.ground with
  | none => simp [F_guess_form, B_guess_form, startE, Gs.d, grD, e, is_parts_t, is_number_i, is_direction_i, is_hour_i, h0, h1, h2, h3, h4, h5, ms]
  | some w => simp [F_guess_form, B_guess_form, startE, Gs.d, grD, e, is_parts_t, is_number_i, is_direction_i, is_hour_i, h0, h1, h2, h3, h4, h5, ms, is_word_s _ _ (h.gr w e)]
theorem guesses_taken_c (n : Nat) (l : Land) (k lo hi : Int) {gs : List Gs} (h : ∀ g ∈ gs, Gs.Ok l.spots.length g) (hl : gs.length ≤ 2400) (h1 : lo ≤ gs.length) (h2 : (gs.length : Int) ≤ hi) (ha : gs.Pairwise glt) (st : Store) :
    callG (run fs fuel (n + 5)) st ix_guesses_taken [.tup (gs.map Gs.d), .int k, l.d, .int lo, .int hi] st = .ok (.tup (gs.map Gs.d)) st := by
  rw [callG, run_guesses_taken, runFd_eq rfl]
  have e1 := plain_of_pl (fuel := fuel) 2 (n + 1) (.tup (gs.map Gs.d)) st (by simp; exact ⟨by omega, pls_map fun g hg => (h g hg).pl 0⟩)
  simp [F_guesses_taken, B_guesses_taken, startE, e1, tyB, h1, h2]
  rw [bfnC_allA (w := ⟨gs.map Gs.d, none⟩) gs Gs.d (fun _ => true) (by simp) rfl rfl (by unfold LIM; omega)]
  · simp
    rw [den_compA (w := ⟨gs.map Gs.d, none⟩) gs Gs.d gkey (by simp) (by simp) rfl (by unfold LIM; omega)]
    · have e1 : bfnG .len (st ++ [.lst (gs.map gkey)]) [.ref st.length] (st ++ [.lst (gs.map gkey)]) = .ok (.int gs.length) (st ++ [.lst (gs.map gkey)]) := by
        rw [bfnG_lenl (ds := gs.map gkey) (by simp)]
        simp
      simp
      rw [bfnC_allA (w := ⟨(List.range ((gs.length : Int) - 1 - 0).toNat).map fun (k : Nat) => .int (0 + (k : Int)), none⟩) (List.range ((gs.length : Int) - 1 - 0).toNat) (fun k => .int (0 + (k : Int))) (fun _ => true) (by simp [e1]; rw [rngItems_ok (by omega)]; simp) rfl rfl (by unfold LIM; simp; omega)]
      · simp
        rw [gc_app]
        rw [under_tup]
        exact unders_map fun g _ => g.under _
      · intro j hj
        have hj := List.mem_range.mp hj
        refine ⟨_, rfl, ?_⟩
        have i1 : idx (.ref st.length) (.int (j : Int)) (st ++ [.lst (gs.map gkey)]) = .ok (gkey gs[j]) (st ++ [.lst (gs.map gkey)]) := by
          rw [idx_l (ds := gs.map gkey) (by simp), atI_nn (by omega)]
          simp
          rw [List.getElem?_eq_getElem (by omega)]
          simp
        have i2 : idx (.ref st.length) (.int ((j : Int) + 1)) (st ++ [.lst (gs.map gkey)]) = .ok (gkey gs[j + 1]) (st ++ [.lst (gs.map gkey)]) := by
          rw [idx_l (ds := gs.map gkey) (by simp), atI_nn (by omega)]
          have : ((j : Int) + 1).toNat = j + 1 := by omega
          simp [this]
          rw [List.getElem?_eq_getElem (by omega)]
          simp
        have p1 := (h _ (List.getElem_mem (l := gs) (n := j) (by omega))).kpl 0
        have p2 := (h _ (List.getElem_mem (l := gs) (n := j + 1) (by omega))).kpl 0
        have l1 : glt gs[j] gs[j + 1] := List.pairwise_iff_getElem.mp ha j (j + 1) (by omega) (by omega) (by omega)
        simp [wipeE, i1, i2]
        rw [cop_ltD p1 p2 (by omega) (by omega), lt_key, decide_eq_true l1]
        simp
    · intro g hg
      refine ⟨_, rfl, ?_⟩
      simp [wipeE, guess_key_c]
  · intro g hg
    refine ⟨_, rfl, ?_⟩
    have := guess_form_c (fuel := fuel) n l (h g hg) st
    simp [wipeE, this]
end Pd.T
end
section
set_option Elab.async false
set_option linter.all false
set_option maxRecDepth 100000
set_option autoImplicit false
/-! Questions, events, what is heard, what is asked. -/
namespace Pd.T
open PySem
variable {fuel : Nat}
inductive Q where
  | go | hear (s : Str) (side : Option Int) | turn (k : Int) | wait (k : Int) | way (k : Int) | ground (w : Str)
def Q.parts : Q → List D
  | .go => [.str "go"]
  | .hear s side => [.str "hear", .str s, optI side]
  | .turn k => [.str "turn", .int k]
  | .wait k => [.str "wait", .int k]
  | .way k => [.str "way", .int k]
  | .ground w => [.str "ground", .str w]
def Q.mv : Q → Bool
  | .turn _ => true
  | .wait _ => true
  | _ => false
def Q.Ok : Q → Prop
  | .go => True
  | .hear s side => wordB s = true ∧ whB side = true
  | .turn k => 1 ≤ k ∧ k ≤ 7
  | .wait k => 1 ≤ k ∧ k ≤ 23
  | .way k => 0 ≤ k ∧ k ≤ 7
  | .ground w => wordB w = true
structure Ev where
  q : Q
  so : Bool
def Ev.parts (e : Ev) : List D := if e.q.mv = true then e.q.parts else e.q.parts ++ [.bl e.so]
def Ev.d (e : Ev) : D := .tup e.parts
@[simp] theorem eqS {a b : Str} {st : Store} (ha : a.cps.all (· < 0x110000) = true) (hb : b.cps.all (· < 0x110000) = true) : eqD st (.str a) (.str b) = some (decide (a = b)) := by
  rw [eqD_pl (k := 0) (j := 0) (by rw [pl_str]; exact ha) (by rw [pl_str]; exact hb) (by omega) (by omega)]
  rfl
@[simp] theorem fit_go : (("go" : Str).cps.all (· < 0x110000)) = true := by decide +kernel
@[simp] theorem fit_hear : (("hear" : Str).cps.all (· < 0x110000)) = true := by decide +kernel
@[simp] theorem fit_turn : (("turn" : Str).cps.all (· < 0x110000)) = true := by decide +kernel
@[simp] theorem fit_wait : (("wait" : Str).cps.all (· < 0x110000)) = true := by decide +kernel
@[simp] theorem fit_way : (("way" : Str).cps.all (· < 0x110000)) = true := by decide +kernel
@[simp] theorem fit_ground : (("ground" : Str).cps.all (· < 0x110000)) = true := by decide +kernel
@[simp] theorem ne_go_hear : (("go" : Str) = "hear") = False := eq_false (by decide +kernel)
@[simp] theorem ne_go_turn : (("go" : Str) = "turn") = False := eq_false (by decide +kernel)
@[simp] theorem ne_go_wait : (("go" : Str) = "wait") = False := eq_false (by decide +kernel)
@[simp] theorem ne_go_way : (("go" : Str) = "way") = False := eq_false (by decide +kernel)
@[simp] theorem ne_go_ground : (("go" : Str) = "ground") = False := eq_false (by decide +kernel)
@[simp] theorem ne_hear_go : (("hear" : Str) = "go") = False := eq_false (by decide +kernel)
@[simp] theorem ne_hear_turn : (("hear" : Str) = "turn") = False := eq_false (by decide +kernel)
@[simp] theorem ne_hear_wait : (("hear" : Str) = "wait") = False := eq_false (by decide +kernel)
@[simp] theorem ne_hear_way : (("hear" : Str) = "way") = False := eq_false (by decide +kernel)
@[simp] theorem ne_hear_ground : (("hear" : Str) = "ground") = False := eq_false (by decide +kernel)
@[simp] theorem ne_turn_go : (("turn" : Str) = "go") = False := eq_false (by decide +kernel)
@[simp] theorem ne_turn_hear : (("turn" : Str) = "hear") = False := eq_false (by decide +kernel)
@[simp] theorem ne_turn_wait : (("turn" : Str) = "wait") = False := eq_false (by decide +kernel)
@[simp] theorem ne_turn_way : (("turn" : Str) = "way") = False := eq_false (by decide +kernel)
@[simp] theorem ne_turn_ground : (("turn" : Str) = "ground") = False := eq_false (by decide +kernel)
@[simp] theorem ne_wait_go : (("wait" : Str) = "go") = False := eq_false (by decide +kernel)
@[simp] theorem ne_wait_hear : (("wait" : Str) = "hear") = False := eq_false (by decide +kernel)
@[simp] theorem ne_wait_turn : (("wait" : Str) = "turn") = False := eq_false (by decide +kernel)
@[simp] theorem ne_wait_way : (("wait" : Str) = "way") = False := eq_false (by decide +kernel)
@[simp] theorem ne_wait_ground : (("wait" : Str) = "ground") = False := eq_false (by decide +kernel)
@[simp] theorem ne_way_go : (("way" : Str) = "go") = False := eq_false (by decide +kernel)
@[simp] theorem ne_way_hear : (("way" : Str) = "hear") = False := eq_false (by decide +kernel)
@[simp] theorem ne_way_turn : (("way" : Str) = "turn") = False := eq_false (by decide +kernel)
@[simp] theorem ne_way_wait : (("way" : Str) = "wait") = False := eq_false (by decide +kernel)
@[simp] theorem ne_way_ground : (("way" : Str) = "ground") = False := eq_false (by decide +kernel)
@[simp] theorem ne_ground_go : (("ground" : Str) = "go") = False := eq_false (by decide +kernel)
@[simp] theorem ne_ground_hear : (("ground" : Str) = "hear") = False := eq_false (by decide +kernel)
@[simp] theorem ne_ground_turn : (("ground" : Str) = "turn") = False := eq_false (by decide +kernel)
@[simp] theorem ne_ground_wait : (("ground" : Str) = "wait") = False := eq_false (by decide +kernel)
@[simp] theorem ne_ground_way : (("ground" : Str) = "way") = False := eq_false (by decide +kernel)
@[simp] theorem beq_go_hear : (("go" : Str) == "hear") = false := by decide +kernel
@[simp] theorem beq_go_turn : (("go" : Str) == "turn") = false := by decide +kernel
@[simp] theorem beq_go_wait : (("go" : Str) == "wait") = false := by decide +kernel
@[simp] theorem beq_go_way : (("go" : Str) == "way") = false := by decide +kernel
@[simp] theorem beq_go_ground : (("go" : Str) == "ground") = false := by decide +kernel
@[simp] theorem beq_hear_go : (("hear" : Str) == "go") = false := by decide +kernel
@[simp] theorem beq_hear_turn : (("hear" : Str) == "turn") = false := by decide +kernel
@[simp] theorem beq_hear_wait : (("hear" : Str) == "wait") = false := by decide +kernel
@[simp] theorem beq_hear_way : (("hear" : Str) == "way") = false := by decide +kernel
@[simp] theorem beq_hear_ground : (("hear" : Str) == "ground") = false := by decide +kernel
@[simp] theorem beq_turn_go : (("turn" : Str) == "go") = false := by decide +kernel
@[simp] theorem beq_turn_hear : (("turn" : Str) == "hear") = false := by decide +kernel
@[simp] theorem beq_turn_wait : (("turn" : Str) == "wait") = false := by decide +kernel
@[simp] theorem beq_turn_way : (("turn" : Str) == "way") = false := by decide +kernel
@[simp] theorem beq_turn_ground : (("turn" : Str) == "ground") = false := by decide +kernel
@[simp] theorem beq_wait_go : (("wait" : Str) == "go") = false := by decide +kernel
@[simp] theorem beq_wait_hear : (("wait" : Str) == "hear") = false := by decide +kernel
@[simp] theorem beq_wait_turn : (("wait" : Str) == "turn") = false := by decide +kernel
@[simp] theorem beq_wait_way : (("wait" : Str) == "way") = false := by decide +kernel
@[simp] theorem beq_wait_ground : (("wait" : Str) == "ground") = false := by decide +kernel
@[simp] theorem beq_way_go : (("way" : Str) == "go") = false := by decide +kernel
@[simp] theorem beq_way_hear : (("way" : Str) == "hear") = false := by decide +kernel
@[simp] theorem beq_way_turn : (("way" : Str) == "turn") = false := by decide +kernel
@[simp] theorem beq_way_wait : (("way" : Str) == "wait") = false := by decide +kernel
@[simp] theorem beq_way_ground : (("way" : Str) == "ground") = false := by decide +kernel
@[simp] theorem beq_ground_go : (("ground" : Str) == "go") = false := by decide +kernel
@[simp] theorem beq_ground_hear : (("ground" : Str) == "hear") = false := by decide +kernel
@[simp] theorem beq_ground_turn : (("ground" : Str) == "turn") = false := by decide +kernel
@[simp] theorem beq_ground_wait : (("ground" : Str) == "wait") = false := by decide +kernel
@[simp] theorem beq_ground_way : (("ground" : Str) == "way") = false := by decide +kernel
theorem memD_tup {st : Store} {a : D} {ds : List D} (ha : a.fit 60 = true) (h : fits ds 60 = true) : memD st a (.tup ds) = some (ds.any fun d => d.eq a) := by
  unfold memD
  simp [ha, h]
theorem is_move_c (n : Nat) (q : Q) (r : List D) (st : Store) : callG (run fs fuel (n + 1)) st ix_is_move [.tup (q.parts ++ r)] st = .ok (.bl q.mv) st := by
  rw [callG, run_is_move, runFd_eq rfl]
  have hm (x : Str) (hx : x.cps.all (· < 0x110000) = true) : memD st (.str x) (.tup [.str "turn", .str "wait"]) = some (([.str "turn", .str "wait"] : List D).any fun d => d.eq (.str x)) := memD_tup hx (by decide +kernel)
  cases q <;> simp [F_is_move, B_is_move, startE, hm, D.eq, Q.parts, Q.mv]
theorem question_form_c (n : Nat) {q : Q} (h : q.Ok) (st : Store) : callG (run fs fuel (n + 5)) st ix_question_form [.tup q.parts] st = .ok (.bl true) st := by
  rw [callG, run_question_form, runFd_eq rfl]
  cases q with
  | go => simp [F_question_form, B_question_form, startE, Q.parts, tyB]
  | hear s side => simp [F_question_form, B_question_form, startE, Q.parts, tyB, is_word_s _ _ h.1, is_whence_i, h.2]
  | turn k => simp [F_question_form, B_question_form, startE, Q.parts, tyB, is_number_i, h.1, h.2]
  | wait k => simp [F_question_form, B_question_form, startE, Q.parts, tyB, is_number_i, h.1, h.2]
  | way k => simp [F_question_form, B_question_form, startE, Q.parts, tyB, is_direction_i, h.1, h.2]
  | ground w => simp [F_question_form, B_question_form, startE, Q.parts, tyB, is_word_s _ _ (show wordB w = true from h)]
/-- an answered question is none itself -/
theorem question_form_so (n : Nat) {q : Q} (h : q.Ok) (hm : q.mv = false) (b : Bool) (st : Store) : callG (run fs fuel (n + 5)) st ix_question_form [.tup (q.parts ++ [.bl b])] st = .ok (.bl false) st := by
  rw [callG, run_question_form, runFd_eq rfl]
  cases q with
  | go => simp [F_question_form, B_question_form, startE, Q.parts, tyB]
  | hear s side => simp [F_question_form, B_question_form, startE, Q.parts, tyB]
  | turn k => cases hm
  | wait k => cases hm
  | way k => simp [F_question_form, B_question_form, startE, Q.parts, tyB]
  | ground w => simp [F_question_form, B_question_form, startE, Q.parts, tyB]
theorem parts_ne (q : Q) : ¬ (q.parts.length = 0) := by cases q <;> simp [Q.parts]
theorem Ev.d_mv {e : Ev} (h : e.q.mv = true) : e.d = .tup e.q.parts := by simp [Ev.d, Ev.parts, h]
theorem Ev.d_so {e : Ev} (h : e.q.mv = false) : e.d = .tup (e.q.parts ++ [.bl e.so]) := by simp [Ev.d, Ev.parts, h]
theorem is_move_e (n : Nat) (e : Ev) (st : Store) : callG (run fs fuel (n + 1)) st ix_is_move [e.d] st = .ok (.bl e.q.mv) st := by
  cases h : e.q.mv with
  | true =>
    have := is_move_c (fuel := fuel) n e.q [] st
    rw [List.append_nil] at this
    rw [e.d_mv h, this, h]
  | false => rw [e.d_so h, is_move_c, h]
theorem event_form_c (n : Nat) {e : Ev} (h : e.q.Ok) (st : Store) : callG (run fs fuel (n + 6)) st ix_event_form [e.d] st = .ok (.bl true) st := by
  have h1 := is_move_e (fuel := fuel) (n + 4) e st
  rw [callG, run_event_form, runFd_eq rfl]
  cases hm : e.q.mv with
  | true =>
    rw [e.d_mv hm] at h1 ⊢
    have ne : ¬ e.q.parts = [] := by cases e.q <;> simp [Q.parts]
    have h2 := question_form_c (fuel := fuel) n h st
    simp [F_event_form, B_event_form, startE, tyB, h1, hm, h2, ne]
  | false =>
    rw [e.d_so hm] at h1 ⊢
    have h2 := question_form_so (fuel := fuel) n h hm e.so st
    have h3 := question_form_c (fuel := fuel) n h st
    have ne : ¬ ((e.q.parts.length : Int) + 1 = 0) := by omega
    simp [F_event_form, B_event_form, startE, tyB, h1, hm, h2, h3, ne, atI_last, cut_last]
theorem Ev.pl {e : Ev} (h : e.q.Ok) (k : Nat) : e.d.pl (k + 1) = true := by
  obtain ⟨q, so⟩ := e
  cases q with
  | go => simp [Ev.d, Ev.parts, Q.mv, Q.parts]
  | hear s side => have := wordB_fit h.1; simp at this; simp [Ev.d, Ev.parts, Q.mv, Q.parts]; exact this
  | turn k => simp [Ev.d, Ev.parts, Q.mv, Q.parts]
  | wait k => simp [Ev.d, Ev.parts, Q.mv, Q.parts]
  | way k => simp [Ev.d, Ev.parts, Q.mv, Q.parts]
  | ground w => have := wordB_fit h; simp at this; simp [Ev.d, Ev.parts, Q.mv, Q.parts]; exact this
theorem record_form_c (n : Nat) {es : List Ev} (h : ∀ e ∈ es, e.q.Ok) (hl : es.length ≤ 60) (st : Store) : callG (run fs fuel (n + 7)) st ix_record_form [.tup (es.map Ev.d)] st = .ok (.bl true) st := by
  have e1 : (es.length : Int) ≤ 60 := by omega
  rw [callG, run_record_form, runFd_eq rfl]
  simp [F_record_form, B_record_form, startE, tyB, e1]
  rw [bfnC_allA (w := ⟨es.map Ev.d, none⟩) es Ev.d (fun _ => true) (by simp) rfl rfl (by unfold LIM; omega)]
  · simp
  · intro e he
    refine ⟨_, rfl, ?_⟩
    simp [wipeE, event_form_c n (h e he)]
theorem record_plain (n : Nat) {es : List Ev} (h : ∀ e ∈ es, e.q.Ok) (hl : es.length ≤ 60) (st : Store) : callG (run fs fuel (n + 3)) st ix_plain_of [.tup (es.map Ev.d)] st = .ok (.tup (es.map Ev.d)) st :=
  plain_of_pl (fuel := fuel) 2 n _ st (by simp; exact ⟨by omega, pls_map fun g hg => Ev.pl (h g hg) 0⟩)
end Pd.T
end
section
set_option Elab.async false
set_option linter.all false
set_option maxRecDepth 100000
set_option autoImplicit false
/-! What a land has; the asker. -/
namespace Pd.T
open PySem
variable {fuel : Nat}
def spotAt (L : Land) (s : Int) : Spot := (L.spots[s.toNat]?).getD ⟨[], []⟩
def way (L : Land) (s f : Int) : Option Psg := ((spotAt L s).ways[f.toNat]?).join
def heardL (L : Land) (s h : Int) : List Hr := (spotAt L s).hears.filter fun r => decide (r.first ≤ h) && decide (h < r.last)
theorem spotAt_mem {L : Land} {s : Int} (h0 : 0 ≤ s) (h1 : s < L.spots.length) : L.spots[s.toNat]? = some (spotAt L s) ∧ spotAt L s ∈ L.spots := by
  have h : s.toNat < L.spots.length := by omega
  unfold spotAt
  rw [List.getElem?_eq_getElem h]
  exact ⟨rfl, List.getElem_mem h⟩
theorem way_ok {L : Land} (hL : L.Ok) {s f : Int} (h0 : 0 ≤ s) (h1 : s < L.spots.length) {p : Psg} (h : way L s f = some p) : Psg.Ok L.spots.length p := by
  have hs := hL.ss _ (spotAt_mem h0 h1).2
  unfold way at h
  cases e : (spotAt L s).ways[f.toNat]? with
  | none => rw [e] at h; cases h
  | some o =>
    rw [e] at h
    cases o with
    | none => cases h
    | some q =>
      cases h
      exact hs.ws _ (List.mem_of_getElem? e)
theorem way_at {L : Land} (hL : L.Ok) {s f : Int} (h0 : 0 ≤ s) (h1 : s < L.spots.length) (f0 : 0 ≤ f) (f1 : f < 8) : (spotAt L s).ways[f.toNat]? = some (way L s f) := by
  have hs := (hL.ss _ (spotAt_mem h0 h1).2).w8
  have h : f.toNat < (spotAt L s).ways.length := by omega
  unfold way
  rw [List.getElem?_eq_getElem h]
  rfl
theorem idx_spot {L : Land} {s : Int} (h0 : 0 ≤ s) (h1 : s < L.spots.length) : atI (L.spots.map Spot.d) s = some (spotAt L s).d := by
  rw [atI_nn h0, List.getElem?_map, (spotAt_mem h0 h1).1]
  rfl
theorem idx_way {L : Land} (hL : L.Ok) {s f : Int} (h0 : 0 ≤ s) (h1 : s < L.spots.length) (f0 : 0 ≤ f) (f1 : f < 8) : atI ((spotAt L s).ways.map wayD) f = some (wayD (way L s f)) := by
  rw [atI_nn f0, List.getElem?_map, way_at hL h0 h1 f0 f1]
  rfl
@[simp] theorem wayD_isNon (w : Option Psg) : (wayD w).isNon = w.isNone := by cases w <;> rfl
@[simp] theorem wayD_under (w : Option Psg) (n : Nat) : (wayD w).under n = true := by cases w <;> simp [wayD, Psg.d]
@[simp] theorem Hr.under (h : Hr) (n : Nat) : h.d.under n = true := by simp [Hr.d]
@[simp] theorem Dg.under (h : Dg) (n : Nat) : h.d.under n = true := by simp [Dg.d]
@[simp] theorem Spot.under (s : Spot) (n : Nat) : s.d.under n = true := by
  simp [Spot.d]
  exact ⟨unders_map fun w _ => wayD_under w n, unders_map fun w _ => w.under n⟩
theorem Land.under (l : Land) (n : Nat) : l.d.under n = true := by
  simp [Land.d]
  exact ⟨unders_map fun w _ => w.under n, unders_map fun w _ => w.under n⟩
theorem passage_at_c (n : Nat) {L : Land} (hL : L.Ok) {s f : Int} (h0 : 0 ≤ s) (h1 : s < L.spots.length) (f0 : 0 ≤ f) (f1 : f < 8) (st : Store) : callG (run fs fuel (n + 1)) st ix_passage_at [L.d, .int s, .int f] st = .ok (wayD (way L s f)) st := by
  rw [callG, run_passage_at, runFd_eq rfl]
  simp [F_passage_at, B_passage_at, startE, Land.d, idx_spot h0 h1, Spot.d, idx_way hL h0 h1 f0 f1]
theorem hearings_at_c (n : Nat) {L : Land} {s : Int} (h0 : 0 ≤ s) (h1 : s < L.spots.length) (st : Store) : callG (run fs fuel (n + 1)) st ix_hearings_at [L.d, .int s] st = .ok (.tup ((spotAt L s).hears.map Hr.d)) st := by
  rw [callG, run_hearings_at, runFd_eq rfl]
  simp [F_hearings_at, B_hearings_at, startE, Land.d, idx_spot h0 h1, Spot.d]
  rw [gc_same]
  rw [under_tup]
  exact unders_map fun h _ => h.under _
def hsD (r : Hr) : D := .tup [.str r.sign, optI r.whence]
theorem heard_at_c (n : Nat) {L : Land} (hL : L.Ok) {s h : Int} (h0 : 0 ≤ s) (h1 : s < L.spots.length) (st : Store) : callG (run fs fuel (n + 1)) st ix_heard_at [L.d, .int s, .int h] st = .ok (.tup ((heardL L s h).map hsD)) st := by
  rw [callG, run_heard_at, runFd_eq rfl]
  have hl := (hL.ss _ (spotAt_mem h0 h1).2).h12
  simp [F_heard_at, B_heard_at, startE]
  rw [bfnC_tup (w := ⟨(spotAt L s).hears.map Hr.d, none⟩) (spotAt L s).hears Hr.d (fun r => decide (r.first ≤ h) && decide (h < r.last)) hsD (by simp [Land.d, idx_spot h0 h1, Spot.d]) rfl rfl (by unfold LIM; omega)]
  · have : unders ((heardL L s h).map hsD) st.length = true := unders_map fun h _ => by simp [hsD]
    unfold heardL at this ⊢
    simp [this]
  · intro r hr
    refine ⟨_, rfl, ?_⟩
    constructor
    · simp [wipeE, Hr.d]
    · simp [wipeE, Hr.d, hsD, cut_to]
  · intro x _ _
    simp [hsD]
theorem turned_by_c (n : Nat) (a b : Int) (st : Store) : callG (run fs fuel (n + 1)) st ix_turned_by [.int a, .int b] st = .ok (.int ((a + b) % 8)) st := by
  rw [callG, run_turned_by, runFd_eq rfl]
  simp [F_turned_by, B_turned_by, startE, bop_mod]
end Pd.T
end
section
set_option Elab.async false
set_option linter.all false
set_option maxRecDepth 100000
set_option autoImplicit false
/-! The asker is made. -/
namespace Pd.T
open PySem
variable {fuel : Nat}
def askFs (L : Land) (a : Nat) : List (Str × D) := [("country", L.d), ("signs", .ref (a + 1)), ("grounds", .ref (a + 2)), ("known_ears", .ref (a + 3))]
@[simp] theorem ne_country_signs : (("country" : Str) = "signs") = False := eq_false (by decide +kernel)
@[simp] theorem ne_country_grounds : (("country" : Str) = "grounds") = False := eq_false (by decide +kernel)
@[simp] theorem ne_country_known_ears : (("country" : Str) = "known_ears") = False := eq_false (by decide +kernel)
@[simp] theorem ne_signs_grounds : (("signs" : Str) = "grounds") = False := eq_false (by decide +kernel)
@[simp] theorem ne_signs_known_ears : (("signs" : Str) = "known_ears") = False := eq_false (by decide +kernel)
@[simp] theorem ne_grounds_known_ears : (("grounds" : Str) = "known_ears") = False := eq_false (by decide +kernel)
@[simp] theorem look_country (L : Land) (a : Nat) : lookF "country" (askFs L a) = some L.d := by simp [lookF, askFs]
@[simp] theorem look_signs (L : Land) (a : Nat) : lookF "signs" (askFs L a) = some (.ref (a + 1)) := by simp [lookF, askFs]
@[simp] theorem look_grounds (L : Land) (a : Nat) : lookF "grounds" (askFs L a) = some (.ref (a + 2)) := by simp [lookF, askFs]
@[simp] theorem look_ears (L : Land) (a : Nat) : lookF "known_ears" (askFs L a) = some (.ref (a + 3)) := by simp [lookF, askFs]
@[simp] theorem no_ahead (L : Land) (a : Nat) : noneF "ahead" (askFs L a) = true := Eq.trans rfl rfl
@[simp] theorem no_ears (L : Land) (a : Nat) : noneF "ears" (askFs L a) = true := Eq.trans rfl rfl
@[simp] theorem no_answer (L : Land) (a : Nat) : noneF "answer" (askFs L a) = true := Eq.trans rfl rfl
@[simp] theorem no_behind (L : Land) (a : Nat) : noneF "behind" (askFs L a) = true := Eq.trans rfl rfl
@[simp] theorem no_behind_record (L : Land) (a : Nat) : noneF "behind_record" (askFs L a) = true := Eq.trans rfl rfl
/-- the four cells of an asker -/
def askCells (L : Land) (a : Nat) (ks kg ke : List (D × D)) : Store := [.ins 0 (askFs L a), .dct ks, .dct kg, .dct ke]
def Scal (kvs : List (D × D)) : Prop := ∀ p ∈ kvs, p.1.scal = true
theorem Scal.put {kvs : List (D × D)} {k v : D} (h : Scal kvs) (hk : k.scal = true) : Scal (dput kvs k v) := fun p hp => by
  rcases dput_key hp with ⟨q, hq, e⟩ | e
  · rw [e]; exact h q hq
  · rw [e]; exact hk
theorem ask_get (L : Land) (st : Store) (ks kg ke : List (D × D)) (i : Nat) : (st ++ askCells L st.length ks kg ke)[st.length + i]? = (askCells L st.length ks kg ke)[i]? := by
  rw [List.getElem?_append_right (by omega)]
  congr 1
  omega
theorem ask_set (L : Land) (st : Store) (ks kg ke : List (D × D)) (i : Nat) (c : Cell) : (st ++ askCells L st.length ks kg ke).set (st.length + i) c = st ++ (askCells L st.length ks kg ke).set i c := by
  rw [List.set_append_right _ _ (by omega)]
  congr 2
  omega
theorem ask_ins (L : Land) (st : Store) (ks kg ke : List (D × D)) : insOf 0 (.ref st.length) (st ++ askCells L st.length ks kg ke) = some (askFs L st.length) := insOf_ok (ask_get L st ks kg ke 0)
theorem init_loop2 (n : Nat) (L : Land) (st : Store) (hs : List Hr) (kg : List (D × D)) (e2 e4 e5 : Option D) (ks : List (D × D)) (h1 : Scal ks) (h2 : ks.length + hs.length < LIM) :
    ∃ env2 ks', forLoop (.one 3) ⟨hs.map Hr.d, none⟩ (denSs (run fs fuel n) fuel LB_Asker_init_2) [3] (hs.map Hr.d) [some (.ref st.length), some L.d, e2, none, e4, e5] (st ++ askCells L st.length ks kg []) = .nx env2 (st ++ askCells L st.length ks' kg []) ∧ env2 = [some (.ref st.length), some L.d, e2, none, e4, e5] ∧ Scal ks' ∧ ks'.length ≤ ks.length + hs.length := by
  obtain ⟨env2, st2, e, hI⟩ := forLoop_nx Hr.d (tg := .one 3) (w := ⟨hs.map Hr.d, none⟩) (body := denSs (run fs fuel n) fuel LB_Asker_init_2) (fg := [3])
    (I := fun rest env s => ∃ x ks', env = [some (.ref st.length), some L.d, e2, x, e4, e5] ∧ s = st ++ askCells L st.length ks' kg [] ∧ Scal ks' ∧ ks'.length + rest.length ≤ ks.length + hs.length)
    (fun _ _ _ _ => rfl) (fun x rest env s ⟨y, ks', e1, e3, h3, h4⟩ => by
      subst e1 e3
      simp only [List.length_cons] at h4
      refine ⟨_, rfl, [some (.ref st.length), some L.d, e2, some x.d, e4, e5], _, .inl ?_, some x.d, dput ks' (.str x.sign) (.bl true), rfl, rfl, h3.put rfl, by have := dput_len ks' (.str x.sign) (.bl true); omega⟩
      simp [LB_Asker_init_2, wipeE, ask_ins]
      rw [show x.d = .tup [.str x.sign, optI x.whence, .int x.first, .int x.last] from rfl]
      simp
      rw [putD_dct (ask_get L st ks' kg [] 1) (likeK_keys_scal h3 rfl) (by omega), ask_set]
      rfl) hs _ (st ++ askCells L st.length ks kg []) ⟨none, ks, rfl, rfl, h1, by omega⟩
  obtain ⟨x, ks', e1, e3, h3, h4⟩ := hI
  subst e1 e3
  simp at h4
  exact ⟨_, ks', e, by simp [wipeE], h3, h4⟩
theorem init_loop3 (n : Nat) {L : Land} (hL : L.Ok) (st : Store) (s : Int) (h0 : 0 ≤ s) (h1 : s < L.spots.length) (ks : List (D × D)) (e3 : Option D) (kg : List (D × D)) (g1 : Scal kg) (g2 : kg.length + 8 < LIM) :
    ∃ env2 kg', forLoop (.one 4) (rngW 8) (denSs (run fs fuel (n + 1)) fuel LB_Asker_init_3) [4, 5] ((List.range 8).map encN) [some (.ref st.length), some L.d, some (.int s), e3, none, none] (st ++ askCells L st.length ks kg []) = .nx env2 (st ++ askCells L st.length ks kg' []) ∧ env2 = [some (.ref st.length), some L.d, some (.int s), e3, none, none] ∧ Scal kg' ∧ kg'.length ≤ kg.length + 8 := by
  obtain ⟨env2, st2, e, hI⟩ := forLoop_nx encN (tg := .one 4) (w := (rngW 8)) (body := denSs (run fs fuel (n + 1)) fuel LB_Asker_init_3) (fg := [4, 5])
    (I := fun rest env s' => ∃ x y kg', env = [some (.ref st.length), some L.d, some (.int s), e3, x, y] ∧ s' = st ++ askCells L st.length ks kg' [] ∧ Scal kg' ∧ kg'.length + rest.length ≤ kg.length + 8 ∧ ∀ k ∈ rest, k < 8)
    (fun _ _ _ _ => rfl) (fun x rest env s' ⟨y, z, kg', e1, e3, h3, h4, h5⟩ => by
      subst e1 e3
      simp only [List.length_cons] at h4
      have hx := h5 x List.mem_cons_self
      have hp := passage_at_c (fuel := fuel) n hL h0 h1 (f := (x : Int)) (by omega) (by omega) (st ++ askCells L st.length ks kg' [])
      refine ⟨_, rfl, ?_⟩
      cases hw : way L s x with
      | none =>
        refine ⟨[some (.ref st.length), some L.d, some (.int s), e3, some (.int (x : Int)), some .non], _, .inl ?_, _, _, kg', rfl, rfl, h3, by omega, fun k hk => h5 k (List.mem_cons_of_mem _ hk)⟩
        simp [LB_Asker_init_3, wipeE, hp, hw]
        rfl
      | some p =>
        refine ⟨[some (.ref st.length), some L.d, some (.int s), e3, some (.int (x : Int)), some p.d], _, .inl ?_, _, _, dput kg' (.str p.ground) (.bl true), rfl, rfl, h3.put rfl, by have := dput_len kg' (.str p.ground) (.bl true); omega, fun k hk => h5 k (List.mem_cons_of_mem _ hk)⟩
        simp [LB_Asker_init_3, wipeE, hp, hw, ask_ins]
        rw [show wayD (some p) = .tup [.int p.to, .int p.out, .str p.ground] from rfl]
        simp
        rw [putD_dct (ask_get L st ks kg' [] 2) (likeK_keys_scal h3 rfl) (by omega), ask_set]
        rfl) (List.range 8) [some (.ref st.length), some L.d, some (.int s), e3, none, none] (st ++ askCells L st.length ks kg []) ⟨none, none, kg, rfl, rfl, g1, by simp, fun k hk => List.mem_range.mp hk⟩
  obtain ⟨x, y, kg', e1, e3, h3, h4, _⟩ := hI
  subst e1 e3
  simp at h4
  exact ⟨_, kg', e, by simp [wipeE], h3, h4⟩
theorem init_loop1 (n : Nat) {L : Land} (hL : L.Ok) (st : Store) : ∃ env2 ks kg, forLoop (.one 2) (rngW L.spots.length) (denSs (run fs fuel (n + 2)) fuel LB_Asker_init_1) [2, 3, 4, 5] ((List.range L.spots.length).map encN) [some (.ref st.length), some L.d, none, none, none, none] (st ++ askCells L st.length [] [] []) = .nx env2 (st ++ askCells L st.length ks kg []) := by
  have n12 := hL.n12
  obtain ⟨env2, st2, e, hI⟩ := forLoop_nx encN (tg := .one 2) (w := (rngW L.spots.length)) (body := denSs (run fs fuel (n + 2)) fuel LB_Asker_init_1) (fg := [2, 3, 4, 5])
    (I := fun rest env s' => ∃ x2 x3 x4 x5 ks kg, env = [some (.ref st.length), some L.d, x2, x3, x4, x5] ∧ s' = st ++ askCells L st.length ks kg [] ∧ Scal ks ∧ Scal kg ∧ ks.length + 12 * rest.length ≤ 144 ∧ kg.length + 8 * rest.length ≤ 96 ∧ ∀ k ∈ rest, k < L.spots.length)
    (fun _ _ _ _ => rfl) (fun x rest env s' ⟨x2, x3, x4, x5, ks, kg, e1, e3, h3, h4, h5, h6, h7⟩ => by
      subst e1 e3
      simp only [List.length_cons] at h5 h6
      have hx := h7 x List.mem_cons_self
      have x0 : (0 : Int) ≤ (x : Int) := by omega
      have x1 : (x : Int) < L.spots.length := by omega
      have hh := (hL.ss _ (spotAt_mem x0 x1).2).h12
      obtain ⟨env2, ks', l2, v2, c1, c2⟩ := init_loop2 (fuel := fuel) (n + 2) L st (spotAt L x).hears kg (some (.int (x : Int))) none none ks h3 (by unfold LIM; omega)
      obtain ⟨env3, kg', l3, v3, d1, d2⟩ := init_loop3 (fuel := fuel) (n + 1) hL st x x0 x1 ks' none kg h4 (by unfold LIM; omega)
      subst v2 v3
      refine ⟨_, rfl, [some (.ref st.length), some L.d, some (.int (x : Int)), none, none, none], _, .inl ?_, _, _, _, _, ks', kg', rfl, rfl, c1, d1, by omega, by omega, fun k hk => h7 k (List.mem_cons_of_mem _ hk)⟩
      have hp := hearings_at_c (fuel := fuel) (n + 1) x0 x1 (st ++ askCells L st.length ks kg [])
      simp only [LB_Asker_init_1, ev_cons, ev_loop]
      simp [wipeE, hp, encN]
      rw [l2]
      simp
      rw [l3]
      simp) (List.range L.spots.length) [some (.ref st.length), some L.d, none, none, none, none] (st ++ askCells L st.length [] [] []) ⟨_, _, _, _, [], [], rfl, rfl, by simp [Scal], by simp [Scal], by simp; omega, by simp; omega, fun k hk => List.mem_range.mp hk⟩
  obtain ⟨x2, x3, x4, x5, ks, kg, e1, e3, _⟩ := hI
  rw [e3] at e
  exact ⟨_, ks, kg, e⟩
theorem init_r (n : Nat) {L : Land} (hL : L.Ok) (st : Store) : ∃ ks kg, run fs fuel (n + 3) ix_Asker_init [.ref st.length, L.d] (st ++ [.ins 0 []]) = .ok .non (st ++ askCells L st.length ks kg []) := by
  have n12 := hL.n12
  obtain ⟨env2, ks, kg, e⟩ := init_loop1 (fuel := fuel) n hL st
  refine ⟨ks, kg, ?_⟩
  rw [run_Asker_init, runFd_eq rfl]
  have ms := many_spots_c (fuel := fuel) (n + 1) L (st ++ askCells L st.length [] [] [])
  have hr : rngItems 0 L.spots.length = some (rngW L.spots.length) := rngN (by omega)
  have s0 (c : Cell) (M : Store) : (st ++ c :: M)[st.length]? = some c := by simp
  have q (c c' : Cell) (M : Store) : (st ++ c :: M).set st.length c' = st ++ c' :: M := set_end c c' M
  simp [F_Asker_init, B_Asker_init, startE, setfD_ok (s0 _ _), q, putFD, ev_loop]
  simp only [askCells, askFs] at ms e
  simp [ms, hr, e, askCells, askFs]
/-- Asker(land) -/
theorem mk_asker (n : Nat) {L : Land} (hL : L.Ok) (st : Store) : ∃ ks kg, mkR (run fs fuel (n + 3) ix_Asker_init [.ref st.length, L.d] (st ++ [.ins 0 []])) st st.length = .ok (.ref st.length) (st ++ askCells L st.length ks kg []) := by
  obtain ⟨ks, kg, e⟩ := init_r (fuel := fuel) n hL st
  refine ⟨ks, kg, ?_⟩
  rw [mkR_ok e]
  refine gc_keep ?_
  simp [Cell.under, askFs, D.under]
end Pd.T
end
section
set_option Elab.async false
set_option linter.all false
set_option maxRecDepth 100000
set_option autoImplicit false
/-! What the asker answers. -/
namespace Pd.T
open PySem
variable {fuel : Nat}
theorem ahead_m (n : Nat) {L : Land} (hL : L.Ok) {a : Nat} {S : Store} (hI : S[a]? = some (.ins 0 (askFs L a))) {g : Gs} (hg : Gs.Ok L.spots.length g) (side : Int) : callM (run fs fuel (n + 2)) S ix_Asker_ahead [.ref a, g.d, .int side] S = .ok (wayD (way L g.spot ((g.face + side) % 8))) S := by
  have hp := passage_at_c (fuel := fuel) n hL hg.s0 hg.s1 (f := (g.face + side) % 8) (by omega) (by omega) S
  have e : run fs fuel (n + 2) ix_Asker_ahead [.ref a, g.d, .int side] S = .ok (wayD (way L g.spot ((g.face + side) % 8))) S := by
    rw [run_Asker_ahead, runFd_eq rfl]
    simp [F_Asker_ahead, B_Asker_ahead, startE, insOf_ok hI, Gs.d, turned_by_c, hp]
  rw [callM_ok e, gc_same (wayD_under _ _)]
def earD (p : Str × Int) : D := .tup [.str p.1, .int p.2]
def earsOf (f : Int) (r : Hr) : List (Str × Int) := (r.sign, -1) :: match r.whence with
  | none => []
  | some w => [(r.sign, (w - f) % 8)]
def EarRows (L : Land) (s f h : Int) (rows : List D) : Prop := (∀ r ∈ rows, ∃ p : Str × Int, r = earD p ∧ wordB p.1 = true) ∧ ∀ p, earD p ∈ rows ↔ p ∈ (heardL L s h).flatMap (earsOf f)
def EarsOk (L : Land) (ke : List (D × D)) : Prop := ∀ p ∈ ke, ∃ s f h : Int, p.1 = .tup [.int s, .int f, .int h] ∧ ∃ rows, p.2 = .tup rows ∧ EarRows L s f h rows
theorem EarsOk.keys {L : Land} {ke : List (D × D)} (h : EarsOk L ke) : ∀ p ∈ ke, p.1.tupK = true := fun p hp => by
  obtain ⟨s, f, h, e, _⟩ := h p hp
  rw [e]
  rfl
theorem EarRows.under {L : Land} {s f h : Int} {rows : List D} (hr : EarRows L s f h rows) (n : Nat) : unders rows n = true := undersAll fun d hd => by
  obtain ⟨p, e, _⟩ := hr.1 d hd
  rw [e]
  simp [earD]
theorem EarsOk.under {L : Land} {ke : List (D × D)} (h : EarsOk L ke) (n : Nat) : Cell.under (.dct ke) n = true := by
  unfold Cell.under
  rw [List.all_eq_true]
  intro p hp
  obtain ⟨s, f, t, e, rows, e2, hr⟩ := h p hp
  rw [e, e2]
  simp [hr.under]
theorem set_same {S : Store} {i : Nat} {c : Cell} (h : S[i]? = some c) : S.set i c = S := by
  obtain ⟨h1, h2⟩ := List.getElem?_eq_some_iff.mp h
  rw [← h2, List.set_getElem_self]
theorem earD_inj {p q : Str × Int} (h : earD p = earD q) : p = q := by
  cases p; cases q
  simp [earD] at h
  simp [h]
theorem dlook_end {ke : List (D × D)} {k v : D} (hk : k.nob = true) (h : dlook ke k = none) : dlook (ke ++ [(k, v)]) k = some v := by
  have h0 := dlook_none h
  unfold dlook
  rw [List.find?_append]
  have : ke.find? (fun p => p.1.eq k) = none := by
    rw [List.find?_eq_none]
    intro p hp
    exact (List.any_eq_false.mp h0) p hp
  rw [this]
  simp [nob_eq k hk]
/-- tuple(sorted(set(xs))) -/
theorem tss {S : Store} {r : Nat} {ds es : List D} (hr : S[r]? = some (.lst ds)) (hs : setOfL [] ds = some es) (ho : sortable es = true) (hu : unders es S.length = true) :
    ((((bfnG .set S [.ref r] S).bind fun d st => R.ok [d] st).bind fun ds st1 => bfnG .sorted S ds st1).bind fun d st => R.ok [d] st).bind (fun ds st1 => bfnG .tuple S ds st1) = .ok (.tup (sortK es es)) S := by
  have hu2 : unders (sortK es es) S.length = true := by
    obtain ⟨l, e, hp⟩ := sortK_self (ks := es)
    rw [e]
    refine undersAll fun d hd => ?_
    have : d ∈ es := hp.mem_iff.mp hd
    clear hs ho e hp hd
    induction es with
    | nil => cases this
    | cons x xs ih =>
      rw [unders_cons, Bool.and_eq_true] at hu
      rcases List.mem_cons.mp this with h | h
      · rw [h]; exact hu.1
      · exact ih hu.2 h
  rw [bfnG_set hr hs, gc_new0 (c := .set es) (by simpa using hu)]
  simp only [R.bind_ok]
  rw [bfnG_sortedS (es := es) (by simp) ho]
  rw [List.length_append, List.append_assoc]
  simp only [List.cons_append, List.nil_append, List.length_cons, List.length_nil, Nat.zero_add]
  rw [gc_new1 (c := .lst (sortK es es)) (by simpa using hu2)]
  simp only [R.bind_ok]
  rw [bfnG_tupl (ds := sortK es es) (by simp), gc_app (d := .tup (sortK es es)) (by simpa using hu2)]
theorem fit_of_word {s : Str} (h : wordB s = true) : (D.str s).fit 60 = true := pl_fit60 (k := 0) (wordB_fit h) (by omega)
theorem ears_sortable {rows : List D} (h : ∀ r ∈ rows, ∃ p : Str × Int, r = earD p ∧ wordB p.1 = true) : sortable rows = true := by
  unfold sortable
  rw [Bool.and_eq_true, Bool.or_eq_true]
  refine ⟨.inl (List.all_eq_true.mpr fun r hr => ?_), List.all_eq_true.mpr fun r hr => ?_⟩
  · obtain ⟨p, e, _⟩ := h r hr
    rw [e]
    rfl
  · obtain ⟨p, e, hw⟩ := h r hr
    rw [Bool.and_eq_true]
    refine ⟨?_, List.all_eq_true.mpr fun q hq => ?_⟩
    · rw [e]
      have := wordB_fit hw
      exact pl_fit60 (k := 1) (by simp [earD] at this ⊢; exact this) (by omega)
    · obtain ⟨q', e', _⟩ := h q hq
      rw [e, e']
      rfl
theorem ears_loop (n : Nat) (L : Land) (a : Nat) (g : Gs) (S : Store) (e2 : Option D) :
    ∀ (hs : List Hr) (acc : List (Str × Int)) (x4 x5 : Option D), acc.length + 2 * hs.length ≤ 60 →
    ∃ env2, forLoop (.many [4, 5]) ⟨(heardL L g.spot g.hour).map hsD, none⟩ (denSs (run fs fuel n) fuel LB_Asker_ears_1) [4, 5] (hs.map hsD) [some (.ref a), some g.d, e2, some (.ref S.length), x4, x5] (S ++ [.lst (acc.map earD)]) = .nx env2 (S ++ [.lst ((acc ++ hs.flatMap (earsOf g.face)).map earD)]) ∧ env2 = [some (.ref a), some g.d, e2, some (.ref S.length), none, none]
  | [], acc, x4, x5, _ => ⟨_, by simp [forLoop, srcOk_none, wipeE], rfl⟩
  | r :: hs, acc, x4, x5, hl => by
    simp only [List.length_cons] at hl
    have rd : hsD r = .tup [.str r.sign, optI r.whence] := rfl
    obtain ⟨x4', x5', hb⟩ : ∃ x4' x5', denSs (run fs fuel n) fuel LB_Asker_ears_1 [some (.ref a), some g.d, e2, some (.ref S.length), some (.str r.sign), some (optI r.whence)] (S ++ [.lst (acc.map earD)]) = .nx [some (.ref a), some g.d, e2, some (.ref S.length), x4', x5'] (S ++ [.lst ((acc ++ earsOf g.face r).map earD)]) := by
      refine ⟨some (.str r.sign), some (optI r.whence), ?_⟩
      cases hw : r.whence with
      | none =>
        simp [LB_Asker_ears_1, optI, hw]
        rw [appR_ok (ds := acc.map earD) (by simp)]
        simp
        rw [appD_ok (ds := acc.map earD) (by simp) (by unfold LIM; simp; omega)]
        simp [set_end, earsOf, hw, earD]
      | some w =>
        simp [LB_Asker_ears_1, optI, hw]
        rw [appR_ok (ds := acc.map earD) (by simp)]
        simp
        rw [appD_ok (ds := acc.map earD) (by simp) (by unfold LIM; simp; omega)]
        simp [set_end]
        rw [appR_ok (ds := acc.map earD ++ [.tup [.str r.sign, .int (-1)]]) (by simp)]
        simp [Gs.d, bop_mod]
        rw [appD_ok (ds := acc.map earD ++ [.tup [.str r.sign, .int (-1)]]) (by simp) (by unfold LIM; simp; omega)]
        simp [set_end, earsOf, hw, earD]
    have := ears_loop n L a g S e2 hs (acc ++ earsOf g.face r) x4' x5' (by
      have : (earsOf g.face r).length ≤ 2 := by unfold earsOf; cases r.whence <;> simp
      simp; omega)
    obtain ⟨env2, h1, h2⟩ := this
    refine ⟨env2, ?_, h2⟩
    simp only [List.map_cons, forLoop, srcOk_none, if_true, rd, assignTg]
    simp [wipeE, setMany, hb]
    simpa using h1
theorem earsOf_word {f : Int} {r : Hr} (h : wordB r.sign = true) {p : Str × Int} (hp : p ∈ earsOf f r) : wordB p.1 = true := by
  unfold earsOf at hp
  cases hw : r.whence with
  | none =>
    rw [hw] at hp
    simp at hp
    rw [hp]; exact h
  | some w =>
    rw [hw] at hp
    simp at hp
    rcases hp with hp | hp <;> rw [hp] <;> exact h
theorem earsOf_len (f : Int) : ∀ hs : List Hr, (hs.flatMap (earsOf f)).length ≤ 2 * hs.length
  | [] => by simp
  | r :: hs => by
    have := earsOf_len f hs
    have : (earsOf f r).length ≤ 2 := by unfold earsOf; cases r.whence <;> simp
    rw [List.flatMap_cons, List.length_append, List.length_cons]
    omega
theorem heard_sub {L : Land} {s h : Int} {r : Hr} (hr : r ∈ heardL L s h) : r ∈ (spotAt L s).hears := (List.mem_filter.mp hr).1
/-- what ears makes anew -/
theorem ears_new (n : Nat) {L : Land} (hL : L.Ok) {g : Gs} (hg : Gs.Ok L.spots.length g) :
    ∃ es, setOfL [] (((heardL L g.spot g.hour).flatMap (earsOf g.face)).map earD) = some es ∧ sortable es = true ∧ (∀ n, unders es n = true) ∧ EarRows L g.spot g.face g.hour (sortK es es) := by
  have hs := hL.ss _ (spotAt_mem hg.s0 hg.s1).2
  have hl : (heardL L g.spot g.hour).length ≤ 12 := Nat.le_trans (List.length_filter_le _ _) hs.h12
  have h2 := earsOf_len g.face (heardL L g.spot g.hour)
  obtain ⟨es, e1, e2, _⟩ := setOfL_ok (((heardL L g.spot g.hour).flatMap (earsOf g.face)).map earD) [] (fun d hd => by
    obtain ⟨p, _, rfl⟩ := List.mem_map.mp hd
    simp [earD]) (fun d hd => by cases hd) (.inl ⟨fun d hd => by
    obtain ⟨p, _, rfl⟩ := List.mem_map.mp hd
    rfl, by rw [List.length_map, List.length_nil]; omega⟩)
  have form : ∀ r ∈ es, ∃ p : Str × Int, r = earD p ∧ wordB p.1 = true := fun r hr => by
    rcases (e2 r).mp hr with h | h
    · cases h
    · obtain ⟨p, hp, rfl⟩ := List.mem_map.mp h
      obtain ⟨x, hx, hp⟩ := List.mem_flatMap.mp hp
      exact ⟨p, rfl, earsOf_word (hs.hs x (heard_sub hx)).sg hp⟩
  obtain ⟨l, el, hp⟩ := sortK_self (ks := es)
  refine ⟨es, e1, ears_sortable form, fun n => undersAll fun d hd => ?_, ?_⟩
  · obtain ⟨p, e, _⟩ := form d hd
    rw [e]
    simp [earD]
  · rw [el]
    refine ⟨fun r hr => form r (hp.mem_iff.mp hr), fun p => ?_⟩
    rw [hp.mem_iff, e2]
    simp
    constructor
    · rintro ⟨a, b, ⟨x, hx, hp⟩, e⟩
      rw [← earD_inj e]
      exact ⟨x, hx, hp⟩
    · rintro ⟨x, hx, hp⟩
      exact ⟨p.1, p.2, ⟨x, hx, hp⟩, rfl⟩
theorem ears_m (n : Nat) {L : Land} (hL : L.Ok) {a : Nat} {S : Store} (hI : S[a]? = some (.ins 0 (askFs L a))) {ke : List (D × D)} (hE : S[a + 3]? = some (.dct ke)) (ho : EarsOk L ke) (hk : ke.length + 1 < LIM) {g : Gs} (hg : Gs.Ok L.spots.length g) :
    ∃ rows ke', callM (run fs fuel (n + 2)) S ix_Asker_ears [.ref a, g.d] S = .ok (.tup rows) (S.set (a + 3) (.dct ke')) ∧ EarRows L g.spot g.face g.hour rows ∧ EarsOk L ke' ∧ ke'.length ≤ ke.length + 1 := by
  have hlt : a + 3 < S.length := lt_of_at hE
  have hw : ∀ kd : D, kd = .tup [.int g.spot, .int g.face, .int g.hour] → likeK (ke.map (·.1)) kd = true := fun kd e => likeK_keys_tup ho.keys (by rw [e]; rfl)
  have hm := memD_dct hE (hw _ rfl)
  cases hd : dlook ke (.tup [.int g.spot, .int g.face, .int g.hour]) with
  | some v =>
    obtain ⟨p, hp, e1, e2⟩ := dlook_mem hd
    obtain ⟨s, f, t, ep, rows, ev, hr⟩ := ho p hp
    rw [ep] at e1
    have e1 := (eq_iff (by simp) (by simp)).mp e1
    simp at e1
    obtain ⟨rfl, rfl, rfl⟩ := e1
    refine ⟨rows, ke, ?_, hr, ho, by omega⟩
    have e : run fs fuel (n + 2) ix_Asker_ears [.ref a, g.d] S = .ok (.tup rows) S := by
      rw [run_Asker_ears, runFd_eq rfl]
      simp [F_Asker_ears, B_Asker_ears, startE, insOf_ok hI, Gs.d, cut_to, hm, hd, idx_dct hE (hw _ rfl), ← e2, ev]
    rw [callM_ok e, set_same hE, gc_same (by simp [hr.under])]
  | none =>
    obtain ⟨es, f1, f2, f3, f4⟩ := ears_new n hL hg
    have hs := hL.ss _ (spotAt_mem hg.s0 hg.s1).2
    have hl : (heardL L g.spot g.hour).length ≤ 12 := Nat.le_trans (List.length_filter_le _ _) hs.h12
    obtain ⟨env2, l1, l2⟩ := ears_loop (fuel := fuel) (n + 1) L a g S (some (.tup [.int g.spot, .int g.face, .int g.hour])) (heardL L g.spot g.hour) [] none none (by simp; omega)
    subst l2
    have ok' : EarsOk L (ke ++ [(.tup [.int g.spot, .int g.face, .int g.hour], .tup (sortK es es))]) := fun p hp => by
      rcases List.mem_append.mp hp with hp | hp
      · exact ho p hp
      · rw [List.mem_singleton] at hp
        rw [hp]
        exact ⟨_, _, _, rfl, _, rfl, f4⟩
    refine ⟨sortK es es, ke ++ [(.tup [.int g.spot, .int g.face, .int g.hour], .tup (sortK es es))], ?_, f4, ok', by simp⟩
    have hh := heard_at_c (fuel := fuel) n hL hg.s0 hg.s1 (h := g.hour) (S ++ [.lst []])
    have hI' : ∀ M : Store, (S ++ M)[a]? = some (.ins 0 (askFs L a)) := fun M => by rw [at_low (lt_of_at hI), hI]
    have hE' : ∀ M : Store, (S ++ M)[a + 3]? = some (.dct ke) := fun M => by rw [at_low hlt, hE]
    have e : ∃ M, run fs fuel (n + 2) ix_Asker_ears [.ref a, g.d] S = .ok (.tup (sortK es es)) (S.set (a + 3) (.dct (ke ++ [(.tup [.int g.spot, .int g.face, .int g.hour], .tup (sortK es es))])) ++ M) := by
      refine ⟨[.lst (((heardL L g.spot g.hour).flatMap (earsOf g.face)).map earD)], ?_⟩
      rw [run_Asker_ears, runFd_eq rfl]
      simp [F_Asker_ears, B_Asker_ears, startE, insOf_ok hI, Gs.d, cut_to, hm, hd, ev_loop, insOf_ok (hI' _), hh]
      simp [Gs.d] at l1
      rw [l1]
      simp
      rw [tss (r := S.length) (by simp) f1 f2 (f3 _)]
      simp [insOf_ok (hI' _)]
      rw [putD_dct (hE' _) (hw _ rfl) (by omega), dput_new hd]
      simp [set_low hlt]
      have hI2 : (S.set (a + 3) (.dct (ke ++ [(.tup [.int g.spot, .int g.face, .int g.hour], .tup (sortK es es))])) ++ [.lst (((heardL L g.spot g.hour).flatMap (earsOf g.face)).map earD)])[a]? = some (.ins 0 (askFs L a)) := by
        rw [at_low (by simpa using lt_of_at hI), List.getElem?_set_ne (by omega), hI]
      have hE2 : (S.set (a + 3) (.dct (ke ++ [(.tup [.int g.spot, .int g.face, .int g.hour], .tup (sortK es es))])) ++ [.lst (((heardL L g.spot g.hour).flatMap (earsOf g.face)).map earD)])[a + 3]? = some (.dct (ke ++ [(.tup [.int g.spot, .int g.face, .int g.hour], .tup (sortK es es))])) := by
        rw [at_low (by simpa using hlt), at_set hE]
      rw [insOf_ok hI2]
      simp
      rw [idx_dct hE2 (likeK_keys_tup ok'.keys rfl), dlook_end (by simp) hd]
      simp
    obtain ⟨M, e⟩ := e
    rw [callM_ok e, gc_set_app (by simp [f4.under]) (ok'.under _)]
end Pd.T
end
section
set_option Elab.async false
set_option linter.all false
set_option maxRecDepth 100000
set_option autoImplicit false
/-! Answers; the guess behind a record. -/
namespace Pd.T
open PySem
variable {fuel : Nat}
def sideK : Option Int → Int
  | none => -1
  | some k => k
def ansB (L : Land) (g : Gs) : Q → Bool
  | .go => (way L g.spot g.face).isSome
  | .hear s side => decide ((s, sideK side) ∈ (heardL L g.spot g.hour).flatMap (earsOf g.face))
  | .way k => (way L g.spot ((g.face + k) % 8)).isSome
  | .ground w => decide (g.ground = some w)
  | _ => true
def behQ (L : Land) (g : Gs) : Q → Gs
  | .turn k => ⟨g.spot, (g.face + k) % 8, g.hour, g.ground⟩
  | .wait k => ⟨g.spot, g.face, (g.hour + k) % 24, g.ground⟩
  | .go => match way L g.spot g.face with
    | some p => ⟨p.to, p.out, g.hour, some p.ground⟩
    | none => g
  | _ => g
theorem behQ_ok {L : Land} (hL : L.Ok) {g : Gs} (hg : Gs.Ok L.spots.length g) (q : Q) : Gs.Ok L.spots.length (behQ L g q) := by
  cases q with
  | turn k => exact ⟨hg.s0, hg.s1, by simp only [behQ]; omega, by simp only [behQ]; omega, hg.h0, hg.h1, hg.gr⟩
  | wait k => exact ⟨hg.s0, hg.s1, hg.f0, hg.f1, by simp only [behQ]; omega, by simp only [behQ]; omega, hg.gr⟩
  | go =>
    simp only [behQ]
    cases hw : way L g.spot g.face with
    | none => exact hg
    | some p =>
      have := way_ok hL hg.s0 hg.s1 hw
      exact ⟨this.to0, this.to1, this.out0, this.out1, hg.h0, hg.h1, fun w e => by cases e; exact this.gr⟩
  | _ => exact hg
theorem gr_eqD {g : Option Str} (hg : ∀ w, g = some w → wordB w = true) {w : Str} (hw : wordB w = true) {st : Store} : eqD st (grD g) (.str w) = some (decide (g = some w)) := by
  cases g with
  | none =>
    rw [eqD_pl (k := 0) (j := 0) (by simp [grD]) (by rw [pl_str]; exact wordB_fit hw) (by omega) (by omega)]
    simp [grD, D.eq]
  | some v =>
    show eqD st (.str v) (.str w) = _
    rw [eqS (wordB_fit (hg v rfl)) (wordB_fit hw)]
    simp
theorem mem_rows {L : Land} {s f h : Int} {rows : List D} (hr : EarRows L s f h rows) (p : Str × Int) : (rows.any fun d => d.eq (earD p)) = decide (p ∈ (heardL L s h).flatMap (earsOf f)) := by
  rw [Bool.eq_iff_iff, List.any_eq_true, decide_eq_true_eq, ← hr.2 p]
  constructor
  · rintro ⟨d, hd, e⟩
    obtain ⟨q, e', _⟩ := hr.1 d hd
    have := (eq_iff (by rw [e']; simp [earD]) (by simp [earD])).mp e
    rw [← this]
    exact hd
  · intro h
    exact ⟨_, h, nob_eq _ (by simp [earD])⟩
theorem rows_fit {L : Land} {s f h : Int} {rows : List D} (hr : EarRows L s f h rows) : fits rows 60 = true := fits_all fun d hd => by
  obtain ⟨q, e, hw⟩ := hr.1 d hd
  have := wordB_fit hw
  rw [e]
  exact pl_fit60 (k := 1) (by simp [earD] at this ⊢; exact this) (by omega)
theorem answer_m (n : Nat) {L : Land} (hL : L.Ok) {a : Nat} {S : Store} (hI : S[a]? = some (.ins 0 (askFs L a))) {ke : List (D × D)} (hE : S[a + 3]? = some (.dct ke)) (ho : EarsOk L ke) (hk : ke.length + 1 < LIM) {g : Gs} (hg : Gs.Ok L.spots.length g) {q : Q} (hq : q.Ok) (hm : q.mv = false) :
    ∃ ke', callM (run fs fuel (n + 3)) S ix_Asker_answer [.ref a, .tup q.parts, g.d] S = .ok (.bl (ansB L g q)) (S.set (a + 3) (.dct ke')) ∧ EarsOk L ke' ∧ ke'.length ≤ ke.length + 1 := by
  have fin : ∀ {b : Bool} {ke' : List (D × D)}, EarsOk L ke' → run fs fuel (n + 3) ix_Asker_answer [.ref a, .tup q.parts, g.d] S = .ok (.bl b) (S.set (a + 3) (.dct ke')) → callM (run fs fuel (n + 3)) S ix_Asker_answer [.ref a, .tup q.parts, g.d] S = .ok (.bl b) (S.set (a + 3) (.dct ke')) := fun o e => by
    rw [callM_ok e, gc_set (by simp) (o.under _)]
  cases q with
  | go =>
    refine ⟨ke, fin ho ?_, ho, by omega⟩
    have ha := ahead_m (fuel := fuel) n hL hI hg 0
    have e0 : (g.face + 0) % 8 = g.face := by have := hg.f0; have := hg.f1; omega
    rw [e0] at ha
    rw [run_Asker_answer, runFd_eq rfl, set_same hE]
    simp [F_Asker_answer, B_Asker_answer, startE, Q.parts, insOf_ok hI, methR_ok, ha, ansB]
  | way k =>
    refine ⟨ke, fin ho ?_, ho, by omega⟩
    have ha := ahead_m (fuel := fuel) n hL hI hg k
    rw [run_Asker_answer, runFd_eq rfl, set_same hE]
    simp [F_Asker_answer, B_Asker_answer, startE, Q.parts, insOf_ok hI, methR_ok, ha, ansB]
  | ground w =>
    refine ⟨ke, fin ho ?_, ho, by omega⟩
    rw [run_Asker_answer, runFd_eq rfl, set_same hE]
    simp [F_Asker_answer, B_Asker_answer, startE, Q.parts, insOf_ok hI, methR_ok, ansB, Gs.d, gr_eqD hg.gr (show wordB w = true from hq)]
  | hear s side =>
    obtain ⟨rows, ke', e, hr, ho', hl⟩ := ears_m (fuel := fuel) n hL hI hE ho hk hg
    refine ⟨ke', fin ho' ?_, ho', hl⟩
    have hmem : memD (S.set (a + 3) (.dct ke')) (earD (s, sideK side)) (.tup rows) = some (decide ((s, sideK side) ∈ (heardL L g.spot g.hour).flatMap (earsOf g.face))) := by
      rw [memD_tup (by
        have := wordB_fit hq.1
        exact pl_fit60 (k := 1) (by simp [earD] at this ⊢; exact this) (by omega)) (rows_fit hr), mem_rows hr]
    rw [run_Asker_answer, runFd_eq rfl]
    cases side with
    | none =>
      simp only [earD, sideK] at hmem
      simp [F_Asker_answer, B_Asker_answer, startE, Q.parts, insOf_ok hI, methR_ok, ansB, e, optI, hmem, sideK]
    | some k =>
      simp only [earD, sideK] at hmem
      simp [F_Asker_answer, B_Asker_answer, startE, Q.parts, insOf_ok hI, methR_ok, ansB, e, optI, hmem, sideK]
  | turn k => cases hm
  | wait k => cases hm
theorem behind_m (n : Nat) {L : Land} (hL : L.Ok) {a : Nat} {S : Store} (hI : S[a]? = some (.ins 0 (askFs L a))) {g : Gs} (hg : Gs.Ok L.spots.length g) {q : Q} (hq : q.Ok) (r : List D) :
    callM (run fs fuel (n + 3)) S ix_Asker_behind [.ref a, .tup (q.parts ++ r), g.d] S = .ok (behQ L g q).d S := by
  have e : run fs fuel (n + 3) ix_Asker_behind [.ref a, .tup (q.parts ++ r), g.d] S = .ok (behQ L g q).d S := by
    rw [run_Asker_behind, runFd_eq rfl]
    have ha := ahead_m (fuel := fuel) n hL hI hg 0
    have e0 : (g.face + 0) % 8 = g.face := by have := hg.f0; have := hg.f1; omega
    rw [e0] at ha
    cases q with
    | go =>
      simp only [Gs.d] at ha
      cases hw : way L g.spot g.face with
      | none =>
        rw [hw] at ha
        simp [F_Asker_behind, B_Asker_behind, startE, Q.parts, insOf_ok hI, methR_ok, behQ, Gs.d, ha, hw]
      | some p =>
        rw [hw] at ha
        have : p.d.isNon = false := rfl
        simp [F_Asker_behind, B_Asker_behind, startE, Q.parts, insOf_ok hI, methR_ok, behQ, Gs.d, ha, hw, wayD, this]
        simp [Psg.d, grD]
    | turn k => simp [F_Asker_behind, B_Asker_behind, startE, Q.parts, insOf_ok hI, methR_ok, behQ, Gs.d, turned_by_c]
    | wait k => simp [F_Asker_behind, B_Asker_behind, startE, Q.parts, insOf_ok hI, methR_ok, behQ, Gs.d, bop_mod]
    | _ => simp [F_Asker_behind, B_Asker_behind, startE, Q.parts, insOf_ok hI, methR_ok, behQ, Gs.d]
  rw [callM_ok e, gc_same (Gs.under _ _)]
end Pd.T
end
section
set_option Elab.async false
set_option linter.all false
set_option maxRecDepth 100000
set_option autoImplicit false
/-! The guess behind a record. -/
namespace Pd.T
open PySem
variable {fuel : Nat}
def stepE (L : Land) (g : Gs) (e : Ev) : Option Gs := if (e.q.mv || (ansB L g e.q == e.so)) = true then some (behQ L g e.q) else none
def runRec (L : Land) : List Ev → Gs → Option Gs
  | [], g => some g
  | e :: es, g => (stepE L g e).bind (runRec L es)
theorem stepE_ok {L : Land} (hL : L.Ok) {g g' : Gs} (hg : Gs.Ok L.spots.length g) {e : Ev} (h : stepE L g e = some g') : Gs.Ok L.spots.length g' := by
  unfold stepE at h
  split at h
  · cases h
    exact behQ_ok hL hg _
  · cases h
theorem runRec_ok {L : Land} (hL : L.Ok) : ∀ {es : List Ev} {g g' : Gs}, Gs.Ok L.spots.length g → runRec L es g = some g' → Gs.Ok L.spots.length g'
  | [], g, g', hg, h => by
    cases h
    exact hg
  | e :: es, g, g', hg, h => by
    unfold runRec at h
    cases hs : stepE L g e with
    | none => rw [hs] at h; cases h
    | some g2 =>
      rw [hs] at h
      exact runRec_ok hL (stepE_ok hL hg hs) h
theorem rec_body (n : Nat) {L : Land} (hL : L.Ok) {a : Nat} {S : Store} (hI : S[a]? = some (.ins 0 (askFs L a))) {ke : List (D × D)} (hE : S[a + 3]? = some (.dct ke)) (ho : EarsOk L ke) (hk : ke.length + 1 < LIM) {g : Gs} (hg : Gs.Ok L.spots.length g) {e : Ev} (he : e.q.Ok) (rd : D) :
    ∃ ke', EarsOk L ke' ∧ ke'.length ≤ ke.length + 1 ∧ denSs (run fs fuel (n + 3)) fuel LB_Asker_behind_record_1 [some (.ref a), some rd, some g.d, some e.d] S = match stepE L g e with
      | some g' => .nx [some (.ref a), some rd, some g'.d, some e.d] (S.set (a + 3) (.dct ke'))
      | none => .ret .non (S.set (a + 3) (.dct ke')) := by
  have hlt := lt_of_at hE
  have h1 := is_move_e (fuel := fuel) (n + 2) e S
  cases hm : e.q.mv with
  | true =>
    have hb := behind_m (fuel := fuel) n hL hI hg he []
    rw [List.append_nil] at hb
    refine ⟨ke, ho, by omega, ?_⟩
    rw [set_same hE]
    rw [e.d_mv hm] at h1 ⊢
    simp [LB_Asker_behind_record_1, h1, hm, insOf_ok hI, methR_ok, hb, stepE]
  | false =>
    obtain ⟨ke', ha, ho', hl⟩ := answer_m (fuel := fuel) n hL hI hE ho hk hg he hm
    refine ⟨ke', ho', hl, ?_⟩
    have hI' : (S.set (a + 3) (.dct ke'))[a]? = some (.ins 0 (askFs L a)) := by rw [List.getElem?_set_ne (by omega), hI]
    have hb := behind_m (fuel := fuel) n hL hI' hg he [.bl e.so]
    rw [e.d_so hm] at h1 ⊢
    cases hs : ansB L g e.q == e.so with
    | true =>
      simp [LB_Asker_behind_record_1, h1, hm, insOf_ok hI, methR_ok, ha, atI_last, cut_last, hs, insOf_ok hI', hb, stepE]
    | false =>
      simp [LB_Asker_behind_record_1, h1, hm, insOf_ok hI, methR_ok, ha, atI_last, cut_last, hs, insOf_ok hI', hb, stepE]
theorem rec_loop (n : Nat) {L : Land} (hL : L.Ok) {a : Nat} (rd : D) (w : Items) (hw : w.src = none) : ∀ (es : List Ev) (S : Store) (ke : List (D × D)) (g : Gs) (x3 : Option D), S[a]? = some (.ins 0 (askFs L a)) → S[a + 3]? = some (.dct ke) → EarsOk L ke → ke.length + es.length < LIM → Gs.Ok L.spots.length g → (∀ e ∈ es, e.q.Ok) →
    ∃ ke', EarsOk L ke' ∧ ke'.length ≤ ke.length + es.length ∧ forLoop (.one 3) w (denSs (run fs fuel (n + 3)) fuel LB_Asker_behind_record_1) [3] (es.map Ev.d) [some (.ref a), some rd, some g.d, x3] S = match runRec L es g with
      | some g' => .nx [some (.ref a), some rd, some g'.d, none] (S.set (a + 3) (.dct ke'))
      | none => .ret .non (S.set (a + 3) (.dct ke'))
  | [], S, ke, g, x3, hI, hE, ho, hk, hg, he => ⟨ke, ho, by simp, by simp [forLoop, srcOk, hw, runRec, wipeE, set_same hE]⟩
  | e :: es, S, ke, g, x3, hI, hE, ho, hk, hg, he => by
    simp only [List.length_cons] at hk
    obtain ⟨ke1, ho1, hl1, e1⟩ := rec_body (fuel := fuel) n hL hI hE ho (by omega) hg (he e List.mem_cons_self) rd
    have hlt := lt_of_at hE
    have hsrc : srcOk S w = true := by simp [srcOk, hw]
    simp only [List.map_cons, forLoop, hsrc, if_true]
    simp only [assignTg, wipeE]
    simp only [set1_eq, List.set_cons_succ, List.set_cons_zero]
    rw [e1]
    unfold runRec
    cases hs : stepE L g e with
    | none =>
      refine ⟨ke1, ho1, by simp; omega, ?_⟩
      rfl
    | some g' =>
      have hI' : (S.set (a + 3) (.dct ke1))[a]? = some (.ins 0 (askFs L a)) := by rw [List.getElem?_set_ne (by omega), hI]
      obtain ⟨ke2, ho2, hl2, e2⟩ := rec_loop n hL rd w hw es (S.set (a + 3) (.dct ke1)) ke1 g' (some e.d) hI' (at_set hE) ho1 (by omega) (stepE_ok hL hg hs) (fun x hx => he x (List.mem_cons_of_mem _ hx))
      refine ⟨ke2, ho2, by simp; omega, ?_⟩
      dsimp only
      rw [e2, List.set_set]
      rfl
def gsO : Option Gs → D
  | none => .non
  | some g => g.d
theorem behind_record_m (n : Nat) {L : Land} (hL : L.Ok) {a : Nat} {S : Store} (hI : S[a]? = some (.ins 0 (askFs L a))) {ke : List (D × D)} (hE : S[a + 3]? = some (.dct ke)) (ho : EarsOk L ke) {es : List Ev} (hk : ke.length + es.length < LIM) {g : Gs} (hg : Gs.Ok L.spots.length g) (he : ∀ e ∈ es, e.q.Ok) :
    ∃ ke', EarsOk L ke' ∧ ke'.length ≤ ke.length + es.length ∧ callM (run fs fuel (n + 4)) S ix_Asker_behind_record [.ref a, .tup (es.map Ev.d), g.d] S = .ok (gsO (runRec L es g)) (S.set (a + 3) (.dct ke')) := by
  obtain ⟨ke', ho', hl, e⟩ := rec_loop (fuel := fuel) n hL (.tup (es.map Ev.d)) ⟨es.map Ev.d, none⟩ rfl es S ke g none hI hE ho hk hg he
  refine ⟨ke', ho', hl, ?_⟩
  have hr : run fs fuel (n + 4) ix_Asker_behind_record [.ref a, .tup (es.map Ev.d), g.d] S = .ok (gsO (runRec L es g)) (S.set (a + 3) (.dct ke')) := by
    rw [run_Asker_behind_record, runFd_eq rfl]
    simp [F_Asker_behind_record, B_Asker_behind_record, startE, ev_loop]
    rw [e]
    cases runRec L es g with
    | none => simp [gsO]
    | some g' => simp [gsO]
  rw [callM_ok hr, gc_set (by cases runRec L es g <;> simp [gsO]) (ho'.under _)]
end Pd.T
end
section
set_option Elab.async false
set_option linter.all false
set_option maxRecDepth 100000
set_option autoImplicit false
/-! may_be. -/
namespace Pd.T
open PySem
variable {fuel : Nat}
def addNew (acc : List Gs) (g : Gs) : List Gs := if g ∈ acc then acc else acc ++ [g]
def addO (acc : List Gs) (o : Option Gs) : List Gs := match o with
  | none => acc
  | some g => addNew acc g
def gle (a b : Gs) : Bool := !decide (glt b a)
def keptOf (L : Land) (es : List Ev) (gs : List Gs) (acc : List Gs) : List Gs := gs.foldl (fun acc g => addO acc (runRec L es g)) acc
def mayBe (L : Land) (gs : List Gs) (es : List Ev) : List Gs := (keptOf L es gs []).mergeSort gle
theorem at_plus (st M : Store) (i : Nat) : (st ++ M)[st.length + i]? = M[i]? := by
  rw [List.getElem?_append_right (by omega)]
  congr 1
  omega
theorem set_plus (st M : Store) (i : Nat) (c : Cell) : (st ++ M).set (st.length + i) c = st ++ M.set i c := by
  rw [List.set_append_right _ _ (by omega)]
  congr 2
  omega
theorem addNew_len (acc : List Gs) (g : Gs) : (addNew acc g).length ≤ acc.length + 1 := by
  unfold addNew
  split <;> simp
def kvD (g : Gs) : D × D := (g.d, .bl true)
theorem any_kv (acc : List Gs) (g : Gs) : ((acc.map kvD).any fun p => p.1.eq g.d) = decide (g ∈ acc) := by
  rw [List.any_map]
  rw [Bool.eq_iff_iff, List.any_eq_true, decide_eq_true_eq]
  constructor
  · rintro ⟨x, hx, e⟩
    have : x = g := by
      have e : x.d.eq g.d = true := e
      rw [Gs.eq_d] at e
      exact of_decide_eq_true e
    rw [← this]; exact hx
  · intro h
    exact ⟨g, h, by show g.d.eq g.d = true; rw [Gs.eq_d]; simp⟩
theorem dput_kv (acc : List Gs) (g : Gs) : dput (acc.map kvD) g.d (.bl true) = (addNew acc g).map kvD := by
  unfold dput addNew
  rw [any_kv]
  by_cases h : g ∈ acc
  · simp only [h, decide_true, if_true, List.map_map]
    refine List.map_congr_left fun x _ => ?_
    simp only [Function.comp, kvD]
    exact ite_self _
  · simp only [h, decide_false, if_false, Bool.false_eq_true]
    simp [kvD]
theorem Gs.tupK (g : Gs) : g.d.tupK = true := by
  cases h : g.ground <;> simp [Gs.d, grD, h, D.tupK, koks, D.kok]
theorem gkey_alike (a b : Gs) : (gkey a).alike (gkey b) = true := rfl
theorem gkeys_sortable {m : Int} {gs : List Gs} (h : ∀ g ∈ gs, Gs.Ok m g) : sortable (gs.map gkey) = true := by
  unfold sortable
  rw [Bool.and_eq_true, Bool.or_eq_true]
  refine ⟨.inl (List.all_eq_true.mpr fun r hr => ?_), List.all_eq_true.mpr fun r hr => ?_⟩
  · obtain ⟨g, _, rfl⟩ := List.mem_map.mp hr
    rfl
  · obtain ⟨g, hg, rfl⟩ := List.mem_map.mp hr
    rw [Bool.and_eq_true]
    refine ⟨pl_fit60 ((h g hg).kpl 0) (by omega), List.all_eq_true.mpr fun q hq => ?_⟩
    obtain ⟨g', _, rfl⟩ := List.mem_map.mp hq
    exact gkey_alike _ _
theorem sortK_gs (gs : List Gs) : sortK (gs.map gkey) (gs.map Gs.d) = (gs.mergeSort gle).map Gs.d := sortK_map gs gkey Gs.d gle fun a _ b _ => by
  rw [lt_key]
  rfl
theorem keptOf_cons (L : Land) (es : List Ev) (g : Gs) (gs acc : List Gs) : keptOf L es (g :: gs) acc = keptOf L es gs (addO acc (runRec L es g)) := rfl
theorem addO_len (acc : List Gs) (o : Option Gs) : (addO acc o).length ≤ acc.length + 1 := by
  cases o with
  | none => simp [addO]
  | some g => exact addNew_len acc g
theorem addO_ok {m : Int} {acc : List Gs} {o : Option Gs} (h : ∀ g ∈ acc, Gs.Ok m g) (ho : ∀ g, o = some g → Gs.Ok m g) : ∀ g ∈ addO acc o, Gs.Ok m g := by
  cases o with
  | none => exact h
  | some g =>
    intro x hx
    unfold addO addNew at hx
    dsimp only at hx
    split at hx
    · exact h x hx
    · rcases List.mem_append.mp hx with hx | hx
      · exact h x hx
      · rw [List.mem_singleton] at hx
        rw [hx]; exact ho g rfl
def mbCells (L : Land) (a : Nat) (ks kg ke : List (D × D)) (acc : List Gs) : Store := [.ins 0 (askFs L a), .dct ks, .dct kg, .dct ke, .dct (acc.map kvD)]
theorem mb_loop (n : Nat) {L : Land} (hL : L.Ok) (st : Store) (ks kg : List (D × D)) (w : Items) (hw : w.src = none) (d0 d1 d2 d3 d4 : D) {es : List Ev} (he : ∀ e ∈ es, e.q.Ok) (hes : es.length ≤ 60) : ∀ (gs : List Gs) (ke : List (D × D)) (acc : List Gs) (x8 x9 : Option D), EarsOk L ke → ke.length + 60 * gs.length ≤ 150000 → acc.length + gs.length ≤ 2400 → (∀ g ∈ gs, Gs.Ok L.spots.length g) →
    ∃ ke', EarsOk L ke' ∧ forLoop (.one 8) w (denSs (run fs fuel (n + 4)) fuel LB_may_be_1) [8, 9] (gs.map Gs.d) [some d0, some d1, some d2, some d3, some d4, some (.tup (es.map Ev.d)), some (.ref st.length), some (.ref (st.length + 4)), x8, x9] (st ++ mbCells L st.length ks kg ke acc) =
      .nx [some d0, some d1, some d2, some d3, some d4, some (.tup (es.map Ev.d)), some (.ref st.length), some (.ref (st.length + 4)), none, none] (st ++ mbCells L st.length ks kg ke' (keptOf L es gs acc))
  | [], ke, acc, x8, x9, ho, _, _, _ => ⟨ke, ho, by simp [forLoop, srcOk, hw, keptOf, wipeE]⟩
  | g :: gs, ke, acc, x8, x9, ho, hk, hl, hg => by
    simp only [List.length_cons] at hk hl
    obtain ⟨ke1, ho1, hl1, e1⟩ := behind_record_m (fuel := fuel) n hL (a := st.length) (S := st ++ mbCells L st.length ks kg ke acc) (at_plus st _ 0) (at_plus st _ 3) ho (es := es) (by unfold LIM; omega) (hg g List.mem_cons_self) he
    rw [set_plus] at e1
    have e1 : callM (run fs fuel (n + 4)) (st ++ mbCells L st.length ks kg ke acc) ix_Asker_behind_record [.ref st.length, .tup (es.map Ev.d), g.d] (st ++ mbCells L st.length ks kg ke acc) = .ok (gsO (runRec L es g)) (st ++ mbCells L st.length ks kg ke1 acc) := e1
    have hI : insOf 0 (.ref st.length) (st ++ mbCells L st.length ks kg ke acc) = some (askFs L st.length) := insOf_ok (at_plus st _ 0)
    obtain ⟨ke2, ho2, e2⟩ := mb_loop n hL st ks kg w hw d0 d1 d2 d3 d4 he hes gs ke1 (addO acc (runRec L es g)) (some g.d) (some (gsO (runRec L es g))) ho1 (by omega) (by have := addO_len acc (runRec L es g); omega) (fun x hx => hg x (List.mem_cons_of_mem _ hx))
    refine ⟨ke2, ho2, ?_⟩
    rw [keptOf_cons, ← e2]
    have hsrc : srcOk (st ++ mbCells L st.length ks kg ke acc) w = true := by simp [srcOk, hw]
    simp only [List.map_cons, forLoop, hsrc, if_true, assignTg, wipeE]
    have body : denSs (run fs fuel (n + 4)) fuel LB_may_be_1 [some d0, some d1, some d2, some d3, some d4, some (.tup (es.map Ev.d)), some (.ref st.length), some (.ref (st.length + 4)), some g.d, none] (st ++ mbCells L st.length ks kg ke acc) = .nx [some d0, some d1, some d2, some d3, some d4, some (.tup (es.map Ev.d)), some (.ref st.length), some (.ref (st.length + 4)), some g.d, some (gsO (runRec L es g))] (st ++ mbCells L st.length ks kg ke1 (addO acc (runRec L es g))) := by
      simp [LB_may_be_1, hI, methR_ok, e1]
      cases hr : runRec L es g with
      | none => simp [gsO, addO]
      | some g' =>
        simp [gsO, addO]
        rw [putD_dct (at_plus st _ 4) (likeK_keys_tup (fun p hp => by
          obtain ⟨x, _, rfl⟩ := List.mem_map.mp hp
          exact x.tupK) g'.tupK) (by simp; unfold LIM; omega), set_plus, dput_kv]
        simp [mbCells]
    simp only [set1_eq, List.set_cons_succ, List.set_cons_zero]
    rw [body]
theorem keptOf_ok {L : Land} (hL : L.Ok) {es : List Ev} : ∀ {gs acc : List Gs}, (∀ g ∈ gs, Gs.Ok L.spots.length g) → (∀ g ∈ acc, Gs.Ok L.spots.length g) → ∀ g ∈ keptOf L es gs acc, Gs.Ok L.spots.length g
  | [], acc, _, h => h
  | g :: gs, acc, h1, h2 => keptOf_ok hL (gs := gs) (fun x hx => h1 x (List.mem_cons_of_mem _ hx)) (addO_ok h2 fun x hx => runRec_ok hL (h1 g List.mem_cons_self) hx)
theorem keptOf_len (L : Land) (es : List Ev) : ∀ (gs acc : List Gs), (keptOf L es gs acc).length ≤ acc.length + gs.length
  | [], acc => by simp [keptOf]
  | g :: gs, acc => by
    have := keptOf_len L es gs (addO acc (runRec L es g))
    have := addO_len acc (runRec L es g)
    rw [keptOf_cons, List.length_cons]
    omega
theorem may_be_c (n : Nat) {L : Land} (hL : L.Ok) {gs : List Gs} (hg : ∀ g ∈ gs, Gs.Ok L.spots.length g) (hl : gs.length ≤ 2400) (ha : gs.Pairwise glt) {es : List Ev} (he : ∀ e ∈ es, e.q.Ok) (hes : es.length ≤ 60) (st : Store) :
    callG (run fs fuel (n + 10)) st ix_may_be [L.d, .tup (gs.map Gs.d), .tup (es.map Ev.d)] st = .ok (.tup ((mayBe L gs es).map Gs.d)) st := by
  have e1 := land_taken_t (fuel := fuel) n hL 1 st
  have e2 := guesses_taken_c (fuel := fuel) (n + 4) L 2 0 2400 hg hl (by omega) (by omega) ha st
  have e3 := record_plain (fuel := fuel) (n + 6) he hes st
  have e4 := record_form_c (fuel := fuel) (n + 2) he hes st
  obtain ⟨ks, kg, e5⟩ := mk_asker (fuel := fuel) (n + 6) hL st
  obtain ⟨ke, _, e6⟩ := mb_loop (fuel := fuel) (n + 5) hL st ks kg ⟨gs.map Gs.d, none⟩ rfl L.d (.tup (gs.map Gs.d)) (.tup (es.map Ev.d)) L.d (.tup (gs.map Gs.d)) he hes gs [] [] none none (by intro p hp; cases hp) (by simp; omega) (by simp; omega) hg
  have hu : unders ((mayBe L gs es).map Gs.d) st.length = true := unders_map fun g _ => g.under _
  have ko := keptOf_ok hL (es := es) hg (acc := []) (fun g h => by cases h)
  have kl := keptOf_len L es gs []
  rw [callG, run_may_be, runFd_eq rfl]
  simp only [mbCells, askCells] at e5 e6
  simp [F_may_be, B_may_be, startE, e1, e2, e3, e4, e5, ev_loop]
  simp at e6
  rw [e6]
  simp
  rw [den_sortk (keptOf L es gs []) Gs.d gkey (x := .ref (st.length + 4)) (st1 := st ++ [.ins 0 (askFs L st.length), .dct ks, .dct kg, .dct ke, .dct ((keptOf L es gs []).map kvD)]) (by simp) (by
    rw [rowsOf_dct (at_plus st _ 4) (by simp; unfold LIM; simp at kl; omega)]
    simp [kvD, Function.comp_def]) (fun g _ => guess_key_r _ g _) (fun g _ => gkey_under g _) (gkeys_sortable ko), sortK_gs]
  have hu' : ∀ k, unders ((mayBe L gs es).map Gs.d) k = true := fun k => unders_map fun g _ => g.under _
  rw [gc_new0 (c := .lst (((keptOf L es gs []).mergeSort gle).map Gs.d)) (by rw [cunder_lst]; exact hu' _)]
  simp only [R.bind_ok]
  rw [bfnG_tupl (ds := ((keptOf L es gs []).mergeSort gle).map Gs.d) (by simp), gc_app (d := .tup (((keptOf L es gs []).mergeSort gle).map Gs.d)) (by rw [under_tup]; exact hu' _)]
  simp
  rw [gc_app (by rw [under_tup]; exact hu' _)]
  rfl
end Pd.T
end
section
set_option Elab.async false
set_option linter.all false
set_option maxRecDepth 100000
set_option autoImplicit false
/-! may_be in plain words: its members, its order; anywhere. -/
namespace Pd.T
open PySem
variable {fuel : Nat}
theorem glt_keys {a b : Gs} (h1 : ¬ glt a b) (h2 : ¬ glt b a) : a.spot = b.spot ∧ a.face = b.face ∧ a.hour = b.hour ∧ grS a.ground = grS b.ground := by
  unfold glt at h1 h2
  have e1 : a.spot = b.spot := by omega
  have e2 : a.face = b.face := by
    have := fun x => h1 (.inr ⟨e1, .inl x⟩)
    have := fun x => h2 (.inr ⟨e1.symm, .inl x⟩)
    omega
  have e3 : a.hour = b.hour := by
    have := fun x => h1 (.inr ⟨e1, .inr ⟨e2, .inl x⟩⟩)
    have := fun x => h2 (.inr ⟨e1.symm, .inr ⟨e2.symm, .inl x⟩⟩)
    omega
  have q1 := fun x => h1 (.inr ⟨e1, .inr ⟨e2, .inr ⟨e3, x⟩⟩⟩)
  have q2 := fun x => h2 (.inr ⟨e1.symm, .inr ⟨e2.symm, .inr ⟨e3.symm, x⟩⟩⟩)
  exact ⟨e1, e2, e3, Str.ext' (List.le_antisymm (List.not_lt.mp q2) (List.not_lt.mp q1))⟩
theorem gle_trans (a b c : Gs) (h1 : gle a b = true) (h2 : gle b c = true) : gle a c = true := by
  unfold gle at *
  simp only [Bool.not_eq_true', decide_eq_false_iff_not] at *
  intro h3
  by_cases h4 : glt a b
  · exact h2 (glt_trans h3 h4)
  · obtain ⟨e1, e2, e3, e4⟩ := glt_keys h4 h1
    apply h2
    unfold glt at h3 ⊢
    rw [e1, e2, e3, e4] at h3
    exact h3
theorem gle_total (a b : Gs) : (gle a b || gle b a) = true := by
  unfold gle
  by_cases h : glt a b
  · have : ¬ glt b a := fun h' => glt_irr a (glt_trans h h')
    simp [this]
  · simp [h]
/-- what keptOf has -/
theorem mem_addNew {acc : List Gs} {g x : Gs} : x ∈ addNew acc g ↔ x ∈ acc ∨ x = g := by
  unfold addNew
  split
  · constructor
    · exact .inl
    · rintro (h | h)
      · exact h
      · rw [h]; assumption
  · simp
theorem mem_addO {acc : List Gs} {o : Option Gs} {x : Gs} : x ∈ addO acc o ↔ x ∈ acc ∨ o = some x := by
  cases o with
  | none => simp [addO]
  | some g =>
    rw [show addO acc (some g) = addNew acc g from rfl, mem_addNew]
    simp [eq_comm]
theorem nodup_addO {acc : List Gs} {o : Option Gs} (h : acc.Nodup) : (addO acc o).Nodup := by
  cases o with
  | none => exact h
  | some g =>
    show (addNew acc g).Nodup
    unfold addNew
    split
    · exact h
    · rename_i hn
      rw [List.nodup_append]
      refine ⟨h, by simp, fun a ha b hb => ?_⟩
      rw [List.mem_singleton] at hb
      rw [hb]
      intro e
      rw [e] at ha
      exact hn ha
theorem mem_keptOf {L : Land} {es : List Ev} {x : Gs} : ∀ {gs acc : List Gs}, x ∈ keptOf L es gs acc ↔ x ∈ acc ∨ ∃ g ∈ gs, runRec L es g = some x
  | [], acc => by simp [keptOf]
  | g :: gs, acc => by
    rw [keptOf_cons, mem_keptOf, mem_addO]
    simp only [List.mem_cons, exists_eq_or_imp]
    rw [or_assoc]
theorem nodup_keptOf {L : Land} {es : List Ev} : ∀ {gs acc : List Gs}, acc.Nodup → (keptOf L es gs acc).Nodup
  | [], acc, h => h
  | g :: gs, acc, h => by
    rw [keptOf_cons]
    exact nodup_keptOf (nodup_addO h)
theorem mem_mayBe {L : Land} {es : List Ev} {gs : List Gs} {x : Gs} : x ∈ mayBe L gs es ↔ ∃ g ∈ gs, runRec L es g = some x := by
  unfold mayBe
  rw [List.mem_mergeSort, mem_keptOf]
  simp
theorem mayBe_ok {L : Land} (hL : L.Ok) {es : List Ev} {gs : List Gs} (hg : ∀ g ∈ gs, Gs.Ok L.spots.length g) : ∀ g ∈ mayBe L gs es, Gs.Ok L.spots.length g := fun x hx => by
  obtain ⟨g, h, e⟩ := mem_mayBe.mp hx
  exact runRec_ok hL (hg g h) e
theorem mayBe_len (L : Land) (gs : List Gs) (es : List Ev) : (mayBe L gs es).length ≤ gs.length := by
  unfold mayBe
  rw [List.length_mergeSort]
  simpa using keptOf_len L es gs []
theorem mayBe_asc {L : Land} (hL : L.Ok) {es : List Ev} {gs : List Gs} (hg : ∀ g ∈ gs, Gs.Ok L.spots.length g) : (mayBe L gs es).Pairwise glt := by
  have ok := mayBe_ok hL (es := es) hg
  have h1 : (mayBe L gs es).Pairwise (fun a b => gle a b = true) := List.pairwise_mergeSort gle_trans gle_total _
  have h2 : (mayBe L gs es).Nodup := (List.mergeSort_perm _ _).nodup_iff.mpr (nodup_keptOf List.nodup_nil)
  refine List.Pairwise.imp_of_mem (fun {a b} ha hb h => ?_) (h1.and h2)
  have n1 : ¬ glt b a := by
    have := h.1
    unfold gle at this
    simpa using this
  by_cases q : glt a b
  · exact q
  · exact absurd (glt_tri (ok a ha) (ok b hb) q n1) h.2
theorem asc_ext : ∀ {xs ys : List Gs}, xs.Pairwise glt → ys.Pairwise glt → (∀ x, x ∈ xs ↔ x ∈ ys) → xs = ys
  | [], [], _, _, _ => rfl
  | [], y :: ys, _, _, h => by have := (h y).mpr List.mem_cons_self; cases this
  | x :: xs, [], _, _, h => by have := (h x).mp List.mem_cons_self; cases this
  | x :: xs, y :: ys, h1, h2, h => by
    rw [List.pairwise_cons] at h1 h2
    have e : x = y := by
      have a := (h x).mp List.mem_cons_self
      have b := (h y).mpr List.mem_cons_self
      rcases List.mem_cons.mp a with a | a
      · exact a
      · rcases List.mem_cons.mp b with b | b
        · exact b.symm
        · exact absurd (glt_trans (h1.1 y b) (h2.1 x a)) (glt_irr x)
    subst e
    rw [asc_ext h1.2 h2.2 fun z => ?_]
    constructor
    · intro hz
      rcases List.mem_cons.mp ((h z).mp (List.mem_cons_of_mem _ hz)) with q | q
      · rw [q] at hz; exact absurd (h1.1 x hz) (glt_irr x)
      · exact q
    · intro hz
      rcases List.mem_cons.mp ((h z).mpr (List.mem_cons_of_mem _ hz)) with q | q
      · rw [q] at hz; exact absurd (h2.1 x hz) (glt_irr x)
      · exact q
theorem runRec_append (L : Land) : ∀ (es1 es2 : List Ev) (g : Gs), runRec L (es1 ++ es2) g = (runRec L es1 g).bind (runRec L es2)
  | [], es2, g => rfl
  | e :: es1, es2, g => by
    show (stepE L g e).bind (runRec L (es1 ++ es2)) = ((stepE L g e).bind (runRec L es1)).bind (runRec L es2)
    cases stepE L g e with
    | none => rfl
    | some g' => exact runRec_append L es1 es2 g'
theorem mayBe_nil {L : Land} (hL : L.Ok) {gs : List Gs} (hg : ∀ g ∈ gs, Gs.Ok L.spots.length g) (ha : gs.Pairwise glt) : mayBe L gs [] = gs :=
  asc_ext (mayBe_asc hL hg) ha fun x => by
    rw [mem_mayBe]
    constructor
    · rintro ⟨g, h, e⟩
      cases e
      exact h
    · exact fun h => ⟨x, h, rfl⟩
theorem mayBe_step {L : Land} (hL : L.Ok) {gs : List Gs} (hg : ∀ g ∈ gs, Gs.Ok L.spots.length g) (es : List Ev) (e : Ev) : mayBe L (mayBe L gs es) [e] = mayBe L gs (es ++ [e]) :=
  asc_ext (mayBe_asc hL (mayBe_ok hL hg)) (mayBe_asc hL hg) fun x => by
    rw [mem_mayBe, mem_mayBe]
    constructor
    · rintro ⟨y, hy, e2⟩
      obtain ⟨g, h, e1⟩ := mem_mayBe.mp hy
      exact ⟨g, h, by rw [runRec_append, e1]; exact e2⟩
    · rintro ⟨g, h, e1⟩
      rw [runRec_append] at e1
      cases hr : runRec L es g with
      | none => rw [hr] at e1; cases e1
      | some y =>
        rw [hr] at e1
        exact ⟨y, mem_mayBe.mpr ⟨g, h, hr⟩, e1⟩
/-- all guesses of an hour -/
def anyGs (n : Nat) (h : Int) : List Gs := (List.range n).flatMap fun (s : Nat) => (List.range 8).map fun (f : Nat) => ⟨(s : Int), (f : Int), h, none⟩
def evGs (n : Nat) (h : Int) : List Gs := (List.range (8 * n)).map fun (k : Nat) => ⟨(k : Int) / 8, (k : Int) % 8, h, none⟩
theorem any_ev (h : Int) : ∀ n, anyGs n h = evGs n h
  | 0 => rfl
  | n + 1 => by
    unfold anyGs evGs
    rw [List.range_succ (n := n), List.flatMap_append]
    rw [show (List.range n).flatMap (fun (s : Nat) => (List.range 8).map fun (f : Nat) => (⟨(s : Int), (f : Int), h, none⟩ : Gs)) = anyGs n h from rfl, any_ev h n]
    rw [show 8 * (n + 1) = 8 * n + 8 by omega, List.range_add, List.map_append]
    unfold evGs
    congr 1
    simp only [List.flatMap_cons, List.flatMap_nil, List.append_nil, List.map_map]
    refine List.map_congr_left fun f hf => ?_
    have hf := List.mem_range.mp hf
    simp only [Function.comp]
    have e1 : ((8 * n + f : Nat) : Int) / 8 = n := by omega
    have e2 : ((8 * n + f : Nat) : Int) % 8 = f := by omega
    rw [e1, e2]
theorem ev_len (n : Nat) (h : Int) : (evGs n h).length = 8 * n := by simp [evGs]
theorem ev_ok (n : Nat) {h : Int} (h0 : 0 ≤ h) (h1 : h < 24) : ∀ g ∈ evGs n h, Gs.Ok n g := fun g hg => by
  obtain ⟨k, hk, rfl⟩ := List.mem_map.mp hg
  have hk := List.mem_range.mp hk
  refine ⟨?_, ?_, ?_, ?_, h0, h1, fun w e => by cases e⟩
  · show (0 : Int) ≤ (k : Int) / 8
    omega
  · show (k : Int) / 8 < n
    omega
  · show (0 : Int) ≤ (k : Int) % 8
    omega
  · show (k : Int) % 8 < 8
    omega
theorem ev_asc (n : Nat) (h : Int) : (evGs n h).Pairwise glt := by
  unfold evGs
  rw [List.pairwise_map]
  refine List.Pairwise.imp (fun {a b} hab => ?_) List.pairwise_lt_range
  unfold glt
  simp only
  by_cases q : (a : Int) / 8 = (b : Int) / 8
  · exact .inr ⟨q, .inl (by omega)⟩
  · exact .inl (by omega)
theorem hour_taken_c (n : Nat) {h : Int} (h0 : 0 ≤ h) (h1 : h < 24) (k : Int) (st : Store) : callG (run fs fuel (n + 4)) st ix_hour_taken [.int h, .int k] st = .ok (.int h) st := by
  have e : callG (run fs fuel (n + 3)) st ix_number_taken [.int h, .int k, .int 0, .int 23] st = .ok (.int h) st := by
    have h2 : h ≤ 23 := by omega
    rw [callG, run_number_taken, runFd_eq rfl]
    simp [F_number_taken, B_number_taken, startE, is_number_i, h0, h2]
  rw [callG, run_hour_taken, runFd_eq rfl]
  simp [F_hour_taken, B_hour_taken, startE, e]
theorem anywhere_c (n : Nat) {L : Land} (hL : L.Ok) {h : Int} (h0 : 0 ≤ h) (h1 : h < 24) (st : Store) : callG (run fs fuel (n + 10)) st ix_anywhere [L.d, .int h] st = .ok (.tup ((evGs L.spots.length h).map Gs.d)) st := by
  have n12 := hL.n12
  have e1 := land_taken_t (fuel := fuel) n hL 1 st
  have e2 := hour_taken_c (fuel := fuel) (n + 5) h0 h1 2 st
  have e3 := many_spots_c (fuel := fuel) (n + 8) L st
  have hr : rngItems 0 L.spots.length = some (rngW L.spots.length) := rngN (by omega)
  have e : ((List.range L.spots.length).flatMap fun (x : Nat) => (List.range 8).map fun (f : Nat) => D.tup [.int (x : Int), .int (f : Int), .int h, .non]) = (evGs L.spots.length h).map Gs.d := by
    rw [← any_ev]
    unfold anyGs
    rw [List.map_flatMap]
    congr 1
  rw [callG, run_anywhere, runFd_eq rfl]
  simp [F_anywhere, B_anywhere, startE, e1, e2]
  rw [bfnC_tup2 (w := rngW L.spots.length) (List.range L.spots.length) encN (fun _ => List.range 8) encN (fun (s f : Nat) => .tup [.int (s : Int), .int (f : Int), .int h, .non]) (by simp [e3, hr]) rfl rfl (by
    rw [e, List.length_map, ev_len]
    unfold LIM
    omega)]
  · rw [e]
    have hu : unders ((evGs L.spots.length h).map Gs.d) st.length = true := unders_map fun g _ => g.under _
    simp [hu]
  · intro s hs
    refine ⟨_, rfl, rngW 8, ?_, rfl, rfl, fun f hf => ⟨_, rfl, ?_⟩⟩
    · simp [wipeE]
    · simp [wipeE]
  · intro s _ f _
    simp
end Pd.T
end
section
set_option Elab.async false
set_option linter.all false
set_option maxRecDepth 100000
set_option autoImplicit false
/-! What the law draws. -/
namespace Pd.T
open PySem
variable {fuel : Nat}
def nx (s : Int) : Int := (s * 48271 + 12345) % 2147483647
def dr (s m : Int) : Int := nx s / 11 % m
theorem dr0 (s : Int) {m : Int} (h : 0 < m) : 0 ≤ dr s m := Int.emod_nonneg _ (by omega)
theorem dr1 (s : Int) {m : Int} (h : 0 < m) : dr s m < m := Int.emod_lt_of_pos _ h
theorem draw_c (n : Nat) {S : Store} {r : Nat} {s m : Int} (h : S[r]? = some (.lst [.int s])) (hm : 0 < m) : callG (run fs fuel (n + 1)) S ix_law_draw [.ref r, .int m] S = .ok (.int (dr s m)) (S.set r (.lst [.int (nx s)])) := by
  have e : run fs fuel (n + 1) ix_law_draw [.ref r, .int m] S = .ok (.int (dr s m)) (S.set r (.lst [.int (nx s)])) := by
    rw [run_law_draw, runFd_eq rfl]
    have h2 : (S.set r (.lst [.int (nx s)]))[r]? = some (.lst [.int (nx s)]) := at_set h
    have i1 : idx (.ref r) (.int 0) S = .ok (.int s) S := by rw [idx_l h]; rfl
    have i2 : idx (.ref r) (.int 0) (S.set r (.lst [.int (nx s)])) = .ok (.int (nx s)) (S.set r (.lst [.int (nx s)])) := by rw [idx_l h2]; rfl
    simp [F_law_draw, B_law_draw, startE, i1, bop_mulr, bop_mod]
    rw [show ∀ env : Env, putD env (.int ((s * 48271 + 12345) % 2147483647)) (.ref r) (.int 0) S = .nx env (S.set r (.lst [.int (nx s)])) from fun env => putD_lst h (j := 0) rfl]
    simp [i2, bop_fdiv, bop_mod hm]
    rfl
  rw [callG_ok e, gc_set (by simp) (by simp)]
theorem draw_W (n : Nat) {st : Store} {r : Nat} {s m : Int} {L : Store} (hr : r < st.length) (hm : 0 < m) : callG (run fs fuel (n + 1)) (Wd st r s L) ix_law_draw [.ref r, .int m] (Wd st r s L) = .ok (.int (dr s m)) (Wd st r (nx s) L) := by
  rw [draw_c n (Wd_get hr) hm, Wd_set hr]
theorem word_bell : wordB "bell" = true := by decide +kernel
theorem word_water : wordB "water" = true := by decide +kernel
theorem word_wind : wordB "wind" = true := by decide +kernel
theorem word_grass : wordB "grass" = true := by decide +kernel
theorem word_stone : wordB "stone" = true := by decide +kernel
theorem pick2 {a b : D} {i : Int} (h0 : 0 ≤ i) (h1 : i < 2) : atI [a, b] i = some (if i = 0 then a else b) := by
  have : i = 0 ∨ i = 1 := by omega
  rcases this with h | h <;> subst h <;> rfl
theorem pick3 {a b c : D} {i : Int} (h0 : 0 ≤ i) (h1 : i < 3) : atI [a, b, c] i = some (if i = 0 then a else if i = 1 then b else c) := by
  have : i = 0 ∨ i = 1 ∨ i = 2 := by omega
  rcases this with h | h | h <;> subst h <;> rfl
def WayPost (st : Store) (r : Nat) (m : Int) (ws : List (Option Psg)) (x : Int) (tl : Env) (env : Env) (S : Store) : Prop := ∃ s' w e4 e5, (∀ p, w = some p → Psg.Ok m p) ∧ env = [some (.ref r), some (.int m), some (.ref st.length), some (.int x), e4, e5] ++ tl ∧ S = Wd st r s' [.lst ((ws ++ [w]).map wayD)]
theorem way_app {cl : Fn} {st : Store} {r : Nat} {m : Int} {x : Int} (s : Int) {ws : List (Option Psg)} (hw : ws.length < 8) (w : Option Psg) (hok : ∀ p, w = some p → Psg.Ok m p) (e5 : Option D) (tl : Env) (d : D) (hd : d = wayD w) :
    Ends (WayPost st r m ws x tl) (fun _ _ => False) (fun _ _ => False) ((appR (.ref st.length) (.slot 4) cl (some (.ref r) :: some (.int m) :: some (.ref st.length) :: some (.int x) :: some d :: e5 :: tl) (Wd st r s [.lst (ws.map wayD)])).andThen fun env st => .nx env st) := by
  subst hd
  rw [appR_ok (ds := ws.map wayD) (by rw [Wd_at0]; rfl)]
  simp
  rw [appD_ok (ds := ws.map wayD) (by rw [Wd_at0]; rfl) (by unfold LIM; simp; omega), Wd_put0]
  simp
  exact ⟨s, w, some (wayD w), e5, hok, rfl, by simp⟩
theorem way_body (n : Nat) {st : Store} {r : Nat} (hr : r < st.length) {m : Int} (hm : 0 < m) {x : Int} (x0 : 0 ≤ x) (x1 : x < 8) (s : Int) (ws : List (Option Psg)) (hw : ws.length < 8) (e4 e5 : Option D) (tl : Env) :
    Ends (WayPost st r m ws x tl) (fun _ _ => False) (fun _ _ => False) (denSs (run fs fuel (n + 1)) fuel LB_law_spot_1 (some (.ref r) :: some (.int m) :: some (.ref st.length) :: some (.int x) :: e4 :: e5 :: tl) (Wd st r s [.lst (ws.map wayD)])) := by
  have gr : ∀ i : Int, 0 ≤ i → i < 2 → ∃ w, wordB w = true ∧ atI [D.str "grass", D.str "stone"] i = some (.str w) := fun i h0 h1 => by
    rw [pick2 h0 h1]
    split
    · exact ⟨_, word_grass, rfl⟩
    · exact ⟨_, word_stone, rfl⟩
  by_cases h1 : dr s 10 < 4
  · by_cases h2 : 0 < dr (nx s) 4
    · obtain ⟨w, hw1, e⟩ := gr (dr (nx (nx (nx s))) 2) (dr0 _ (by omega)) (dr1 _ (by omega))
      simp [LB_law_spot_1, draw_W n hr, h1, h2, hm, e]
      exact way_app _ hw (some ⟨dr (nx (nx s)) m, x, w⟩) (fun p hp => by cases hp; exact ⟨dr0 _ hm, dr1 _ hm, x0, x1, hw1⟩) _ _ _ rfl
    · obtain ⟨w, hw1, e⟩ := gr (dr (nx (nx (nx (nx s)))) 2) (dr0 _ (by omega)) (dr1 _ (by omega))
      simp [LB_law_spot_1, draw_W n hr, h1, h2, hm, e]
      exact way_app _ hw (some ⟨dr (nx (nx (nx s))) m, dr (nx (nx s)) 8, w⟩) (fun p hp => by cases hp; exact ⟨dr0 _ hm, dr1 _ hm, dr0 _ (by show (0:Int) < 8; omega), dr1 _ (by omega), hw1⟩) _ _ _ rfl
  · simp [LB_law_spot_1, draw_W n hr, h1]
    exact way_app _ hw none (fun p hp => by cases hp) _ _ _ rfl
def HrNe (a b : Hr) : Prop := ¬ (a.sign = b.sign ∧ a.whence = b.whence)
def HearPost (st : Store) (r : Nat) (m : Int) (P : Cell) (hs : List Hr) (e0 : Env) (env : Env) (S : Store) : Prop := ∃ (s' : Int) (hs' : List Hr) (e7 e8 e9 e10 e11 e12 : Option D), (∀ h ∈ hs', Hr.Ok h) ∧ hs'.Pairwise HrNe ∧ hs'.length ≤ hs.length + 1 ∧ env = some (.ref r) :: some (.int m) :: e0 ++ [some (.ref (st.length + 1)), e7, e8, e9, e10, e11, e12] ∧ S = Wd st r s' [P, .lst (hs'.map Hr.d)]
theorem any_hr (hs : List Hr) (sg : Str) (wh : Option Int) (h : (hs.any fun x => decide (x.sign = sg) && decide (x.whence = wh)) = false) : ∀ x ∈ hs, ¬ (x.sign = sg ∧ x.whence = wh) := fun x hx ⟨e1, e2⟩ => by
  have := (List.any_eq_false.mp h) x hx
  simp [e1, e2] at this
theorem hear_body (n : Nat) {st : Store} {r : Nat} (hr : r < st.length) {m : Int} (s : Int) (P : Cell) (hs : List Hr) (hl : hs.length < 60) (ho : ∀ h ∈ hs, Hr.Ok h) (hp : hs.Pairwise HrNe) (e2 e3 e4 e5 e7 e8 e9 e10 e11 e12 : Option D) :
    Ends (HearPost st r m P hs [e2, e3, e4, e5]) (fun _ _ => False) (fun _ _ => False) (denSs (run fs fuel (n + 1)) fuel LB_law_spot_2 [some (.ref r), some (.int m), e2, e3, e4, e5, some (.ref (st.length + 1)), e7, e8, e9, e10, e11, e12] (Wd st r s [P, .lst (hs.map Hr.d)])) := by
  unfold LB_law_spot_2
  refine Ends.set (fun d S => ∃ sg s', wordB sg = true ∧ d = .str sg ∧ S = Wd st r s' [P, .lst (hs.map Hr.d)]) ?_ fun d S ⟨sg, s1, hsg, e, e'⟩ => ?_
  · have h0 := dr0 s (m := 3) (by omega)
    have h1 := dr1 s (m := 3) (by omega)
    refine ⟨.str (if dr s 3 = 0 then "bell" else if dr s 3 = 1 then "water" else "wind"), Wd st r (nx s) [P, .lst (hs.map Hr.d)], ?_, _, _, ?_, rfl, rfl⟩
    · simp [draw_W n hr, pick3 h0 h1]
      split
      · rfl
      · split <;> rfl
    · split
      · exact word_bell
      · split
        · exact word_water
        · exact word_wind
  subst e e'
  refine Ends.set (fun d S => ∃ wh s', whB wh = true ∧ d = optI wh ∧ S = Wd st r s' [P, .lst (hs.map Hr.d)]) ?_ fun d S ⟨wh, s2, hwh, e, e'⟩ => ?_
  · by_cases h : dr s1 3 = 0
    · exact ⟨.non, Wd st r (nx s1) [P, .lst (hs.map Hr.d)], by simp [draw_W n hr, h], none, _, rfl, rfl, rfl⟩
    · refine ⟨.int (dr (nx s1) 8), Wd st r (nx (nx s1)) [P, .lst (hs.map Hr.d)], by simp [draw_W n hr, h], some (dr (nx s1) 8), _, ?_, rfl, rfl⟩
      have h0 := dr0 (nx s1) (m := 8) (by omega)
      have h1 := dr1 (nx s1) (m := 8) (by omega)
      have : dr (nx s1) 8 ≤ 7 := by omega
      simp [whB, h0, this]
  subst e e'
  refine Ends.set (fun d S => ∃ f s', 0 ≤ f ∧ f < 20 ∧ d = .int f ∧ S = Wd st r s' [P, .lst (hs.map Hr.d)]) ?_ fun d S ⟨f, s3, f0, f1, e, e'⟩ => ?_
  · by_cases h : dr s2 2 = 0
    · exact ⟨.int 0, Wd st r (nx s2) [P, .lst (hs.map Hr.d)], by simp [draw_W n hr, h], 0, _, by omega, by omega, rfl, rfl⟩
    · exact ⟨.int (dr (nx s2) 20), Wd st r (nx (nx s2)) [P, .lst (hs.map Hr.d)], by simp [draw_W n hr, h], _, _, dr0 _ (by omega), dr1 _ (by omega), rfl, rfl⟩
  subst e e'
  refine Ends.set (fun d S => ∃ l s', f < l ∧ l ≤ 24 ∧ d = .int l ∧ S = Wd st r s' [P, .lst (hs.map Hr.d)]) ?_ fun d S ⟨l, s4, l0, l1, e, e'⟩ => ?_
  · by_cases h : dr s3 2 = 0
    · exact ⟨.int 24, Wd st r (nx s3) [P, .lst (hs.map Hr.d)], by simp [draw_W n hr, h], _, _, by omega, by omega, rfl, rfl⟩
    · have hm : 0 < 24 - f := by omega
      have h0 := dr0 (nx s3) hm
      have h1 := dr1 (nx s3) hm
      exact ⟨.int (f + 1 + dr (nx s3) (24 - f)), Wd st r (nx (nx s3)) [P, .lst (hs.map Hr.d)], by simp [draw_W n hr, h, show f < 24 by omega], _, _, by omega, by omega, rfl, rfl⟩
  subst e e'
  have any : bfnC .any (run fs fuel (n + 1)) (.comp (.band (.cons (.cmp .eq (.idx (.slot 12) (.cint 0)) (.slot 8)) (.cons (.cmp .eq (.idx (.slot 12) (.cint 1)) (.slot 9)) .nil))) (.one 12) (.seq (.slot 6)) .none [12]) [some (.ref r), some (.int m), e2, e3, e4, e5, some (.ref (st.length + 1)), e7, some (.str sg), some (optI wh), some (.int f), some (.int l), e12] (Wd st r s4 [P, .lst (hs.map Hr.d)]) = .ok (.bl (hs.any fun x => decide (x.sign = sg) && decide (x.whence = wh))) (Wd st r s4 [P, .lst (hs.map Hr.d)]) := by
    refine bfnC_anyA (w := ⟨hs.map Hr.d, some (st.length + 1)⟩) hs Hr.d _ ?_ rfl (srcOk_some (by rw [Wd_at]; rfl)) (by unfold LIM; omega) fun x hx => ⟨_, rfl, ?_⟩
    · simp
      rw [itemsOf_ref (ds := hs.map Hr.d) (by rw [Wd_at]; rfl)]
      rfl
    · have q1 : eqD (Wd st r s4 [P, .lst (hs.map Hr.d)]) (.str x.sign) (.str sg) = some (decide (x.sign = sg)) := eqS (wordB_fit (ho x hx).sg) (wordB_fit hsg)
      have q2 : eqD (Wd st r s4 [P, .lst (hs.map Hr.d)]) (optI x.whence) (optI wh) = some (decide (x.whence = wh)) := by
        rw [eqD_pl (k := 0) (j := 0) (optI_pl _ _) (optI_pl _ _) (by omega) (by omega), eq_opt]
      simp [wipeE, Hr.d, q1, q2]
  simp [any]
  cases ha : hs.any (fun x => decide (x.sign = sg) && decide (x.whence = wh)) with
  | true => 
    simp
    exact ⟨s4, hs, _, _, _, _, _, _, ho, hp, by omega, rfl, rfl⟩
  | false =>
    simp
    rw [appR_ok (ds := hs.map Hr.d) (by rw [Wd_at]; rfl)]
    simp
    rw [appD_ok (ds := hs.map Hr.d) (by rw [Wd_at]; rfl) (by unfold LIM; simp; omega), Wd_put]
    simp
    refine ⟨s4, hs ++ [⟨sg, wh, f, l⟩], _, _, _, _, _, _, fun h hh => ?_, ?_, by simp, rfl, by simp [Hr.d]⟩
    · rcases List.mem_append.mp hh with hh | hh
      · exact ho h hh
      · rw [List.mem_singleton] at hh
        rw [hh]
        exact ⟨hsg, hwh, f0, l0, l1⟩
    · rw [List.pairwise_append]
      refine ⟨hp, by simp, fun a h b hb => ?_⟩
      rw [List.mem_singleton] at hb
      rw [hb]
      exact any_hr hs sg wh ha a h
end Pd.T
end
section
set_option Elab.async false
set_option linter.all false
set_option maxRecDepth 100000
set_option autoImplicit false
/-! A spot that the law draws. -/
namespace Pd.T
open PySem
variable {fuel : Nat}
instance (a b : Hr) : Decidable (Hr.lt a b) := by unfold Hr.lt; infer_instance
instance (a b : Dg) : Decidable (Dg.lt a b) := by unfold Dg.lt; infer_instance
theorem wI_inj {v w : Option Int} (hv : whB v = true) (hw : whB w = true) (h : wI v = wI w) : v = w := by
  cases v <;> cases w <;> simp [whB, wI] at *
  · omega
  · omega
  · exact h
theorem Hr.lt_irr (a : Hr) : ¬ Hr.lt a a := by
  rintro (h | ⟨_, h⟩)
  · exact T.lt_irr _ h
  · omega
theorem Hr.lt_trans {a b c : Hr} (h1 : Hr.lt a b) (h2 : Hr.lt b c) : Hr.lt a c := by
  rcases h1 with h1 | ⟨e1, h1⟩ <;> rcases h2 with h2 | ⟨e2, h2⟩
  · exact .inl (List.lt_trans h1 h2)
  · rw [e2] at h1; exact .inl h1
  · rw [← e1] at h2; exact .inl h2
  · exact .inr ⟨e1.trans e2, by omega⟩
theorem Hr.lt_keys {a b : Hr} (h1 : ¬ Hr.lt a b) (h2 : ¬ Hr.lt b a) : a.sign = b.sign ∧ wI a.whence = wI b.whence := by
  unfold Hr.lt at h1 h2
  have e : a.sign = b.sign := Str.ext' (List.le_antisymm (List.not_lt.mp fun z => h2 (.inl z)) (List.not_lt.mp fun z => h1 (.inl z)))
  refine ⟨e, ?_⟩
  have q1 : ¬ (wI a.whence < wI b.whence) := fun z => h1 (.inr ⟨e, z⟩)
  have q2 : ¬ (wI b.whence < wI a.whence) := fun z => h2 (.inr ⟨e.symm, z⟩)
  omega
theorem Hr.lt_neg {a b c : Hr} (h1 : ¬ Hr.lt b a) (h2 : ¬ Hr.lt c b) : ¬ Hr.lt c a := fun h3 => by
  by_cases h4 : Hr.lt a b
  · exact h2 (Hr.lt_trans h3 h4)
  · obtain ⟨e1, e2⟩ := Hr.lt_keys h4 h1
    apply h2
    unfold Hr.lt at h3 ⊢
    rw [e1, e2] at h3
    exact h3
def HrNeB (a b : Hr) : Prop := HrNe a b ∧ whB a.whence = true ∧ whB b.whence = true
theorem hr_sorted {hs : List Hr} (ho : ∀ h ∈ hs, h.Ok) (hp : hs.Pairwise HrNe) : (hs.mergeSort fun a b => !decide (Hr.lt b a)).Pairwise Hr.lt :=
  sort_asc (ne := HrNeB) Hr.lt_irr Hr.lt_trans Hr.lt_neg (fun {a b} h n => by
    by_cases q : Hr.lt a b
    · exact q
    · obtain ⟨e1, e2⟩ := Hr.lt_keys q n
      exact absurd ⟨e1, wI_inj h.2.1 h.2.2 e2⟩ h.1) (fun {a b} h => ⟨fun z => h.1 ⟨z.1.symm, z.2.symm⟩, h.2.2, h.2.1⟩) (List.Pairwise.imp_of_mem (fun {a b} ha hb h => ⟨h, (ho a ha).wh, (ho b hb).wh⟩) hp)
theorem Dg.lt_irr (a : Dg) : ¬ Dg.lt a a := by unfold Dg.lt; omega
theorem Dg.lt_trans {a b c : Dg} (h1 : Dg.lt a b) (h2 : Dg.lt b c) : Dg.lt a c := by unfold Dg.lt at *; omega
theorem Dg.lt_neg {a b c : Dg} (h1 : ¬ Dg.lt b a) (h2 : ¬ Dg.lt c b) : ¬ Dg.lt c a := by unfold Dg.lt at *; omega
def DgNe (a b : Dg) : Prop := ¬ (a.spot = b.spot ∧ a.dir = b.dir)
def DgNeB (a b : Dg) : Prop := DgNe a b ∧ whB a.dir = true ∧ whB b.dir = true
theorem dg_sorted {m : Int} {hs : List Dg} (ho : ∀ h ∈ hs, Dg.Ok m h) (hp : hs.Pairwise DgNe) : (hs.mergeSort fun a b => !decide (Dg.lt b a)).Pairwise Dg.lt :=
  sort_asc (ne := DgNeB) Dg.lt_irr Dg.lt_trans Dg.lt_neg (fun {a b} h n => by
    by_cases q : Dg.lt a b
    · exact q
    · have e1 : a.spot = b.spot := by unfold Dg.lt at *; omega
      have e2 : wI a.dir = wI b.dir := by unfold Dg.lt at *; omega
      exact absurd ⟨e1, wI_inj h.2.1 h.2.2 e2⟩ h.1) (fun {a b} h => ⟨fun z => h.1 ⟨z.1.symm, z.2.symm⟩, h.2.2, h.2.1⟩) (List.Pairwise.imp_of_mem (fun {a b} ha hb h => ⟨h, (ho a ha).wh, (ho b hb).wh⟩) hp)
def hkey (h : Hr) : D := .tup [.str h.sign, .int (wI h.whence)]
def dkey (h : Dg) : D := .tup [.int h.spot, .int (wI h.dir)]
theorem whence_r (n : Nat) (a : D) (w : Option Int) (r : List D) (st : Store) : run fs fuel (n + 1) ix_law_whence [.tup (a :: optI w :: r)] st = .ok (.tup [a, .int (wI w)]) st := by
  rw [run_law_whence, runFd_eq rfl]
  cases w <;> simp [F_law_whence, B_law_whence, startE, optI, wI]
theorem hkey_lt (a b : Hr) : (hkey a).lt (hkey b) = some (decide (Hr.lt a b)) := by
  unfold hkey Hr.lt
  simp only [D.lt, lts, D.eq]
  by_cases h1 : a.sign = b.sign
  · by_cases h2 : wI a.whence = wI b.whence
    · simp [h1, h2, T.lt_irr]
    · simp [h1, h2]
      exact fun z => absurd (show b.sign.cps.toList < b.sign.cps.toList from z) (T.lt_irr _)
  · simp [h1]
theorem dkey_lt (a b : Dg) : (dkey a).lt (dkey b) = some (decide (Dg.lt a b)) := by
  unfold dkey Dg.lt
  simp only [D.lt, lts, D.eq]
  by_cases h1 : a.spot = b.spot
  · by_cases h2 : wI a.dir = wI b.dir
    · simp [h1, h2]
    · simp [h1, h2]
  · simp [h1]
theorem hkeys_sortable {hs : List Hr} (h : ∀ g ∈ hs, Hr.Ok g) : sortable (hs.map hkey) = true := by
  unfold sortable
  rw [Bool.and_eq_true, Bool.or_eq_true]
  refine ⟨.inl (List.all_eq_true.mpr fun r hr => ?_), List.all_eq_true.mpr fun r hr => ?_⟩
  · obtain ⟨g, _, rfl⟩ := List.mem_map.mp hr
    rfl
  · obtain ⟨g, hg, rfl⟩ := List.mem_map.mp hr
    rw [Bool.and_eq_true]
    refine ⟨?_, List.all_eq_true.mpr fun q hq => ?_⟩
    · have := wordB_fit (h g hg).sg
      exact pl_fit60 (k := 1) (by simp [hkey] at this ⊢; exact this) (by omega)
    · obtain ⟨g', _, rfl⟩ := List.mem_map.mp hq
      rfl
theorem dkeys_sortable (hs : List Dg) : sortable (hs.map dkey) = true := by
  unfold sortable
  rw [Bool.and_eq_true, Bool.or_eq_true]
  refine ⟨.inl (List.all_eq_true.mpr fun r hr => ?_), List.all_eq_true.mpr fun r hr => ?_⟩
  · obtain ⟨g, _, rfl⟩ := List.mem_map.mp hr
    rfl
  · obtain ⟨g, hg, rfl⟩ := List.mem_map.mp hr
    rw [Bool.and_eq_true]
    refine ⟨rfl, List.all_eq_true.mpr fun q hq => ?_⟩
    obtain ⟨g', _, rfl⟩ := List.mem_map.mp hq
    rfl
theorem sortK_hr (hs : List Hr) : sortK (hs.map hkey) (hs.map Hr.d) = (hs.mergeSort fun a b => !decide (Hr.lt b a)).map Hr.d := sortK_map hs hkey Hr.d _ fun a _ b _ => by
  rw [hkey_lt]
  rfl
theorem sortK_dg (hs : List Dg) : sortK (hs.map dkey) (hs.map Dg.d) = (hs.mergeSort fun a b => !decide (Dg.lt b a)).map Dg.d := sortK_map hs dkey Dg.d _ fun a _ b _ => by
  rw [dkey_lt]
  rfl
/-- tuple(sorted(xs, key=f)) of a list -/
theorem tuple_sortk {α : Type} {cl : Fn} {env : Env} {S : Store} {i r f : Nat} (xs zs : List α) (enc kf : α → D) (hi : env[i]? = some (some (.ref r))) (hr : S[r]? = some (.lst (xs.map enc))) (hk : ∀ x ∈ xs, cl f [enc x] S = .ok (kf x) S) (hu : ∀ x ∈ xs, (kf x).under 0 = true) (hs : sortable (xs.map kf) = true) (he : sortK (xs.map kf) (xs.map enc) = zs.map enc) (hv : unders (zs.map enc) S.length = true) :
    den cl (.bfn .tuple (.cons (.sortk (.slot i) f) .nil)) env S = .ok (.tup (zs.map enc)) S := by
  simp
  rw [den_sortk xs enc kf (x := .ref r) (st1 := S) (by simp [hi]) (rowsOf_lst hr) hk hu hs, he, gc_new0 (c := .lst (zs.map enc)) (by rw [cunder_lst]; exact hv)]
  simp only [R.bind_ok]
  rw [bfnG_tupl (ds := zs.map enc) (by simp), gc_app (d := .tup (zs.map enc)) (by rw [under_tup]; exact hv)]
theorem spot_c (n : Nat) {S : Store} {r : Nat} {s m : Int} (hS : S[r]? = some (.lst [.int s])) (hm : 0 < m) :
    ∃ sp s', Spot.Ok m sp ∧ callG (run fs fuel (n + 2)) S ix_law_spot [.ref r, .int m] S = .ok sp.d (S.set r (.lst [.int s'])) := by
  have hr := lt_of_at hS
  have key : ∀ S1, S1 = Wd S r s [] → Gives (fun d S' => ∃ sp s' L, Spot.Ok m sp ∧ d = sp.d ∧ S' = Wd S r s' L) (run fs fuel (n + 2) ix_law_spot [.ref r, .int m] S1) := by
    intro S1 hS1
    rw [run_law_spot]
    refine run_gives rfl ?_
    subst hS1
    simp only [F_law_spot, B_law_spot, startE]
    refine Ends.set (fun d S' => d = .ref S.length ∧ S' = Wd S r s [.lst []]) ⟨_, _, by simp, rfl, rfl⟩ fun d S' ⟨e, e'⟩ => ?_
    subst e e'
    refine Ends.loop (List.range 8) encN (fun rest env S' => ∃ s' ws e3 e4 e5, ws.length + rest.length = 8 ∧ (∀ w ∈ ws, ∀ p, w = some p → Psg.Ok m p) ∧ (∀ k ∈ rest, k < 8) ∧ env = some (.ref r) :: some (.int m) :: some (.ref S.length) :: e3 :: e4 :: e5 :: List.replicate 7 none ∧ S' = Wd S r s' [.lst (ws.map wayD)]) (w := rngW 8) (st1 := Wd S r s [.lst []]) (by simp) rfl (fun _ _ _ _ => rfl) ⟨s, [], none, none, none, by simp, by simp, fun k hk => List.mem_range.mp hk, rfl, rfl⟩ ?_ ?_
    · rintro x rest env S' ⟨s', ws, e3, e4, e5, h1, h2, h3, rfl, rfl⟩
      refine ⟨_, rfl, ?_⟩
      have hx := h3 x List.mem_cons_self
      simp only [List.length_cons] at h1
      have := way_body (fuel := fuel) n hr hm (x := (x : Int)) (by omega) (by omega) s' ws (by omega) none none (List.replicate 7 none)
      refine Ends.imp this (fun e t ⟨s2, w, e4, e5, q1, q2, q3⟩ => ⟨s2, ws ++ [w], _, _, _, by simp; omega, fun w' hw' => ?_, fun k hk => h3 k (List.mem_cons_of_mem _ hk), q2, q3⟩) (fun _ _ h => h.elim) (fun _ _ h => h.elim)
      rcases List.mem_append.mp hw' with h | h
      · exact h2 w' h
      · rw [List.mem_singleton] at h
        rw [h]; exact q1
    · rintro env S' ⟨s1, ws, e3, e4, e5, h1, h2, h3, rfl, rfl⟩
      simp only [List.length_nil, Nat.add_zero] at h1
      refine Ends.set (fun d S' => d = .ref (S.length + 1) ∧ S' = Wd S r s1 [.lst (ws.map wayD), .lst []]) ⟨_, _, by simp [wipeE], rfl, rfl⟩ fun d S' ⟨e, e'⟩ => ?_
      subst e e'
      have k0 := dr0 s1 (m := 4) (by omega)
      have k1 := dr1 s1 (m := 4) (by omega)
      refine Ends.loop (List.range (dr s1 4).toNat) encN (fun rest env S' => ∃ s' hs e7 e8 e9 e10 e11 e12, hs.length + rest.length ≤ 4 ∧ (∀ h ∈ hs, Hr.Ok h) ∧ hs.Pairwise HrNe ∧ env = [some (.ref r), some (.int m), some (.ref S.length), none, none, none, some (.ref (S.length + 1)), e7, e8, e9, e10, e11, e12] ∧ S' = Wd S r s' [.lst (ws.map wayD), .lst (hs.map Hr.d)]) (w := rngW (dr s1 4).toNat) (st1 := Wd S r (nx s1) [.lst (ws.map wayD), .lst []]) (by simp [wipeE, draw_W n hr]; rw [rngL k0 (by omega)]; rfl) rfl (fun _ _ _ _ => rfl) ⟨nx s1, [], none, none, none, none, none, none, by simp; omega, by simp, by simp, rfl, rfl⟩ ?_ ?_
      · rintro x rest env S' ⟨s', hs, e7, e8, e9, e10, e11, e12, g1, g2, g3, rfl, rfl⟩
        refine ⟨_, rfl, ?_⟩
        simp only [List.length_cons] at g1
        have := hear_body (fuel := fuel) n hr (m := m) s' (.lst (ws.map wayD)) hs (by omega) g2 g3 (some (.ref S.length)) none none none (some (.int (x : Int))) none none none none e12
        refine Ends.imp this (fun e t ⟨s2, hs', e7, e8, e9, e10, e11, e12, q1, q2, q3, q4, q5⟩ => ⟨s2, hs', e7, e8, e9, e10, e11, e12, by omega, q1, q2, q4, q5⟩) (fun _ _ h => h.elim) (fun _ _ h => h.elim)
      · rintro env S' ⟨s', hs, e7, e8, e9, e10, e11, e12, g1, g2, g3, rfl, rfl⟩
        simp only [List.length_nil, Nat.add_zero] at g1
        have t1 : bfnG .tuple (Wd S r s' [.lst (ws.map wayD), .lst (hs.map Hr.d)]) [.ref S.length] (Wd S r s' [.lst (ws.map wayD), .lst (hs.map Hr.d)]) = .ok (.tup (ws.map wayD)) (Wd S r s' [.lst (ws.map wayD), .lst (hs.map Hr.d)]) := by
          rw [bfnG_tupl (ds := ws.map wayD) (by rw [Wd_at0]; rfl), gc_same]
          rw [under_tup]
          exact unders_map fun w _ => wayD_under w _
        have t2 := tuple_sortk (cl := run fs fuel (n + 1)) (env := wipeE [some (.ref r), some (.int m), some (.ref S.length), none, none, none, some (.ref (S.length + 1)), e7, e8, e9, e10, e11, e12] [7, 8, 9, 10, 11]) (S := Wd S r s' [.lst (ws.map wayD), .lst (hs.map Hr.d)]) (i := 6) (r := S.length + 1) (f := ix_law_whence) hs (hs.mergeSort fun a b => !decide (Hr.lt b a)) Hr.d hkey rfl (by rw [Wd_at]; rfl) (fun x _ => whence_r n _ _ _ _) (fun x _ => by simp [hkey]) (hkeys_sortable g2) (sortK_hr hs) (unders_map fun h _ => h.under _)
        refine Ends.cons ?_
        have t3 : den (run fs fuel (n + 1)) (.bfn .tuple (.cons (.slot 2) .nil)) (wipeE [some (.ref r), some (.int m), some (.ref S.length), none, none, none, some (.ref (S.length + 1)), e7, e8, e9, e10, e11, e12] [7, 8, 9, 10, 11]) (Wd S r s' [.lst (ws.map wayD), .lst (hs.map Hr.d)]) = .ok (.tup (ws.map wayD)) (Wd S r s' [.lst (ws.map wayD), .lst (hs.map Hr.d)]) := by simp [wipeE, t1]
        rw [ev_ret, ev_tup, ev_dens1, t3, R.bind_ok, ev_dens1, t2]
        simp
        refine ⟨⟨ws, hs.mergeSort fun a b => !decide (Hr.lt b a)⟩, ⟨h1, fun p hp => h2 _ hp p rfl, by rw [List.length_mergeSort]; omega, fun h hh => g2 h (List.mem_mergeSort.mp hh), hr_sorted g2 g3⟩, rfl, s', _, rfl⟩
  obtain ⟨d, S', e, sp, s', L, ok, rfl, rfl⟩ := key S (Wd_start hS)
  refine ⟨sp, s', ok, ?_⟩
  have hs : S = Wd S r s [] := Wd_start hS
  rw [callG_ok e]
  have := Wd_gc (st := S) (r := r) (s := s) (s' := s') (L := []) (M := L) (d := sp.d) hr (Spot.under _ _)
  rw [← hs, List.nil_append] at this
  rw [this]
  simp [Wd]
end Pd.T
end
section
set_option Elab.async false
set_option linter.all false
set_option maxRecDepth 100000
set_option autoImplicit false
/-! A land that the law draws. -/
namespace Pd.T
open PySem
variable {fuel : Nat}
theorem all_enc {α : Type} {f : α → D} {Q : α → Prop} : ∀ {zs : List D}, (∀ z ∈ zs, ∃ a, Q a ∧ z = f a) → ∃ xs : List α, zs = xs.map f ∧ ∀ a ∈ xs, Q a
  | [], _ => ⟨[], rfl, by simp⟩
  | z :: zs, h => by
    obtain ⟨a, q, e⟩ := h z List.mem_cons_self
    obtain ⟨xs, e2, q2⟩ := all_enc (zs := zs) fun y hy => h y (List.mem_cons_of_mem _ hy)
    refine ⟨a :: xs, by rw [e, e2]; rfl, fun b hb => ?_⟩
    rcases List.mem_cons.mp hb with hb | hb
    · rw [hb]; exact q
    · exact q2 b hb
theorem bfnC_tupJ {α : Type} {cl : Fn} {env : Env} {st st0 : Store} (xs : List α) (enc : α → D) {elt : E} {tg : Tg} {it : It} {own : List Nat} {w : Items} (J : Store → Prop) (P : α → D → Prop) (hit : denIt cl it env st = .ok w st0) (hw : w.ds = xs.map enc) (hJ : J st0) (hs : ∀ st, J st → srcOk st w = true) (hl : xs.length ≤ LIM)
    (h : ∀ x ∈ xs, ∀ st, J st → ∃ env', assignTg (wipeE env own) tg (enc x) = some env' ∧ ∃ y st2, den cl elt env' st = .ok y st2 ∧ J st2 ∧ P x y) :
    ∃ zs st', bfnC .tuple cl (.comp elt tg it .none own) env st = gc st (.tup zs) (st' ++ [.lst zs]) ∧ J st' ∧ (∀ z ∈ zs, ∃ x ∈ xs, P x z) ∧ zs.length = xs.length := by
  obtain ⟨zs, st', e, j, p, l⟩ := compLoop_all (env := wipeE env own) (tg := tg) (w := w) (elt := fun env st => (den cl elt env st).still) enc J P hs xs [] st0 hJ (fun x hx st hst => by
    obtain ⟨env', e1, y, st2, e2, j, p⟩ := h x hx st hst
    exact ⟨env', e1, y, st2, still_ok e2, j, p⟩) (by simpa using hl)
  refine ⟨zs, st', ?_, j, p, l⟩
  have e2 : den cl (.comp elt tg it .none own) env st = .ok (.ref st'.length) (st' ++ [.lst zs]) := by
    show (denIt cl it env st).bind _ = _
    rw [hit, R.bind_ok, hw]
    exact e
  rw [bfnC_of e2 (d := .tup zs) (st2 := st' ++ [.lst zs]) (by simp [bfn, bfn1, seqOf, lstAt])]
def DgPost (st : Store) (r : Nat) (m : Int) (gs : List Dg) (e0 : Env) (env : Env) (S : Store) : Prop := ∃ (s' : Int) (gs' : List Dg) (e4 e6 e7 e8 e9 : Option D), (∀ h ∈ gs', Dg.Ok m h) ∧ gs'.Pairwise DgNe ∧ gs'.length ≤ gs.length + 1 ∧ env = e0 ++ [e4, some (.ref st.length), e6, e7, e8, e9] ∧ S = Wd st r s' [.lst (gs'.map Dg.d)]
theorem any_dg (hs : List Dg) (sg : Int) (wh : Option Int) (h : (hs.any fun x => decide (x.spot = sg) && decide (x.dir = wh)) = false) : ∀ x ∈ hs, ¬ (x.spot = sg ∧ x.dir = wh) := fun x hx ⟨e1, e2⟩ => by
  have := (List.any_eq_false.mp h) x hx
  simp [e1, e2] at this
theorem dg_body (n : Nat) {st : Store} {r : Nat} (hr : r < st.length) {m : Int} (hm : 0 < m) (s : Int) (hs : List Dg) (hl : hs.length < 60) (ho : ∀ h ∈ hs, Dg.Ok m h) (hp : hs.Pairwise DgNe) (e1 e3 e4 e6 e7 e8 e9 : Option D) :
    Ends (DgPost st r m hs [some (.ref r), e1, some (.int m), e3]) (fun _ _ => False) (fun _ _ => False) (denSs (run fs fuel (n + 1)) fuel LB_law_land_1 [some (.ref r), e1, some (.int m), e3, e4, some (.ref st.length), e6, e7, e8, e9] (Wd st r s [.lst (hs.map Dg.d)])) := by
  unfold LB_law_land_1
  refine Ends.set (fun d S => ∃ p s', 0 ≤ p ∧ p < m ∧ d = .int p ∧ S = Wd st r s' [.lst (hs.map Dg.d)]) ⟨.int (dr s m), Wd st r (nx s) [.lst (hs.map Dg.d)], by simp [draw_W n hr, hm], _, _, dr0 _ hm, dr1 _ hm, rfl, rfl⟩ fun d S ⟨p, s1, p0, p1, e, e'⟩ => ?_
  subst e e'
  refine Ends.set (fun d S => ∃ wh s', whB wh = true ∧ d = optI wh ∧ S = Wd st r s' [.lst (hs.map Dg.d)]) ?_ fun d S ⟨wh, s2, hwh, e, e'⟩ => ?_
  · by_cases h : dr s1 2 = 0
    · exact ⟨.non, Wd st r (nx s1) [.lst (hs.map Dg.d)], by simp [draw_W n hr, h], none, _, rfl, rfl, rfl⟩
    · refine ⟨.int (dr (nx s1) 8), Wd st r (nx (nx s1)) [.lst (hs.map Dg.d)], by simp [draw_W n hr, h], some (dr (nx s1) 8), _, ?_, rfl, rfl⟩
      have h0 := dr0 (nx s1) (m := 8) (by omega)
      have h1 := dr1 (nx s1) (m := 8) (by omega)
      have : dr (nx s1) 8 ≤ 7 := by omega
      simp [whB, h0, this]
  subst e e'
  refine Ends.set (fun d S => ∃ f s', 0 ≤ f ∧ f < 22 ∧ d = .int f ∧ S = Wd st r s' [.lst (hs.map Dg.d)]) ⟨.int (dr s2 22), Wd st r (nx s2) [.lst (hs.map Dg.d)], by simp [draw_W n hr], _, _, dr0 _ (by omega), dr1 _ (by omega), rfl, rfl⟩ fun d S ⟨f, s3, f0, f1, e, e'⟩ => ?_
  subst e e'
  have any : bfnC .any (run fs fuel (n + 1)) (.comp (.band (.cons (.cmp .eq (.idx (.slot 9) (.cint 0)) (.slot 6)) (.cons (.cmp .eq (.idx (.slot 9) (.cint 1)) (.slot 7)) .nil))) (.one 9) (.seq (.slot 5)) .none [9]) [some (.ref r), e1, some (.int m), e3, e4, some (.ref st.length), some (.int p), some (optI wh), some (.int f), e9] (Wd st r s3 [.lst (hs.map Dg.d)]) = .ok (.bl (hs.any fun x => decide (x.spot = p) && decide (x.dir = wh))) (Wd st r s3 [.lst (hs.map Dg.d)]) := by
    refine bfnC_anyA (w := ⟨hs.map Dg.d, some st.length⟩) hs Dg.d _ ?_ rfl (srcOk_some (by rw [Wd_at0]; rfl)) (by unfold LIM; omega) fun x hx => ⟨_, rfl, ?_⟩
    · simp
      rw [itemsOf_ref (ds := hs.map Dg.d) (by rw [Wd_at0]; rfl)]
      rfl
    · have q2 : eqD (Wd st r s3 [.lst (hs.map Dg.d)]) (optI x.dir) (optI wh) = some (decide (x.dir = wh)) := by
        rw [eqD_pl (k := 0) (j := 0) (optI_pl _ _) (optI_pl _ _) (by omega) (by omega), eq_opt]
      simp [wipeE, Dg.d, q2]
  simp [any]
  cases ha : hs.any (fun x => decide (x.spot = p) && decide (x.dir = wh)) with
  | true =>
    simp
    exact ⟨s3, hs, _, _, _, _, _, ho, hp, by omega, rfl, rfl⟩
  | false =>
    have hm2 : 0 < 24 - f := by omega
    have h0 := dr0 s3 hm2
    have h1 := dr1 s3 hm2
    simp
    rw [appR_ok (ds := hs.map Dg.d) (by rw [Wd_at0]; rfl)]
    simp [draw_W n hr, show f < 24 by omega]
    rw [appD_ok (ds := hs.map Dg.d) (by rw [Wd_at0]; rfl) (by unfold LIM; simp; omega), Wd_put0]
    simp
    refine ⟨nx s3, hs ++ [⟨p, wh, f, f + 1 + dr s3 (24 - f)⟩], _, _, _, _, _, fun h hh => ?_, ?_, by simp, rfl, by simp [Dg.d]⟩
    · rcases List.mem_append.mp hh with hh | hh
      · exact ho h hh
      · rw [List.mem_singleton] at hh
        rw [hh]
        exact ⟨p0, p1, hwh, f0, by show f < f + 1 + dr s3 (24 - f); omega, by show f + 1 + dr s3 (24 - f) ≤ 24; omega⟩
    · rw [List.pairwise_append]
      refine ⟨hp, by simp, fun a h b hb => ?_⟩
      rw [List.mem_singleton] at hb
      rw [hb]
      exact any_dg hs p wh ha a h
theorem land_c (n : Nat) {S : Store} {r : Nat} {s most : Int} (hS : S[r]? = some (.lst [.int s])) (h0 : 0 < most) (h12 : most ≤ 12) :
    ∃ (L : Land) (s' : Int), L.Ok ∧ (L.spots.length : Int) ≤ most ∧ callG (run fs fuel (n + 3)) S ix_law_land [.ref r, .int most] S = .ok L.d (S.set r (.lst [.int s'])) := by
  have hr := lt_of_at hS
  have key : ∀ S1, S1 = Wd S r s [] → Gives (fun d S' => ∃ (L : Land) (s' : Int) (M : Store), L.Ok ∧ (L.spots.length : Int) ≤ most ∧ d = L.d ∧ S' = Wd S r s' M) (run fs fuel (n + 3) ix_law_land [.ref r, .int most] S1) := by
    intro S1 hS1
    rw [run_law_land]
    refine run_gives rfl ?_
    subst hS1
    simp only [F_law_land, B_law_land, startE]
    refine Ends.set (fun d S' => ∃ m, 0 < m ∧ m ≤ most ∧ d = .int m ∧ S' = Wd S r (nx s) []) ⟨.int (1 + dr s most), Wd S r (nx s) [], by simp [draw_W _ hr, h0], _, by have := dr0 s h0; omega, by have := dr1 s h0; omega, rfl, rfl⟩ fun d S' ⟨m, m0, m1, e, e'⟩ => ?_
    subst e e'
    refine Ends.set (fun d S' => ∃ (sps : List Spot) (s' : Int), (∀ sp ∈ sps, Spot.Ok m sp) ∧ (sps.length : Int) = m ∧ d = .tup (sps.map Spot.d) ∧ S' = Wd S r s' []) ?_ fun d S' ⟨sps, s2, q1, q2, e, e'⟩ => ?_
    · obtain ⟨zs, st', e, ⟨s', hj⟩, p, l⟩ := bfnC_tupJ (cl := run fs fuel (n + 2)) (env := [some (.ref r), some (.int most), some (.int m), none, none, none, none, none, none, none]) (st := Wd S r (nx s) []) (st0 := Wd S r (nx s) []) (List.range m.toNat) encN (elt := .call ix_law_spot (.cons (.slot 0) (.cons (.slot 2) .nil))) (tg := .one 4) (it := .rng1 (.slot 2)) (own := [4]) (w := rngW m.toNat) (fun st => ∃ s', st = Wd S r s' []) (fun _ d => ∃ sp, Spot.Ok m sp ∧ d = sp.d) (by simp; rw [rngL (by omega) (by omega)]; rfl) rfl ⟨_, rfl⟩ (fun _ _ => rfl) (by simp; omega) (fun x hx st ⟨s', e⟩ => by
        subst e
        obtain ⟨sp, s2, ok, e⟩ := spot_c (fuel := fuel) n (S := Wd S r s' []) (Wd_get hr) m0
        rw [Wd_set hr] at e
        exact ⟨_, rfl, sp.d, _, by simp [wipeE, e], ⟨s2, rfl⟩, sp, ok, rfl⟩)
      subst hj
      obtain ⟨sps, e2, ok⟩ := all_enc (f := Spot.d) (Q := Spot.Ok m) (zs := zs) fun z hz => by
        obtain ⟨_, _, h⟩ := p z hz
        exact h
      subst e2
      refine ⟨.tup (sps.map Spot.d), Wd S r s' [], ?_, sps, s', ok, by simp at l; omega, rfl, rfl⟩
      have := Wd_gc (st := S) (r := r) (s := nx s) (s' := s') (L := []) (M := [.lst (sps.map Spot.d)]) (d := .tup (sps.map Spot.d)) hr (by rw [under_tup]; exact unders_map fun sp _ => sp.under _)
      simp
      rw [e, Wd_app]
      exact this
    subst e e'
    refine Ends.set (fun d S' => d = .ref S.length ∧ S' = Wd S r s2 [.lst []]) ⟨_, _, by simp, rfl, rfl⟩ fun d S' ⟨e, e'⟩ => ?_
    subst e e'
    have k0 := dr0 s2 (m := 3) (by omega)
    have k1 := dr1 s2 (m := 3) (by omega)
    refine Ends.loop (List.range (dr s2 3).toNat) encN (fun rest env S' => ∃ (s' : Int) (gs : List Dg) (e4 e6 e7 e8 e9 : Option D), gs.length + rest.length ≤ 3 ∧ (∀ h ∈ gs, Dg.Ok m h) ∧ gs.Pairwise DgNe ∧ env = [some (.ref r), some (.int most), some (.int m), some (.tup (sps.map Spot.d)), e4, some (.ref S.length), e6, e7, e8, e9] ∧ S' = Wd S r s' [.lst (gs.map Dg.d)]) (w := rngW (dr s2 3).toNat) (st1 := Wd S r (nx s2) [.lst []]) (by simp [draw_W _ hr]; rw [rngL k0 (by omega)]; rfl) rfl (fun _ _ _ _ => rfl) ⟨nx s2, [], none, none, none, none, none, by simp; omega, by simp, by simp, rfl, rfl⟩ ?_ ?_
    · rintro x rest env S' ⟨s', gs, e4, e6, e7, e8, e9, g1, g2, g3, rfl, rfl⟩
      refine ⟨_, rfl, ?_⟩
      simp only [List.length_cons] at g1
      have := dg_body (fuel := fuel) (n + 1) hr (m := m) m0 s' gs (by omega) g2 g3 (some (.int most)) (some (.tup (sps.map Spot.d))) (some (.int (x : Int))) none none none e9
      refine Ends.imp this (fun e t ⟨s2, gs', e4, e6, e7, e8, e9, q1, q2, q3, q4, q5⟩ => ⟨s2, gs', e4, e6, e7, e8, e9, by omega, q1, q2, q4, q5⟩) (fun _ _ h => h.elim) (fun _ _ h => h.elim)
    · rintro env S' ⟨s', gs, e4, e6, e7, e8, e9, g1, g2, g3, rfl, rfl⟩
      simp only [List.length_nil, Nat.add_zero] at g1
      have t2 := tuple_sortk (cl := run fs fuel (n + 2)) (env := wipeE [some (.ref r), some (.int most), some (.int m), some (.tup (sps.map Spot.d)), e4, some (.ref S.length), e6, e7, e8, e9] [4, 6, 7, 8]) (S := Wd S r s' [.lst (gs.map Dg.d)]) (i := 5) (r := S.length) (f := ix_law_whence) gs (gs.mergeSort fun a b => !decide (Dg.lt b a)) Dg.d dkey rfl (by rw [Wd_at0]; rfl) (fun x _ => whence_r (n + 1) _ _ _ _) (fun x _ => by simp [dkey]) (dkeys_sortable gs) (sortK_dg gs) (unders_map fun h _ => h.under _)
      refine Ends.cons ?_
      have t3 : den (run fs fuel (n + 2)) (.slot 3) (wipeE [some (.ref r), some (.int most), some (.int m), some (.tup (sps.map Spot.d)), e4, some (.ref S.length), e6, e7, e8, e9] [4, 6, 7, 8]) (Wd S r s' [.lst (gs.map Dg.d)]) = .ok (.tup (sps.map Spot.d)) (Wd S r s' [.lst (gs.map Dg.d)]) := by simp [wipeE]
      rw [ev_ret, ev_tup, ev_dens1, t3, R.bind_ok, ev_dens1, t2]
      simp
      refine ⟨⟨sps, gs.mergeSort fun a b => !decide (Dg.lt b a)⟩, ⟨by show 1 ≤ sps.length; omega, by show sps.length ≤ 12; omega, fun sp h => by rw [q2]; exact q1 sp h, by rw [List.length_mergeSort]; omega, fun h hh => by rw [q2]; exact g2 h (List.mem_mergeSort.mp hh), dg_sorted g2 g3⟩, by show (sps.length : Int) ≤ most; omega, rfl, s', _, rfl⟩
  obtain ⟨d, S', e, L, s', M, ok, hl, rfl, rfl⟩ := key S (Wd_start hS)
  refine ⟨L, s', ok, hl, ?_⟩
  have hs : S = Wd S r s [] := Wd_start hS
  rw [callG_ok e]
  have := Wd_gc (st := S) (r := r) (s := s) (s' := s') (L := []) (M := M) (d := L.d) hr (Land.under _ _)
  rw [← hs, List.nil_append] at this
  rw [this]
  simp [Wd]
end Pd.T
end
section
set_option Elab.async false
set_option linter.all false
set_option maxRecDepth 100000
set_option autoImplicit false
/-! The law's own look at an event. -/
namespace Pd.T
open PySem
variable {fuel : Nat}
theorem law_heard_c (n : Nat) {L : Land} (hL : L.Ok) {s h : Int} (h0 : 0 ≤ s) (h1 : s < L.spots.length) (st : Store) : callG (run fs fuel (n + 1)) st ix_law_heard [L.d, .int s, .int h] st = .ok (.ref st.length) (st ++ [.lst ((heardL L s h).map hsD)]) := by
  rw [callG, run_law_heard, runFd_eq rfl]
  have hl := (hL.ss _ (spotAt_mem h0 h1).2).h12
  simp [F_law_heard, B_law_heard, startE]
  rw [den_comp (w := ⟨(spotAt L s).hears.map Hr.d, none⟩) (spotAt L s).hears Hr.d (fun r => decide (r.first ≤ h) && decide (h < r.last)) hsD (by simp [Land.d, idx_spot h0 h1, Spot.d]) rfl rfl (by unfold LIM; omega)]
  · simp
    rw [gc_new0 (c := .lst _) (by rw [cunder_lst]; exact unders_map fun h _ => by simp [hsD])]
    rfl
  · intro r hr
    refine ⟨_, rfl, ?_⟩
    constructor
    · simp [wipeE, Hr.d]
    · simp [wipeE, Hr.d, hsD]
theorem eq_optI (w : Option Int) (i : Int) (st : Store) : eqD st (optI w) (.int i) = some (decide (w = some i)) := by
  cases w <;> simp [optI]
theorem hear_any {L : Land} (hL : L.Ok) {g : Gs} (hg : Gs.Ok L.spots.length g) {s : Str} {side : Option Int} (hs : whB side = true) :
    ((heardL L g.spot g.hour).any fun r => decide (r.sign = s) && (side.isNone || decide (r.whence = some ((g.face + sideK side) % 8)))) = decide ((s, sideK side) ∈ (heardL L g.spot g.hour).flatMap (earsOf g.face)) := by
  rw [Bool.eq_iff_iff, List.any_eq_true, decide_eq_true_eq, List.mem_flatMap]
  have ok : ∀ r ∈ heardL L g.spot g.hour, Hr.Ok r := fun r hr => (hL.ss _ (spotAt_mem hg.s0 hg.s1).2).hs r (heard_sub hr)
  have one : ∀ r ∈ heardL L g.spot g.hour, ((decide (r.sign = s) && (side.isNone || decide (r.whence = some ((g.face + sideK side) % 8)))) = true ↔ (s, sideK side) ∈ earsOf g.face r) := fun r hr => by
    have hw := (ok r hr).wh
    unfold earsOf
    cases side with
    | none =>
      cases hr : r.whence with
      | none => simp [sideK, eq_comm]
      | some w =>
        simp [sideK]
        constructor
        · intro e; exact .inl e.symm
        · rintro (e | ⟨e, z⟩)
          · exact e.symm
          · omega
    | some k =>
      simp [whB] at hs
      cases hr : r.whence with
      | none =>
        simp [sideK]
        intro _ z
        omega
      | some w =>
        rw [hr] at hw
        simp [whB] at hw
        have f0 := hg.f0
        have f1 := hg.f1
        simp [sideK]
        constructor
        · rintro ⟨e, z⟩
          exact .inr ⟨e.symm, by omega⟩
        · rintro (⟨e, z⟩ | ⟨e, z⟩)
          · omega
          · exact ⟨e.symm, by omega⟩
  constructor
  · rintro ⟨r, hr, e⟩
    exact ⟨r, hr, (one r hr).mp e⟩
  · rintro ⟨r, hr, e⟩
    exact ⟨r, hr, (one r hr).mpr e⟩
theorem law_holds_c (n : Nat) {L : Land} (hL : L.Ok) {g : Gs} (hg : Gs.Ok L.spots.length g) {q : Q} (hq : q.Ok) (hm : q.mv = false) (hgo : q ≠ .go) (st : Store) : callG (run fs fuel (n + 2)) st ix_law_holds [L.d, g.d, .tup q.parts] st = .ok (.bl (ansB L g q)) st := by
  rw [callG, run_law_holds, runFd_eq rfl]
  cases q with
  | go => exact absurd rfl hgo
  | turn k => cases hm
  | wait k => cases hm
  | way k =>
    have hh := hq
    have i1 := idx_way hL hg.s0 hg.s1 (f := (g.face + k) % 8) (by omega) (by omega)
    have i2 := idx_spot (L := L) hg.s0 hg.s1
    simp [F_law_holds, B_law_holds, startE, Q.parts, Gs.d, ansB, bop_mod, Land.d, i2, Spot.d, i1]
  | ground w =>
    simp [F_law_holds, B_law_holds, startE, Q.parts, Gs.d, ansB, gr_eqD hg.gr (show wordB w = true from hq)]
  | hear s side =>
    have e1 := law_heard_c (fuel := fuel) n hL hg.s0 hg.s1 (h := g.hour) st
    have hl : (heardL L g.spot g.hour).length ≤ 12 := Nat.le_trans (List.length_filter_le _ _) (hL.ss _ (spotAt_mem hg.s0 hg.s1).2).h12
    simp [F_law_holds, B_law_holds, startE, Q.parts, Gs.d, ansB, e1]
    rw [bfnC_anyA (w := ⟨(heardL L g.spot g.hour).map hsD, some st.length⟩) (heardL L g.spot g.hour) hsD (fun r => decide (r.sign = s) && (side.isNone || decide (r.whence = some ((g.face + sideK side) % 8)))) (by
      simp
      rw [itemsOf_ref (ds := (heardL L g.spot g.hour).map hsD) (by simp)]
      rfl) rfl (srcOk_some (by simp)) (by unfold LIM; omega)]
    · rw [hear_any hL hg hq.2]
      simp
    · intro r hr
      refine ⟨_, rfl, ?_⟩
      have q1 : eqD (st ++ [.lst ((heardL L g.spot g.hour).map hsD)]) (.str r.sign) (.str s) = some (decide (r.sign = s)) := eqS (wordB_fit ((hL.ss _ (spotAt_mem hg.s0 hg.s1).2).hs r (heard_sub hr)).sg) (wordB_fit hq.1)
      have o1 : optI none = .non := rfl
      have o2 : ∀ k, optI (some k) = .int k := fun _ => rfl
      cases side with
      | none => cases h : decide (r.sign = s) <;> simp [wipeE, hsD, q1, o1, h]
      | some k =>
        cases h : decide (r.sign = s) with
        | false => simp [wipeE, hsD, q1, o2, h, bop_mod, sideK, eq_optI]
        | true =>
          simp [wipeE, hsD, q1, o2, h, bop_mod, sideK, eq_optI]
          exact decide_eq_decide.mpr Iff.rfl
theorem law_goes_c (n : Nat) {L : Land} (hL : L.Ok) {g : Gs} (hg : Gs.Ok L.spots.length g) {e : Ev} (he : e.q.Ok) (st : Store) : callG (run fs fuel (n + 3)) st ix_law_goes [L.d, g.d, e.d] st = .ok (gsO (stepE L g e)) st := by
  obtain ⟨q, so⟩ := e
  rw [callG, run_law_goes, runFd_eq rfl]
  have i2 := idx_spot (L := L) hg.s0 hg.s1
  cases q with
  | turn k => simp [F_law_goes, B_law_goes, startE, Ev.d, Ev.parts, Q.mv, Q.parts, Gs.d, stepE, behQ, gsO, bop_mod]
  | wait k => simp [F_law_goes, B_law_goes, startE, Ev.d, Ev.parts, Q.mv, Q.parts, Gs.d, stepE, behQ, gsO, bop_mod]
  | go =>
    have i1 := idx_way hL hg.s0 hg.s1 hg.f0 hg.f1
    cases hw : way L g.spot g.face with
    | none =>
      rw [hw] at i1
      cases so <;> simp [F_law_goes, B_law_goes, startE, Ev.d, Ev.parts, Q.mv, Q.parts, Gs.d, stepE, behQ, gsO, Land.d, i2, Spot.d, i1, hw, ansB]
    | some p =>
      rw [hw] at i1
      have : p.d.isNon = false := rfl
      cases so <;> simp [F_law_goes, B_law_goes, startE, Ev.d, Ev.parts, Q.mv, Q.parts, Gs.d, stepE, behQ, gsO, Land.d, i2, Spot.d, i1, hw, ansB, wayD, this]
      simp [Psg.d, grD]
  | hear s side =>
    have := law_holds_c (fuel := fuel) n hL hg he rfl (fun z => by cases z) st
    simp [Q.parts] at this
    cases ha : ansB L g (.hear s side) <;> cases so <;> simp [F_law_goes, B_law_goes, startE, Ev.d, Ev.parts, Q.mv, Q.parts, Gs.d, stepE, behQ, gsO, atI_last, cut_last, ha] <;> simp [Gs.d] at this <;> simp [this, ha, Gs.d]
  | way k =>
    have := law_holds_c (fuel := fuel) n hL hg he rfl (fun z => by cases z) st
    simp [Q.parts] at this
    cases ha : ansB L g (.way k) <;> cases so <;> simp [F_law_goes, B_law_goes, startE, Ev.d, Ev.parts, Q.mv, Q.parts, Gs.d, stepE, behQ, gsO, atI_last, cut_last, ha] <;> simp [Gs.d] at this <;> simp [this, ha, Gs.d]
  | ground w =>
    have := law_holds_c (fuel := fuel) n hL hg he rfl (fun z => by cases z) st
    simp [Q.parts] at this
    cases ha : ansB L g (.ground w) <;> cases so <;> simp [F_law_goes, B_law_goes, startE, Ev.d, Ev.parts, Q.mv, Q.parts, Gs.d, stepE, behQ, gsO, atI_last, cut_last, ha] <;> simp [Gs.d] at this <;> simp [this, ha, Gs.d]
theorem bop_31 (a b c d : D) (st : Store) : bop .add (.tup [a, b, c]) (.tup [d]) st = .ok (.tup [a, b, c, d]) st := by
  rw [bop_addt (by show 3 + 1 ≤ LIM; unfold LIM; omega)]
  rfl
theorem law_key_r (n : Nat) (g : Gs) (st : Store) : run fs fuel (n + 1) ix_law_key [g.d] st = .ok (gkey g) st := by
  rw [run_law_key, runFd_eq rfl]
  cases h : g.ground <;> simp [F_law_key, B_law_key, startE, Gs.d, gkey, grD, grS, h, cut_to, bop_31]
end Pd.T
end
section
set_option Elab.async false
set_option linter.all false
set_option maxRecDepth 100000
set_option autoImplicit false
/-! What is due. -/
namespace Pd.T
open PySem
variable {fuel : Nat}
theorem gsO_isNon (o : Option Gs) : (gsO o).isNon = o.isNone := by cases o <;> simp [gsO]
theorem due_in (n : Nat) {L : Land} (hL : L.Ok) (w : Items) (hw : w.src = none) (d1 d2 d3 d4 : D) (S : Store) : ∀ (es : List Ev) (o : Option Gs) (x6 : Option D), (∀ e ∈ es, e.q.Ok) → (∀ g, o = some g → Gs.Ok L.spots.length g) →
    forLoop (.one 6) w (denSs (run fs fuel (n + 3)) fuel LB_law_due_2) [6] (es.map Ev.d) [some L.d, some d1, some d2, some d3, some d4, some (gsO o), x6] S = .nx [some L.d, some d1, some d2, some d3, some d4, some (gsO (o.bind (runRec L es))), none] S
  | [], o, x6, _, _ => by
    have : o.bind (runRec L []) = o := by cases o <;> rfl
    rw [this]
    simp [forLoop, srcOk, hw, wipeE]
  | e :: es, o, x6, he, ho => by
    have hsrc : srcOk S w = true := by simp [srcOk, hw]
    have body : denSs (run fs fuel (n + 3)) fuel LB_law_due_2 [some L.d, some d1, some d2, some d3, some d4, some (gsO o), some e.d] S = .nx [some L.d, some d1, some d2, some d3, some d4, some (gsO (o.bind fun g => stepE L g e)), some e.d] S := by
      cases o with
      | none => simp [LB_law_due_2, gsO]
      | some g =>
        have := law_goes_c (fuel := fuel) n hL (ho g rfl) (he e List.mem_cons_self) S
        simp [LB_law_due_2, gsO, this]
    simp only [List.map_cons, forLoop, hsrc, if_true, assignTg, wipeE, set1_eq, List.set_cons_succ, List.set_cons_zero]
    rw [body]
    dsimp only
    rw [due_in n hL w hw d1 d2 d3 d4 S es _ _ (fun x hx => he x (List.mem_cons_of_mem _ hx)) (fun g hg => by
      cases o with
      | none => cases hg
      | some g0 => exact stepE_ok hL (ho g0 rfl) hg)]
    have : (o.bind fun g => stepE L g e).bind (runRec L es) = o.bind (runRec L (e :: es)) := by cases o <;> rfl
    rw [this]
theorem due_body (n : Nat) {L : Land} (hL : L.Ok) (st : Store) (d1 : D) {es : List Ev} (he : ∀ e ∈ es, e.q.Ok) (acc : List Gs) (hacc : acc.length < LIM) {m : Int} (hm : ∀ g ∈ acc, Gs.Ok m g) {g : Gs} (hg : Gs.Ok L.spots.length g) (x5 x6 : Option D) :
    denSs (run fs fuel (n + 3)) fuel LB_law_due_1 [some L.d, some d1, some (.tup (es.map Ev.d)), some (.ref st.length), some g.d, x5, x6] (st ++ [.lst (acc.map Gs.d)]) = .nx [some L.d, some d1, some (.tup (es.map Ev.d)), some (.ref st.length), some g.d, some (gsO (runRec L es g)), none] (st ++ [.lst ((addO acc (runRec L es g)).map Gs.d)]) := by
  have hin := due_in (fuel := fuel) n hL ⟨es.map Ev.d, none⟩ rfl d1 (.tup (es.map Ev.d)) (.ref st.length) g.d (st ++ [.lst (acc.map Gs.d)]) es (some g) x6 he (fun x hx => by cases hx; exact hg)
  simp only [Option.bind_some] at hin
  have hin : forLoop (.one 6) ⟨es.map Ev.d, none⟩ (denSs (run fs fuel (n + 3)) fuel LB_law_due_2) [6] (es.map Ev.d) [some L.d, some d1, some (.tup (es.map Ev.d)), some (.ref st.length), some g.d, some g.d, x6] (st ++ [.lst (acc.map Gs.d)]) = _ := hin
  simp [LB_law_due_1, ev_loop]
  rw [hin]
  cases hr : runRec L es g with
  | none => simp [gsO, addO]
  | some g' =>
    have hg' := runRec_ok hL hg hr
    have hmem : memD (st ++ [.lst (acc.map Gs.d)]) g'.d (.ref st.length) = some (decide (g' ∈ acc)) := by
      rw [memD_lst (ds := acc.map Gs.d) (by simp) (pl_fit60 (hg'.pl 0) (by omega)) (fits_map fun x hx => pl_fit60 ((hm x hx).pl 0) (by omega))]
      congr 1
      rw [List.any_map, Bool.eq_iff_iff, List.any_eq_true, decide_eq_true_eq]
      constructor
      · rintro ⟨x, hx, e⟩
        have e : x.d.eq g'.d = true := e
        rw [Gs.eq_d] at e
        rw [← of_decide_eq_true e]
        exact hx
      · intro h
        exact ⟨g', h, by show g'.d.eq g'.d = true; rw [Gs.eq_d]; simp⟩
    simp [gsO, addO, hmem, addNew]
    by_cases h : g' ∈ acc
    · simp [h]
    · simp [h]
      rw [appR_ok (ds := acc.map Gs.d) (by simp)]
      simp
      rw [appD_ok (ds := acc.map Gs.d) (by simp) (by simpa using hacc)]
      simp [set_end]
theorem due_out (n : Nat) {L : Land} (hL : L.Ok) (st : Store) (d1 : D) (w : Items) (hw : w.src = none) {es : List Ev} (he : ∀ e ∈ es, e.q.Ok) : ∀ (gs acc : List Gs) (x4 x5 x6 : Option D), acc.length + gs.length < LIM → (∀ g ∈ acc, Gs.Ok L.spots.length g) → (∀ g ∈ gs, Gs.Ok L.spots.length g) →
    forLoop (.one 4) w (denSs (run fs fuel (n + 3)) fuel LB_law_due_1) [4, 5, 6] (gs.map Gs.d) [some L.d, some d1, some (.tup (es.map Ev.d)), some (.ref st.length), x4, x5, x6] (st ++ [.lst (acc.map Gs.d)]) = .nx [some L.d, some d1, some (.tup (es.map Ev.d)), some (.ref st.length), none, none, none] (st ++ [.lst ((keptOf L es gs acc).map Gs.d)])
  | [], acc, x4, x5, x6, _, _, _ => by simp [forLoop, srcOk, hw, wipeE, keptOf]
  | g :: gs, acc, x4, x5, x6, hl, ha, hg => by
    simp only [List.length_cons] at hl
    have hsrc : srcOk (st ++ [.lst (acc.map Gs.d)]) w = true := by simp [srcOk, hw]
    have body := due_body (fuel := fuel) n hL st d1 he acc (by omega) ha (hg g List.mem_cons_self) none none
    simp only [List.map_cons, forLoop, hsrc, if_true, assignTg, wipeE, set1_eq, List.set_cons_succ, List.set_cons_zero]
    rw [body]
    dsimp only
    rw [due_out n hL st d1 w hw he gs _ _ _ _ (by have := addO_len acc (runRec L es g); omega) (addO_ok ha fun x hx => runRec_ok hL (hg g List.mem_cons_self) hx) (fun x hx => hg x (List.mem_cons_of_mem _ hx))]
    rfl
theorem law_due_c (n : Nat) {L : Land} (hL : L.Ok) {gs : List Gs} (hg : ∀ g ∈ gs, Gs.Ok L.spots.length g) (hl : gs.length ≤ 2400) {es : List Ev} (he : ∀ e ∈ es, e.q.Ok) (st : Store) :
    callG (run fs fuel (n + 4)) st ix_law_due [L.d, .tup (gs.map Gs.d), .tup (es.map Ev.d)] st = .ok (.tup ((mayBe L gs es).map Gs.d)) st := by
  have e1 := due_out (fuel := fuel) n hL st (.tup (gs.map Gs.d)) ⟨gs.map Gs.d, none⟩ rfl he gs [] none none none (by unfold LIM; simp; omega) (by simp) hg
  have ko := keptOf_ok hL (es := es) hg (acc := []) (fun g h => by cases h)
  rw [callG, run_law_due, runFd_eq rfl]
  have t := tuple_sortk (cl := run fs fuel (n + 3)) (env := [some L.d, some (.tup (gs.map Gs.d)), some (.tup (es.map Ev.d)), some (.ref st.length), none, none, none]) (S := st ++ [.lst ((keptOf L es gs []).map Gs.d)]) (i := 3) (r := st.length) (f := ix_law_key) (keptOf L es gs []) (mayBe L gs es) Gs.d gkey rfl (by simp) (fun x _ => law_key_r (n + 2) _ _) (fun x _ => gkey_under x _) (gkeys_sortable ko) (sortK_gs _) (unders_map fun h _ => h.under _)
  simp only [F_law_due, B_law_due, startE]
  simp only [List.map_nil] at e1
  simp [ev_loop]
  rw [e1]
  have hu : unders ((mayBe L gs es).map Gs.d) st.length = true := unders_map fun g _ => g.under _
  simp only [andThen_nx]
  simp at t
  rw [t]
  simp [hu]
end Pd.T
end
section
set_option Elab.async false
set_option linter.all false
set_option maxRecDepth 100000
set_option autoImplicit false
/-! The law's questions. -/
namespace Pd.T
open PySem
variable {fuel : Nat}
section
variable {cl : Fn} {env : Env} {st : Store}
theorem den_compB {α : Type} (xs : List α) (enc : α → D) (p : α → Bool) (g : α → D) {elt : E} {tg : Tg} {it : It} {cond : Eo} {own : List Nat} {w : Items} {st0 : Store} (hit : denIt cl it env st0 = .ok w st) (hw : w.ds = xs.map enc) (hs : srcOk st w = true) (hl : xs.length ≤ LIM)
    (h : ∀ x ∈ xs, ∃ env', assignTg (wipeE env own) tg (enc x) = some env' ∧ denCond cl cond env' st = .ok (p x) st ∧ (p x = true → den cl elt env' st = .ok (g x) st)) :
    den cl (.comp elt tg it cond own) env st0 = .ok (.ref st.length) (st ++ [.lst ((xs.filter p).map g)]) := by
  show (denIt cl it env st0).bind _ = _
  rw [hit, R.bind_ok, hw, compLoop_map enc p g hs xs [] (fun x hx => ?_) (by simpa using hl)]
  · rfl
  · obtain ⟨env', e1, e2, e3⟩ := h x hx
    exact ⟨env', e1, still_ok e2, fun hp => still_ok (e3 hp)⟩
theorem den_compC {α : Type} (xs : List α) (enc : α → D) (g : α → D) {elt : E} {tg : Tg} {it : It} {own : List Nat} {w : Items} {st0 : Store} (hit : denIt cl it env st0 = .ok w st) (hw : w.ds = xs.map enc) (hs : srcOk st w = true) (hl : xs.length ≤ LIM)
    (h : ∀ x ∈ xs, ∃ env', assignTg (wipeE env own) tg (enc x) = some env' ∧ den cl elt env' st = .ok (g x) st) :
    den cl (.comp elt tg it .none own) env st0 = .ok (.ref st.length) (st ++ [.lst (xs.map g)]) := by
  have := den_compB (cl := cl) (env := env) (st := st) (st0 := st0) (cond := .none) xs enc (fun _ => true) g hit hw hs hl (fun x hx => by
    obtain ⟨env', e1, e2⟩ := h x hx
    exact ⟨env', e1, rfl, fun _ => e2⟩)
  rwa [List.filter_eq_self.mpr (fun _ _ => rfl)] at this
theorem add_lists {a b : E} {S S1 M : Store} {r1 r2 : Nat} {x y : List D} (h1 : den cl a env S = .ok (.ref r1) S1) (g1 : S1[r1]? = some (.lst x)) (h2 : den cl b env S1 = .ok (.ref r2) (S1 ++ M)) (g2 : (S1 ++ M)[r2]? = some (.lst y)) (hl : x.length + y.length ≤ LIM) : den cl (.bin .add a b) env S = .ok (.ref (S1 ++ M).length) (S1 ++ M ++ [.lst (x ++ y)]) := by
  have g1' : (S1 ++ M)[r1]? = some (.lst x) := by rw [at_low (lt_of_at g1), g1]
  rw [ev_bin, h1, R.bind_ok, h2, R.bind_ok]
  show (match lstAt (S1 ++ M) r1, lstAt (S1 ++ M) r2 with
    | some a, some b => if a.length + b.length ≤ LIM then alloc (.lst (a ++ b)) (S1 ++ M) else .err
    | _, _ => .err) = _
  unfold lstAt
  simp only [g1', g2]
  rw [if_pos hl]
  rfl
/-- sorted(set(xs)), words -/
theorem sorted_set {S : Store} {i r : Nat} {ss : List Str} (hi : env[i]? = some (some (.ref r))) (hr : S[r]? = some (.lst (ss.map .str))) (hl : ss.length < 3000) (hw : ∀ s ∈ ss, wordB s = true) :
    ∃ zs : List Str, den cl (.bfn .sorted (.cons (.bfn .set (.cons (.slot i) .nil)) .nil)) env S = .ok (.ref S.length) (S ++ [.lst (zs.map .str)]) ∧ (∀ s ∈ zs, wordB s = true) ∧ zs.length ≤ ss.length := by
  obtain ⟨es, e1, e2, e3⟩ := setOfL_ok (ss.map .str) [] (fun d hd => by
    obtain ⟨p, _, rfl⟩ := List.mem_map.mp hd
    simp) (fun d hd => by cases hd) (.inr ⟨fun d hd => by
    obtain ⟨p, _, rfl⟩ := List.mem_map.mp hd
    rfl, by simp; omega⟩)
  obtain ⟨l, el, hp⟩ := sortK_self (ks := es)
  obtain ⟨zs, ez, qz⟩ := all_enc (f := D.str) (Q := fun s => wordB s = true) (zs := l) fun z hz => by
    rcases (e2 z).mp (hp.mem_iff.mp hz) with h | h
    · cases h
    · obtain ⟨s, hs, rfl⟩ := List.mem_map.mp h
      exact ⟨s, hw s hs, rfl⟩
  have hes : ∀ z ∈ es, ∃ s, wordB s = true ∧ z = .str s := fun z hz => by
    rcases (e2 z).mp hz with h | h
    · cases h
    · obtain ⟨s, hs, rfl⟩ := List.mem_map.mp h
      exact ⟨s, hw s hs, rfl⟩
  have hsort : sortable es = true := by
    unfold sortable
    rw [Bool.and_eq_true, Bool.or_eq_true]
    refine ⟨.inr (List.all_eq_true.mpr fun r hr => ?_), List.all_eq_true.mpr fun r hr => ?_⟩
    · obtain ⟨s, _, rfl⟩ := hes r hr
      rfl
    · obtain ⟨s, hs, rfl⟩ := hes r hr
      rw [Bool.and_eq_true]
      refine ⟨fit_of_word hs, List.all_eq_true.mpr fun q hq => ?_⟩
      obtain ⟨s', _, rfl⟩ := hes q hq
      rfl
  have u1 : ∀ n, unders es n = true := fun n => undersAll fun d hd => by
    obtain ⟨s, _, rfl⟩ := hes d hd
    rfl
  have u2 : ∀ n, unders (zs.map .str) n = true := fun n => unders_map fun s _ => rfl
  refine ⟨zs, ?_, qz, ?_⟩
  · simp [hi]
    rw [bfnG_set hr e1, gc_new0 (c := .set es) (by rw [cunder_set]; exact u1 _)]
    simp
    rw [bfnG_sortedS (es := es) (by simp) hsort, el, ez]
    rw [List.length_append, List.append_assoc]
    simp only [List.cons_append, List.nil_append, List.length_cons, List.length_nil, Nat.zero_add]
    rw [gc_new1 (c := .lst (zs.map .str)) (by rw [cunder_lst]; exact u2 _)]
  · have := hp.length_eq
    rw [ez, List.length_map] at this
    simp at e3
    omega
end
def qD (q : Q) : D := .tup q.parts
theorem qD_under (q : Q) (n : Nat) : (qD q).under n = true := by cases q <;> simp [qD, Q.parts]
def QP (S : Store) (d0 : D) (k1 k2 : Nat) (env : Env) (S' : Store) : Prop := ∃ (M : Store) (a b : Nat) (ss gs : List Str) (e3 e4 : Option D), S' = S ++ M ∧ env = [some d0, some (.ref a), some (.ref b), e3, e4, none, none, none, none, none, none, none] ∧ S'[a]? = some (.lst (ss.map .str)) ∧ S'[b]? = some (.lst (gs.map .str)) ∧ (∀ s ∈ ss, wordB s = true) ∧ (∀ s ∈ gs, wordB s = true) ∧ ss.length ≤ k1 ∧ gs.length ≤ k2
def grOf (w : Option Psg) : D := match w with
  | none => .non
  | some p => .str p.ground
theorem grounds_eq : ∀ ws : List (Option Psg), (ws.filter (·.isSome)).map grOf = ((ws.filterMap id).map (·.ground)).map D.str
  | [] => rfl
  | none :: ws => by simpa using grounds_eq ws
  | some p :: ws => by
    have := grounds_eq ws
    simp [grOf] at this ⊢
    exact this
/-- one turn over a spot: two rows grow -/
theorem q_body1 (n : Nat) {m : Int} {sp : Spot} (h : Spot.Ok m sp) (d0 : D) (S : Store) {k1 k2 : Nat} (a b : Nat) (ss gs : List Str) (ha : S[a]? = some (.lst (ss.map .str))) (hb : S[b]? = some (.lst (gs.map .str))) (hs : ∀ s ∈ ss, wordB s = true) (hg : ∀ s ∈ gs, wordB s = true) (l1 : ss.length ≤ k1) (l2 : gs.length ≤ k2) (hk : k1 ≤ 1000 ∧ k2 ≤ 1000) :
    Ends (QP S d0 (k1 + 12) (k2 + 8)) (fun _ _ => False) (fun _ _ => False)
      (denSs (run fs fuel n) fuel LB_law_questions_1 [some d0, some (.ref a), some (.ref b), some (.tup (sp.ways.map wayD)), some (.tup (sp.hears.map Hr.d)), none, none, none, none, none, none, none] S) := by
  have w8 := h.w8
  have h12 := h.h12
  unfold LB_law_questions_1
  refine Ends.set (fun d S1 => ∃ M r, S1 = S ++ M ∧ d = .ref r ∧ S1[r]? = some (.lst ((ss ++ sp.hears.map (·.sign)).map .str))) ?_ fun d S1 ⟨M, r, e, e', g1⟩ => ?_
  · have c := den_compC (cl := run fs fuel n) (env := [some d0, some (.ref a), some (.ref b), some (.tup (sp.ways.map wayD)), some (.tup (sp.hears.map Hr.d)), none, none, none, none, none, none, none]) (st := S) (st0 := S) sp.hears Hr.d (fun h => .str h.sign) (elt := .idx (.slot 5) (.cint 0)) (tg := .one 5) (it := .seq (.slot 4)) (own := [5]) (w := ⟨sp.hears.map Hr.d, none⟩) (by simp) rfl rfl (by unfold LIM; omega) (fun x hx => ⟨_, rfl, by simp [wipeE, Hr.d]⟩)
    have q := add_lists (a := .slot 1) (x := ss.map .str) (S := S) (r1 := a) (S1 := S) (by simp) ha c (y := sp.hears.map fun h => .str h.sign) (by simp) (by unfold LIM; simp; omega)
    refine ⟨_, _, q, [.lst (sp.hears.map fun h => .str h.sign), .lst (ss.map .str ++ sp.hears.map fun h => .str h.sign)], _, by simp, rfl, ?_⟩
    rw [at_end]
    simp
  subst e e'
  refine Ends.set (fun d S2 => ∃ M2 r2, S2 = S ++ M ++ M2 ∧ d = .ref r2 ∧ S2[r2]? = some (.lst ((gs ++ (sp.ways.filterMap id).map (·.ground)).map .str))) ?_ fun d S2 ⟨M2, r2, e, e', g2⟩ => ?_
  · have hb' : (S ++ M)[b]? = some (.lst (gs.map .str)) := by rw [at_low (lt_of_at hb), hb]
    have c := den_compB (cl := run fs fuel n) (env := [some d0, some (.ref r), some (.ref b), some (.tup (sp.ways.map wayD)), some (.tup (sp.hears.map Hr.d)), none, none, none, none, none, none, none]) (st := S ++ M) (st0 := S ++ M) sp.ways wayD (·.isSome) grOf (elt := .idx (.slot 6) (.cint 2)) (tg := .one 6) (it := .seq (.slot 3)) (cond := .some (.cmp .isnot (.slot 6) .cnon)) (own := [6]) (w := ⟨sp.ways.map wayD, none⟩) (by simp) rfl rfl (by unfold LIM; omega) (fun x hx => by
      refine ⟨_, rfl, ?_, ?_⟩
      · cases x <;> simp [wipeE]
      · intro hp
        cases x with
        | none => cases hp
        | some p => simp [wipeE, wayD, Psg.d, grOf])
    rw [grounds_eq] at c
    have ll : (sp.ways.filterMap id).length ≤ 8 := by rw [← w8]; exact List.length_filterMap_le _ _
    have q := add_lists (a := .slot 2) (x := gs.map .str) (S := S ++ M) (r1 := b) (S1 := S ++ M) (by simp) hb' c (y := ((sp.ways.filterMap id).map (·.ground)).map .str) (by simp) (by unfold LIM; simp at ll ⊢; omega)
    refine ⟨_, _, q, [.lst (((sp.ways.filterMap id).map (·.ground)).map .str), .lst (gs.map .str ++ ((sp.ways.filterMap id).map (·.ground)).map .str)], _, by simp, rfl, ?_⟩
    rw [at_end]
    simp
  subst e e'
  have ll : (sp.ways.filterMap id).length ≤ 8 := by rw [← w8]; exact List.length_filterMap_le _ _
  rw [ev_nil, Ends_nx]
  refine ⟨M ++ M2, r, r2, _, _, _, _, by simp, rfl, by rw [at_low (lt_of_at g1), g1], g2, fun s h' => ?_, fun s h' => ?_, by simp; omega, by simp at ll ⊢; omega⟩
  · rcases List.mem_append.mp h' with h' | h'
    · exact hs s h'
    · obtain ⟨x, hx, rfl⟩ := List.mem_map.mp h'
      exact (h.hs x hx).sg
  · rcases List.mem_append.mp h' with h' | h'
    · exact hg s h'
    · obtain ⟨p, hp, rfl⟩ := List.mem_map.mp h'
      obtain ⟨o, ho, e⟩ := List.mem_filterMap.mp hp
      simp at e
      subst e
      exact (h.ws p ho).gr
/-- a list of questions stands at r -/
def QsAt (S : Store) (r : Nat) (qs : List Q) : Prop := S[r]? = some (.lst (qs.map qD)) ∧ ∀ q ∈ qs, q.Ok
theorem QsAt.more {S M : Store} {r : Nat} {qs : List Q} (h : QsAt S r qs) : QsAt (S ++ M) r qs := ⟨by rw [at_low (lt_of_at h.1), h.1], h.2⟩
/-- rows = rows + [q x for x in ..] -/
theorem q_add {α : Type} {cl : Fn} {env : Env} {S S1 S2 : Store} {M : Store} {r : Nat} {qs : List Q} {a : E} (h1 : den cl a env S = .ok (.ref r) S1) (g1 : QsAt S1 r qs) (xs : List α) (enc : α → D) (f : α → Q) {elt : E} {tg : Tg} {it : It} {own : List Nat} {w : Items} (hit : denIt cl it env S1 = .ok w S2) (hM : S2 = S1 ++ M) (hw : w.ds = xs.map enc) (hs : srcOk S2 w = true) (hl : qs.length + xs.length ≤ 100000)
    (h : ∀ x ∈ xs, ∃ env', assignTg (wipeE env own) tg (enc x) = some env' ∧ den cl elt env' S2 = .ok (qD (f x)) S2) (hok : ∀ x ∈ xs, (f x).Ok) :
    ∃ M' r', den cl (.bin .add a (.comp elt tg it .none own)) env S = .ok (.ref r') (S1 ++ M') ∧ QsAt (S1 ++ M') r' (qs ++ xs.map f) ∧ S1.length ≤ r' := by
  have c := den_compC (cl := cl) (env := env) (st := S2) (st0 := S1) xs enc (fun x => qD (f x)) hit hw hs (by unfold LIM; omega) h
  subst hM
  rw [List.append_assoc] at c
  have q := add_lists h1 g1.1 c (y := xs.map fun x => qD (f x)) (by rw [← List.append_assoc, List.length_append]; simp) (by unfold LIM; simp; omega)
  refine ⟨M ++ [Cell.lst (xs.map fun x => qD (f x))] ++ [Cell.lst (qs.map qD ++ xs.map fun x => qD (f x))], (S1 ++ (M ++ [Cell.lst (xs.map fun x => qD (f x))])).length, by rw [q]; simp, ⟨?_, ?_⟩, by simp⟩
  · rw [← List.append_assoc, at_end]
    simp [Function.comp_def]
  · intro z hz
    rcases List.mem_append.mp hz with hz | hz
    · exact g1.2 z hz
    · obtain ⟨x, hx, rfl⟩ := List.mem_map.mp hz
      exact hok x hx
theorem law_questions_r (n : Nat) {L : Land} (hL : L.Ok) (st : Store) :
    ∃ qs, qs ≠ [] ∧ (∀ q ∈ qs, Q.Ok q) ∧ callG (run fs fuel (n + 1)) st ix_law_questions [L.d] st = .ok (.ref st.length) (st ++ [.lst (qs.map qD)]) := by
  have n12 := hL.n12
  have key : Gives (fun d S' => ∃ M r qs, qs ≠ [] ∧ QsAt S' (st.length + r) qs ∧ d = .ref (st.length + r) ∧ S' = st ++ M) (run fs fuel (n + 1) ix_law_questions [L.d] st) := by
    rw [run_law_questions]
    refine run_gives rfl ?_
    simp only [F_law_questions, B_law_questions, startE]
    refine Ends.cons ?_
    rw [show denS (run fs fuel n) fuel (.par 1 2 (.lst .nil) (.lst .nil)) ([L.d].map some ++ List.replicate (12 - [L.d].length) none) st = .nx [some L.d, some (.ref st.length), some (.ref (st.length + 1)), none, none, none, none, none, none, none, none, none] (st ++ [.lst [], .lst []]) by simp, Ends_nx]
    refine Ends.loop L.spots Spot.d (fun rest env S' => QP st L.d (144 - 12 * rest.length) (144 - 12 * rest.length) env S' ∧ rest.length ≤ 12 ∧ ∀ s ∈ rest, Spot.Ok L.spots.length s) (w := ⟨L.spots.map Spot.d, none⟩) (st1 := st ++ [.lst [], .lst []]) (by simp [Land.d]) rfl (fun _ _ _ _ => rfl) ⟨⟨[.lst [], .lst []], st.length, st.length + 1, [], [], none, none, rfl, rfl, by simp, by rw [at_plus']; rfl, by simp, by simp, by simp, by simp⟩, n12, hL.ss⟩ ?_ ?_
    · rintro sp rest env S' ⟨⟨M, a, b, ss, gs, e3, e4, rfl, rfl, g1, g2, w1, w2, l1, l2⟩, hr, hok⟩
      refine ⟨_, rfl, ?_⟩
      simp only [List.length_cons] at l1 l2 hr
      have := q_body1 (fuel := fuel) n (hok sp List.mem_cons_self) L.d (st ++ M) a b ss gs g1 g2 w1 w2 l1 l2 (by omega)
      refine Ends.imp this (fun e t h => ⟨?_, by omega, fun s hs => hok s (List.mem_cons_of_mem _ hs)⟩) (fun _ _ h => h.elim) (fun _ _ h => h.elim)
      obtain ⟨M2, a, b, ss, gs, e3, e4, r1, r2, g1, g2, w1, w2, l1, l2⟩ := h
      exact ⟨M ++ M2, a, b, ss, gs, e3, e4, by rw [r1]; simp, r2, g1, g2, w1, w2, by omega, by omega⟩
    · rintro env S' ⟨⟨M, a, b, ss, gs, e3, e4, rfl, rfl, g1, g2, w1, w2, l1, l2⟩, _, _⟩
      simp only [List.length_nil, Nat.mul_zero, Nat.sub_zero] at l1 l2
      have e0 : wipeE [some L.d, some (.ref a), some (.ref b), e3, e4, none, none, none, none, none, none, none] [3, 4] = [some L.d, some (.ref a), some (.ref b), none, none, none, none, none, none, none, none, none] := rfl
      rw [e0]
      refine Ends.set (fun d S' => ∃ M2 r qs, S' = st ++ M ++ M2 ∧ d = .ref r ∧ QsAt S' r qs ∧ qs ≠ [] ∧ qs.length ≤ 145) ?_ fun d S' ⟨M2, r, qs, q1, q2, q3, q4, q5⟩ => ?_
      · have g2' : (st ++ M ++ [.lst [qD .go]])[b]? = some (.lst (gs.map .str)) := by rw [at_low (lt_of_at g2), g2]
        obtain ⟨zs, z1, z2, z3⟩ := sorted_set (cl := run fs fuel n) (env := [some L.d, some (.ref a), some (.ref b), none, none, none, none, none, none, none, none, none]) (i := 2) rfl g2' (by omega) w2
        obtain ⟨M', r', f1, f2, _⟩ := q_add (cl := run fs fuel n) (env := [some L.d, some (.ref a), some (.ref b), none, none, none, none, none, none, none, none, none]) (S := st ++ M) (S1 := st ++ M ++ [.lst [qD .go]]) (r := (st ++ M).length) (qs := [.go]) (a := .lst (.cons (.tup (.cons (.cstr "go") .nil)) .nil)) (by simp [qD, Q.parts]) ⟨by rw [at_end]; rfl, by simp [Q.Ok]⟩ zs D.str (fun z => .ground z) (elt := .tup (.cons (.cstr "ground") (.cons (.slot 8) .nil))) (tg := .one 8) (own := [8]) (it := .seq (.bfn .sorted (.cons (.bfn .set (.cons (.slot 2) .nil)) .nil))) (w := ⟨zs.map .str, some (st ++ M ++ [Cell.lst [qD .go]]).length⟩) (M := [.lst (zs.map .str)]) (by rw [ev_seq, z1, R.bind_ok, itemsOf_ref (by rw [at_end])]; rfl) rfl rfl (srcOk_some (by rw [at_end])) (by simp; omega) (fun x hx => ⟨_, rfl, by simp [wipeE, qD, Q.parts]⟩) (fun x hx => z2 x hx)
        exact ⟨_, _, f1, [.lst [qD .go]] ++ M', r', _, by simp, rfl, f2, by simp, by simp; omega⟩
      subst q1 q2
      have e1 : [some L.d, some (D.ref a), some (.ref b), none, none, none, none, none, none, none, none, none].set 7 (some (.ref r)) = [some L.d, some (.ref a), some (.ref b), none, none, none, none, some (.ref r), none, none, none, none] := rfl
      rw [e1]
      have g1' : (st ++ M ++ M2)[a]? = some (.lst (ss.map .str)) := by rw [at_low (lt_of_at g1), g1]
      obtain ⟨zs, z1, z2, z3⟩ := sorted_set (cl := run fs fuel n) (env := [some L.d, some (.ref a), some (.ref b), none, none, none, none, some (.ref r), none, none, none, none]) (i := 1) rfl g1' (by omega) w1
      refine Ends.loop zs D.str (fun rest env S' => ∃ M3 r qs e9, S' = st ++ M ++ M2 ++ [.lst (zs.map .str)] ++ M3 ∧ env = [some L.d, some (.ref a), some (.ref b), none, none, none, none, some (.ref r), none, e9, none, none] ∧ QsAt S' r qs ∧ qs ≠ [] ∧ qs.length + 9 * rest.length ≤ 5000 ∧ ∀ z ∈ rest, wordB z = true) (w := ⟨zs.map .str, some (st ++ M ++ M2).length⟩) (st1 := st ++ M ++ M2 ++ [.lst (zs.map .str)]) (by rw [ev_seq, z1, R.bind_ok, itemsOf_ref (by rw [at_end])]; rfl) rfl ?_ ⟨[], r, qs, none, by simp, rfl, q3.more, q4, by omega, z2⟩ ?_ ?_
      · rintro rest env S' ⟨M3, r, qs, e9, rfl, _⟩
        exact srcOk_some (by rw [List.append_assoc (st ++ M ++ M2), List.cons_append, at_end])
      · rintro z rest env S' ⟨M3, r, qs, e9, rfl, rfl, f1, f2, f3, f4⟩
        refine ⟨_, rfl, ?_⟩
        simp only [List.length_cons] at f3
        have e2 : set1 (wipeE [some L.d, some (D.ref a), some (.ref b), none, none, none, none, some (.ref r), none, e9, none, none] [9]) 9 (.str z) = [some L.d, some (.ref a), some (.ref b), none, none, none, none, some (.ref r), none, some (.str z), none, none] := rfl
        rw [e2]
        generalize hS : st ++ M ++ M2 ++ [.lst (zs.map .str)] ++ M3 = S at f1
        unfold LB_law_questions_2
        refine Ends.set (fun d S' => ∃ M4 r' , S' = S ++ M4 ∧ d = .ref r' ∧ QsAt S' r' (qs ++ (none :: (List.range 8).map fun (k : Nat) => some (k : Int)).map fun side => Q.hear z side)) ?_ fun d S' ⟨M4, r', h1, h2, h3⟩ => ?_
        · have it1 : den (run fs fuel n) (.lst (.cons .cnon .nil)) [some L.d, some (.ref a), some (.ref b), none, none, none, none, some (.ref r), none, some (.str z), none, none] S = .ok (.ref S.length) (S ++ [.lst [.non]]) := by simp
          have it2 := ev_lrng (cl := run fs fuel n) (env := [some L.d, some (.ref a), some (.ref b), none, none, none, none, some (.ref r), none, some (.str z), none, none]) (st := S ++ [.lst [.non]]) (it := .rng1 (.cint 8)) (w := rngW 8) (st' := S ++ [.lst [.non]]) (by simp) (by simp; unfold LIM; omega)
          have it3 := add_lists it1 (x := [.non]) (by rw [at_end]) it2 (y := (List.range 8).map encN) (by rw [at_end]; rfl) (by simp; unfold LIM; omega)
          have sides : [D.non] ++ (List.range 8).map encN = (none :: (List.range 8).map fun (k : Nat) => some (k : Int)).map optI := rfl
          rw [sides] at it3
          obtain ⟨M', r', f1, f2, _⟩ := q_add (cl := run fs fuel n) (env := [some L.d, some (.ref a), some (.ref b), none, none, none, none, some (.ref r), none, some (.str z), none, none]) (S := S) (S1 := S) (r := r) (qs := qs) (a := .slot 7) (by simp) f1 (none :: (List.range 8).map fun (k : Nat) => some (k : Int)) optI (fun side => .hear z side) (elt := .tup (.cons (.cstr "hear") (.cons (.slot 9) (.cons (.slot 10) .nil)))) (tg := .one 10) (own := [10]) (it := .seq (.bin .add (.lst (.cons .cnon .nil)) (.lrng (.rng1 (.cint 8))))) (w := ⟨(none :: (List.range 8).map fun (k : Nat) => some (k : Int)).map optI, some (S ++ [Cell.lst [.non]] ++ [Cell.lst (rngW 8).ds]).length⟩) (S2 := S ++ [.lst [.non]] ++ [.lst (rngW 8).ds] ++ [.lst ((none :: (List.range 8).map fun (k : Nat) => some (k : Int)).map optI)]) (M := [.lst [.non]] ++ [.lst (rngW 8).ds] ++ [.lst ((none :: (List.range 8).map fun (k : Nat) => some (k : Int)).map optI)]) (by rw [ev_seq, it3, R.bind_ok, itemsOf_ref (by rw [at_end])]; rfl) (by simp only [List.append_assoc]) rfl (srcOk_some (by rw [at_end])) (by simp; omega) (fun x hx => ⟨_, rfl, by cases x <;> simp [wipeE, qD, Q.parts, optI]⟩) (fun x hx => ⟨f4 z List.mem_cons_self, by
            rcases List.mem_cons.mp hx with h | h
            · rw [h]; rfl
            · obtain ⟨k, hk, rfl⟩ := List.mem_map.mp h
              have := List.mem_range.mp hk
              have : (k : Int) ≤ 7 := by omega
              simp [whB, this]⟩)
          exact ⟨_, _, f1, M', r', rfl, rfl, f2⟩
        subst h1 h2
        rw [ev_nil, Ends_nx]
        refine ⟨M3 ++ M4, r', _, some (.str z), by rw [← hS]; simp, rfl, h3, by simp, by simp; omega, fun y hy => f4 y (List.mem_cons_of_mem _ hy)⟩
      · rintro env S' ⟨M3, r, qs, e9, rfl, rfl, f1, f2, f3, f4⟩
        simp only [List.length_nil, Nat.mul_zero, Nat.add_zero] at f3
        have e2 : wipeE [some L.d, some (D.ref a), some (.ref b), none, none, none, none, some (.ref r), none, e9, none, none] [9] = [some L.d, some (.ref a), some (.ref b), none, none, none, none, some (.ref r), none, none, none, none] := rfl
        rw [e2]
        have hS : st ++ (M ++ M2 ++ [.lst (zs.map .str)] ++ M3) = st ++ M ++ M2 ++ [.lst (zs.map .str)] ++ M3 := by simp only [List.append_assoc]
        rw [← hS] at f1 ⊢
        generalize M ++ M2 ++ [.lst (zs.map .str)] ++ M3 = MM at f1 ⊢
        refine Ends.set (fun d S' => ∃ M4 r' qs', S' = st ++ MM ++ M4 ∧ d = .ref r' ∧ QsAt S' r' qs' ∧ qs' ≠ [] ∧ qs'.length ≤ 5100) ?_ fun d S' ⟨M4, r', qs', h1, h2, h3, h4, h5⟩ => ?_
        · obtain ⟨M', r', k1, k2, _⟩ := q_add (cl := run fs fuel n) (env := [some L.d, some (.ref a), some (.ref b), none, none, none, none, some (.ref r), none, none, none, none]) (S := st ++ MM) (S1 := st ++ MM) (r := r) (qs := qs) (a := .slot 7) (by simp) f1 (List.range 7) (fun (k : Nat) => .int (1 + (k : Int))) (fun (k : Nat) => .turn (1 + (k : Int))) (elt := .tup (.cons (.cstr "turn") (.cons (.slot 10) .nil))) (tg := .one 10) (own := [10]) (it := .rng2 (.cint 1) (.cint 8)) (w := ⟨(List.range 7).map fun (k : Nat) => .int (1 + (k : Int)), none⟩) (S2 := st ++ MM) (M := []) (by simp; rw [rngItems_ok (by omega)]; rfl) (by simp) rfl rfl (by simp; omega) (fun x hx => ⟨_, rfl, by simp [wipeE, qD, Q.parts]⟩) (fun x hx => by have := List.mem_range.mp hx; simp [Q.Ok]; omega)
          obtain ⟨M'', r'', j1, j2, _⟩ := q_add (cl := run fs fuel n) (env := [some L.d, some (.ref a), some (.ref b), none, none, none, none, some (.ref r), none, none, none, none]) (S := st ++ MM) (S1 := st ++ MM ++ M') (r := r') (qs := qs ++ (List.range 7).map fun (k : Nat) => .turn (1 + (k : Int))) k1 k2 (List.range 23) (fun (k : Nat) => .int (1 + (k : Int))) (fun (k : Nat) => .wait (1 + (k : Int))) (elt := .tup (.cons (.cstr "wait") (.cons (.slot 11) .nil))) (tg := .one 11) (own := [11]) (it := .rng2 (.cint 1) (.cint 24)) (w := ⟨(List.range 23).map fun (k : Nat) => .int (1 + (k : Int)), none⟩) (S2 := st ++ MM ++ M') (M := []) (by simp; rw [rngItems_ok (by omega)]; rfl) (by simp) rfl rfl (by simp; omega) (fun x hx => ⟨_, rfl, by simp [wipeE, qD, Q.parts]⟩) (fun x hx => by have := List.mem_range.mp hx; simp [Q.Ok]; omega)
          exact ⟨_, _, j1, M' ++ M'', r'', _, by simp, rfl, j2, by simp [f2], by simp; omega⟩
        subst h1 h2
        have e3 : [some L.d, some (D.ref a), some (.ref b), none, none, none, none, some (.ref r), none, none, none, none].set 7 (some (.ref r')) = [some L.d, some (.ref a), some (.ref b), none, none, none, none, some (.ref r'), none, none, none, none] := rfl
        rw [e3]
        obtain ⟨M', r'', k1, k2, k3⟩ := q_add (cl := run fs fuel n) (env := [some L.d, some (.ref a), some (.ref b), none, none, none, none, some (.ref r'), none, none, none, none]) (S := st ++ MM ++ M4) (S1 := st ++ MM ++ M4) (r := r') (qs := qs') (a := .slot 7) (by simp) h3 (List.range 8) encN (fun (k : Nat) => .way (k : Int)) (elt := .tup (.cons (.cstr "way") (.cons (.slot 10) .nil))) (tg := .one 10) (own := [10]) (it := .rng1 (.cint 8)) (w := rngW 8) (S2 := st ++ MM ++ M4) (M := []) (by simp) (by simp) rfl rfl (by simp; omega) (fun x hx => ⟨_, rfl, by simp [wipeE, qD, Q.parts]⟩) (fun x hx => by have := List.mem_range.mp hx; simp [Q.Ok]; omega)
        refine Ends.cons ?_
        rw [ev_ret, k1, RS.ofE_ok, Ends_ret]
        simp only [List.length_append] at k3
        refine ⟨MM ++ M4 ++ M', r'' - st.length, qs' ++ (List.range 8).map fun (k : Nat) => .way (k : Int), by simp [h4], ?_, ?_, by simp⟩
        · rw [show st.length + (r'' - st.length) = r'' by omega]
          exact k2
        · rw [show st.length + (r'' - st.length) = r'' by omega]
  obtain ⟨d, S', e, M, r, qs, h1, h2, rfl, rfl⟩ := key
  refine ⟨qs, h1, h2.2, ?_⟩
  have := h2.1
  rw [at_plus'] at this
  rw [callG_ok e, gc_new this (by rw [cunder_lst]; exact unders_map fun q _ => qD_under q _)]
end Pd.T
end
section
set_option Elab.async false
set_option linter.all false
set_option maxRecDepth 100000
set_option autoImplicit false
/-! The law's record; the law's numbers. -/
namespace Pd.T
open PySem
variable {fuel : Nat}
def soD (L : Land) (g : Gs) (q : Q) : D := if q.mv = true then .non else .bl (ansB L g q)
theorem go_step (L : Land) (g : Gs) : stepE L g ⟨.go, (way L g.spot g.face).isSome⟩ = some (behQ L g .go) := by
  simp [stepE, ansB]
theorem mv_step (L : Land) (g : Gs) {q : Q} (h : q.mv = true) (so : Bool) : stepE L g ⟨q, so⟩ = some (behQ L g q) := by
  simp [stepE, h]
theorem law_answer_c (n : Nat) {L : Land} (hL : L.Ok) {g : Gs} (hg : Gs.Ok L.spots.length g) {q : Q} (hq : q.Ok) (st : Store) : callG (run fs fuel (n + 4)) st ix_law_answer [L.d, g.d, qD q] st = .ok (.tup [soD L g q, (behQ L g q).d]) st := by
  have i2 := idx_spot (L := L) hg.s0 hg.s1
  have hm (x : Str) (hx : x.cps.all (· < 0x110000) = true) : memD st (.str x) (.tup [.str "turn", .str "wait"]) = some (([.str "turn", .str "wait"] : List D).any fun d => d.eq (.str x)) := memD_tup hx (by decide +kernel)
  rw [callG, run_law_answer, runFd_eq rfl]
  cases q with
  | go =>
    have i1 := idx_way hL hg.s0 hg.s1 hg.f0 hg.f1
    have e := law_goes_c (fuel := fuel) n hL hg (e := ⟨.go, (way L g.spot g.face).isSome⟩) trivial st
    rw [go_step] at e
    have dd : (⟨.go, (way L g.spot g.face).isSome⟩ : Ev).d = .tup [.str "go", .bl (way L g.spot g.face).isSome] := rfl
    rw [dd] at e
    have ld : L.d = .tup [.tup (L.spots.map Spot.d), .tup (L.dangers.map Dg.d)] := rfl
    have gd : g.d = .tup [.int g.spot, .int g.face, .int g.hour, grD g.ground] := rfl
    have w1 : (!(way L g.spot g.face).isNone) = (way L g.spot g.face).isSome := by cases way L g.spot g.face <;> rfl
    have u := Gs.under (behQ L g .go) st.length
    have sp : idx L.d (.int 0) st = .ok (.tup (L.spots.map Spot.d)) st := by rw [ld]; simp
    have g0 : idx g.d (.int 0) st = .ok (.int g.spot) st := by rw [gd]; simp
    have g1 : idx g.d (.int 1) st = .ok (.int g.face) st := by rw [gd]; simp
    have ss : idx (spotAt L g.spot).d (.int 0) st = .ok (.tup ((spotAt L g.spot).ways.map wayD)) st := by simp [Spot.d]
    simp [F_law_answer, B_law_answer, startE, qD, Q.parts, sp, g0, g1, i2, ss, i1, w1, e, gsO, soD, Q.mv, ansB]
  | turn k =>
    have e := law_goes_c (fuel := fuel) n hL hg (e := ⟨.turn k, true⟩) hq st
    rw [mv_step L g rfl] at e
    have dd : (⟨.turn k, true⟩ : Ev).d = .tup [.str "turn", .int k] := rfl
    rw [dd] at e
    simp [F_law_answer, B_law_answer, startE, qD, Q.parts, hm, D.eq, e, gsO, soD, Q.mv]
  | wait k =>
    have e := law_goes_c (fuel := fuel) n hL hg (e := ⟨.wait k, true⟩) hq st
    rw [mv_step L g rfl] at e
    have dd : (⟨.wait k, true⟩ : Ev).d = .tup [.str "wait", .int k] := rfl
    rw [dd] at e
    simp [F_law_answer, B_law_answer, startE, qD, Q.parts, hm, D.eq, e, gsO, soD, Q.mv]
  | hear s side =>
    have e := law_holds_c (fuel := fuel) (n + 1) hL hg hq rfl (fun z => by cases z) st
    simp only [Q.parts] at e
    simp [F_law_answer, B_law_answer, startE, qD, Q.parts, hm, D.eq, e, soD, Q.mv, behQ]
  | way k =>
    have e := law_holds_c (fuel := fuel) (n + 1) hL hg hq rfl (fun z => by cases z) st
    simp only [Q.parts] at e
    simp [F_law_answer, B_law_answer, startE, qD, Q.parts, hm, D.eq, e, soD, Q.mv, behQ]
  | ground w =>
    have e := law_holds_c (fuel := fuel) (n + 1) hL hg hq rfl (fun z => by cases z) st
    simp only [Q.parts] at e
    simp [F_law_answer, B_law_answer, startE, qD, Q.parts, hm, D.eq, e, soD, Q.mv, behQ]
theorem Ends.mid {cl : Fn} {fuel : Nat} {Pn Pc : Env → Store → Prop} {Pr : D → Store → Prop} {env : Env} {st : Store} {s : S} {ss : Ss} (Mid : Env → Store → Prop) (h : Ends Mid Pc Pr (denS cl fuel s env st)) (k : ∀ e t, Mid e t → Ends Pn Pc Pr (denSs cl fuel ss e t)) : Ends Pn Pc Pr (denSs cl fuel (.cons s ss) env st) :=
  Ends.cons (Ends.imp h k (fun _ _ h => h) (fun _ _ h => h))
theorem bop_app1 {q : Q} (b : Bool) (st : Store) : bop .add (qD q) (.tup [.bl b]) st = .ok (.tup (q.parts ++ [.bl b])) st := by
  have : q.parts.length ≤ 3 := by cases q <;> simp [Q.parts]
  exact bop_addt (by unfold LIM; simp; omega)
def RecPost (st : Store) (r : Nat) (L : Land) (es : List Ev) (env : Env) (S : Store) : Prop := ∃ (s' : Int) (g : Gs) (es' : List Ev) (M : Store) (e4 e5 e6 e7 e8 : Option D), Gs.Ok L.spots.length g ∧ (∀ e ∈ es', e.q.Ok) ∧ es'.length ≤ es.length + 1 ∧ env = [some (.ref r), some L.d, some g.d, some (.ref st.length), e4, e5, e6, e7, e8] ∧ S = Wd st r s' (.lst (es'.map Ev.d) :: M)
theorem rec_app {cl : Fn} {e : E} (st : Store) (r : Nat) (s : Int) (es : List Ev) (M : Store) (env : Env) (hl : es.length < 1000) (x : Ev) (he : den cl e env (Wd st r s (.lst (es.map Ev.d) :: M)) = .ok x.d (Wd st r s (.lst (es.map Ev.d) :: M))) :
    appR (.ref st.length) e cl env (Wd st r s (.lst (es.map Ev.d) :: M)) = .nx env (Wd st r s (.lst ((es ++ [x]).map Ev.d) :: M)) := by
  rw [appR_ok (ds := es.map Ev.d) (by rw [Wd_at0]; rfl), he, RS.ofE_ok, appD_ok (ds := es.map Ev.d) (by rw [Wd_at0]; rfl) (by unfold LIM; simp; omega), Wd_put0]
  simp
theorem rec_body1 (n : Nat) {st : Store} {r : Nat} (hr : r < st.length) {L : Land} (hL : L.Ok) (s : Int) {g : Gs} (hg : Gs.Ok L.spots.length g) (es : List Ev) (hes : ∀ e ∈ es, e.q.Ok) (hl : es.length < 50) (M : Store) (e4 e5 e6 e7 e8 : Option D) :
    Ends (RecPost st r L es) (fun _ _ => False) (fun _ _ => False) (denSs (run fs fuel (n + 4)) fuel LB_law_record_1 [some (.ref r), some L.d, some g.d, some (.ref st.length), e4, e5, e6, e7, e8] (Wd st r s (.lst (es.map Ev.d) :: M))) := by
  obtain ⟨qs, q1, q2, q3⟩ := law_questions_r (fuel := fuel) (n + 3) hL (Wd st r s (.lst (es.map Ev.d) :: M))
  have hq : 0 < (qs.length : Int) := by
    have : 0 < qs.length := List.length_pos_iff.mpr q1
    omega
  unfold LB_law_record_1
  refine Ends.set (fun d S => d = .ref (st.length + (M.length + 1)) ∧ S = Wd st r s (.lst (es.map Ev.d) :: (M ++ [.lst (qs.map qD)]))) ⟨.ref (st.length + (M.length + 1)), Wd st r s (.lst (es.map Ev.d) :: (M ++ [.lst (qs.map qD)])), by simp [q3], rfl, rfl⟩ fun d S ⟨e, e'⟩ => ?_
  subst e e'
  have hM : ∀ s, (Wd st r s (.lst (es.map Ev.d) :: (M ++ [.lst (qs.map qD)])))[st.length + (M.length + 1)]? = some (.lst (qs.map qD)) := fun s => by
    rw [Wd_at]
    simp
  generalize M ++ [.lst (qs.map qD)] = M2 at hM ⊢
  generalize st.length + (M.length + 1) = z at hM ⊢
  refine Ends.set (fun d S => ∃ q s', q.Ok ∧ d = qD q ∧ S = Wd st r s' (.lst (es.map Ev.d) :: M2)) ?_ fun d S ⟨q, s1, hq1, e, e'⟩ => ?_
  · have h0 := dr0 s hq
    have h1 := dr1 s hq
    have hi : (dr s qs.length).toNat < qs.length := by omega
    refine ⟨qD qs[(dr s qs.length).toNat], Wd st r (nx s) (.lst (es.map Ev.d) :: M2), ?_, _, _, q2 _ (List.getElem_mem hi), rfl, rfl⟩
    have len := bfnG_lenl (st0 := Wd st r s (.lst (es.map Ev.d) :: M2)) (hM s)
    simp [len, draw_W _ hr, List.length_pos_iff.mpr q1]
    rw [idx_l (hM (nx s)), atI_nn h0]
    simp [hi]
  subst e e'
  refine Ends.mid (fun env S => ∃ q s', q.Ok ∧ env = [some (.ref r), some L.d, some g.d, some (.ref st.length), e4, some (.ref z), some (qD q), e7, e8] ∧ S = Wd st r s' (.lst (es.map Ev.d) :: M2)) ?_ fun env S ⟨q, s2, hq2, e, e'⟩ => ?_
  · by_cases h : dr s1 3 = 0
    · simp [draw_W _ hr, h]
      exact ⟨.go, trivial, rfl, _, rfl⟩
    · simp [draw_W _ hr, h]
      exact ⟨q, hq1, rfl, _, rfl⟩
  subst e e'
  have ans := law_answer_c (fuel := fuel) n hL hg hq2 (Wd st r s2 (.lst (es.map Ev.d) :: M2))
  refine Ends.mid (fun env S => env = [some (.ref r), some L.d, some g.d, some (.ref st.length), e4, some (.ref z), some (qD q), some (soD L g q), some (behQ L g q).d] ∧ S = Wd st r s2 (.lst (es.map Ev.d) :: M2)) (by simp [ans]) fun env S ⟨e, e'⟩ => ?_
  subst e e'
  have okb := behQ_ok hL hg q
  refine Ends.mid (RecPost st r L es) ?_ fun e t h => by rw [ev_nil, Ends_nx]; exact h
  cases hm : q.mv with
  | true =>
    have so : soD L g q = .non := by simp [soD, hm]
    have fin : Ends (RecPost st r L es) (fun _ _ => False) (fun _ _ => False) (denSs (run fs fuel (n + 4)) fuel (.cons (.app (.slot 3) (.ite (.cmp .is (.slot 7) .cnon) (.slot 6) (.bin .add (.slot 6) (.tup (.cons (.slot 7) .nil))))) (.cons (.set 2 (.slot 8)) .nil)) [some (.ref r), some L.d, some g.d, some (.ref st.length), e4, some (.ref z), some (qD q), some .non, some (behQ L g q).d] (Wd st r (nx s2) (.lst (es.map Ev.d) :: M2))) := by
      simp
      rw [rec_app st r (nx s2) es M2 _ (by omega) ⟨q, true⟩ (by simp; exact (Ev.d_mv (e := ⟨q, true⟩) hm).symm)]
      simp
      exact ⟨nx s2, behQ L g q, es ++ [⟨q, true⟩], M2, _, _, _, _, _, okb, fun e he => by
        rcases List.mem_append.mp he with he | he
        · exact hes e he
        · rw [List.mem_singleton] at he
          rw [he]; exact hq2, by simp, rfl, by simp⟩
    by_cases h : dr s2 8 = 0
    · rw [so]
      simp [draw_W _ hr, h]
      simp at fin
      exact fin
    · rw [so]
      simp [draw_W _ hr, h]
      simp at fin
      exact fin
  | false =>
    have so : soD L g q = .bl (ansB L g q) := by simp [soD, hm]
    have evd : ∀ b : Bool, (⟨q, b⟩ : Ev).d = .tup (q.parts ++ [.bl b]) := fun b => Ev.d_so (e := ⟨q, b⟩) hm
    have okes : ∀ b : Bool, ∀ e ∈ es ++ [⟨q, b⟩], e.q.Ok := fun b e he => by
      rcases List.mem_append.mp he with he | he
      · exact hes e he
      · rw [List.mem_singleton] at he
        rw [he]; exact hq2
    by_cases h : dr s2 8 = 0
    · rw [so]
      simp [draw_W _ hr, h]
      rw [rec_app st r (nx s2) es M2 _ (by omega) ⟨q, !ansB L g q⟩ (by simp [bop_app1, evd])]
      simp
      exact ⟨nx s2, g, es ++ [⟨q, !ansB L g q⟩], M2, _, _, _, _, _, hg, okes _, by simp, rfl, by simp⟩
    · rw [so]
      simp [draw_W _ hr, h]
      rw [rec_app st r (nx s2) es M2 _ (by omega) ⟨q, ansB L g q⟩ (by simp [bop_app1, evd])]
      simp
      exact ⟨nx s2, behQ L g q, es ++ [⟨q, ansB L g q⟩], M2, _, _, _, _, _, okb, okes _, by simp, rfl, by simp⟩
theorem law_record_r (n : Nat) {S : Store} {r : Nat} {s : Int} (hS : S[r]? = some (.lst [.int s])) {L : Land} (hL : L.Ok) {g : Gs} (hg : Gs.Ok L.spots.length g) :
    ∃ (es : List Ev) (s' : Int) (M : Store), (∀ e ∈ es, e.q.Ok) ∧ es.length ≤ 8 ∧ run fs fuel (n + 5) ix_law_record [.ref r, L.d, g.d] S = .ok (.tup (es.map Ev.d)) (Wd S r s' M) := by
  have hr := lt_of_at hS
  have key : ∀ S1, S1 = Wd S r s [] → Gives (fun d S' => ∃ (es : List Ev) (s' : Int) (M : Store), (∀ e ∈ es, e.q.Ok) ∧ es.length ≤ 8 ∧ d = .tup (es.map Ev.d) ∧ S' = Wd S r s' M) (run fs fuel (n + 5) ix_law_record [.ref r, L.d, g.d] S1) := by
    intro S1 hS1
    rw [run_law_record]
    refine run_gives rfl ?_
    subst hS1
    simp only [F_law_record, B_law_record, startE]
    refine Ends.set (fun d S' => d = .ref S.length ∧ S' = Wd S r s [.lst []]) ⟨.ref S.length, Wd S r s [.lst []], by simp, rfl, rfl⟩ fun d S' ⟨e, e'⟩ => ?_
    subst e e'
    have k0 := dr0 s (m := 9) (by omega)
    have k1 := dr1 s (m := 9) (by omega)
    refine Ends.loop (List.range (dr s 9).toNat) encN (fun rest env S' => ∃ (s' : Int) (g : Gs) (es : List Ev) (M : Store) (e4 e5 e6 e7 e8 : Option D), Gs.Ok L.spots.length g ∧ (∀ e ∈ es, e.q.Ok) ∧ es.length + rest.length ≤ 8 ∧ env = [some (.ref r), some L.d, some g.d, some (.ref S.length), e4, e5, e6, e7, e8] ∧ S' = Wd S r s' (.lst (es.map Ev.d) :: M)) (w := rngW (dr s 9).toNat) (st1 := Wd S r (nx s) [.lst []]) (by simp [draw_W _ hr]; rw [rngL k0 (by omega)]; rfl) rfl (fun _ _ _ _ => rfl) ⟨nx s, g, [], [], none, none, none, none, none, hg, by simp, by simp; omega, rfl, rfl⟩ ?_ ?_
    · rintro x rest env S' ⟨s', g, es, M, e4, e5, e6, e7, e8, g1, g2, g3, rfl, rfl⟩
      refine ⟨_, rfl, ?_⟩
      simp only [List.length_cons] at g3
      have := rec_body1 (fuel := fuel) n hr hL s' g1 es g2 (by omega) M (some (.int (x : Int))) none none none none
      refine Ends.imp this (fun e t ⟨s2, g', es', M', e4, e5, e6, e7, e8, q1, q2, q3, q4, q5⟩ => ⟨s2, g', es', M', e4, e5, e6, e7, e8, q1, q2, by omega, q4, q5⟩) (fun _ _ h => h.elim) (fun _ _ h => h.elim)
    · rintro env S' ⟨s', g, es, M, e4, e5, e6, e7, e8, g1, g2, g3, rfl, rfl⟩
      simp only [List.length_nil, Nat.add_zero] at g3
      refine Ends.cons ?_
      have hu : ∀ k, unders (es.map Ev.d) k = true := fun k => unders_map fun e he => pl_under (Ev.pl (g2 e he) 0) k
      have t : bfnG .tuple (Wd S r s' (.lst (es.map Ev.d) :: M)) [.ref S.length] (Wd S r s' (.lst (es.map Ev.d) :: M)) = .ok (.tup (es.map Ev.d)) (Wd S r s' (.lst (es.map Ev.d) :: M)) := by
        rw [bfnG_tupl (ds := es.map Ev.d) (by rw [Wd_at0]; rfl), gc_same]
        rw [under_tup]
        exact hu _
      simp [wipeE, t]
      exact ⟨es, g2, g3, rfl, _, _, rfl⟩
  obtain ⟨d, S', e, es, s', M, ok, hl, rfl, rfl⟩ := key S (Wd_start hS)
  exact ⟨es, s', M, ok, hl, e⟩
theorem Wd_Wd {T : Store} {r : Nat} {s s' : Int} {L M : Store} (hr : r < T.length) : Wd (Wd T r s L) r s' M = Wd T r s' (L ++ M) := by
  unfold Wd
  rw [List.set_append_left _ _ (by simpa using hr), List.set_set, List.append_assoc]
theorem law_record_w (n : Nat) {T : Store} {r : Nat} (hr : r < T.length) (s0 s : Int) {L : Land} (hL : L.Ok) {g : Gs} (hg : Gs.Ok L.spots.length g) :
    ∃ (es : List Ev) (s' : Int), (∀ e ∈ es, e.q.Ok) ∧ es.length ≤ 8 ∧ callG (run fs fuel (n + 5)) (Wd T r s0 []) ix_law_record [.ref r, L.d, g.d] (Wd T r s []) = .ok (.tup (es.map Ev.d)) (Wd T r s' []) := by
  obtain ⟨es, s', M, ok, hl, e⟩ := law_record_r (fuel := fuel) n (Wd_get hr (s := s) (L := [])) hL hg
  refine ⟨es, s', ok, hl, ?_⟩
  have hu : ∀ k, unders (es.map Ev.d) k = true := fun k => unders_map fun e he => pl_under (Ev.pl (ok e he) 0) k
  rw [callG_ok e, Wd_Wd hr]
  exact Wd_gc hr (by rw [under_tup]; exact hu _)
end Pd.T
end
section
set_option Elab.async false
set_option linter.all false
set_option maxRecDepth 100000
set_option autoImplicit false
/-! The law's numbers; one round of the law. -/
namespace Pd.T
open PySem
variable {fuel : Nat}
/-- the script, at a place of the store or as it stands -/
structure Scr (S : Store) (d : D) (ns : List Int) : Prop where
  len : ∀ M, bfnG .len (S ++ M) [d] (S ++ M) = .ok (.int ns.length) (S ++ M)
  at_ : ∀ M (i : Nat) (h : i < ns.length), idx d (.int (i : Int)) (S ++ M) = .ok (.int ns[i]) (S ++ M)
theorem Scr.more {S : Store} {d : D} {ns : List Int} (h : Scr S d ns) (M : Store) : Scr (S ++ M) d ns := ⟨fun M2 => by rw [List.append_assoc]; exact h.len _, fun M2 i hi => by rw [List.append_assoc]; exact h.at_ _ i hi⟩
theorem scr_frz (ns : List Int) : Scr [] (.frz (ns.map .int)) ns := ⟨fun M => by simp, fun M i h => by
  rw [idx_z, atI_nn (by omega)]
  simp [h]⟩
theorem scr_ref (ns : List Int) : Scr [.lst (ns.map .int)] (.ref 0) ns := ⟨fun M => by
  rw [bfnG_lenl (ds := ns.map .int) rfl]
  simp, fun M i h => by
  rw [idx_l (ds := ns.map .int) rfl, atI_nn (by omega)]
  simp [h]⟩
theorem bop_pow {a b : Int} {st : Store} (h : 0 ≤ b ∧ b ≤ 1000000 ∧ a.natAbs < 2 ^ 64) : bop .pow (.int a) (.int b) st = .ok (.int (a ^ b.toNat)) st := if_pos h
theorem pow18 (st : Store) : bop .pow (.int 10) (.int 18) st = .ok (.int 1000000000000000000) st := by
  rw [bop_pow (by decide)]
  rfl
theorem pow9 (st : Store) : bop .pow (.int 10) (.int 9) st = .ok (.int 1000000000) st := by
  rw [bop_pow (by decide)]
  rfl
theorem numbers_c (n : Nat) {S : Store} {d : D} {ns : List Int} (h : Scr S d ns) (k : Nat) : ∃ x, callG (run fs fuel (n + 1)) S ix_law_numbers [d, .int (k : Int), .int 1] S = .ok (.ref S.length) (S ++ [.lst [.int x]]) := by
  have hl := h.len []
  have hi := h.at_ []
  simp only [List.append_nil] at hl hi
  have key : Gives (fun d' S' => ∃ x M, d' = .ref S.length ∧ S' = S ++ .lst [.int x] :: M) (run fs fuel (n + 1) ix_law_numbers [d, .int (k : Int), .int 1] S) := by
    rw [run_law_numbers]
    refine run_gives rfl ?_
    simp only [F_law_numbers, B_law_numbers, startE]
    refine Ends.set (fun d' S' => ∃ c : Int, d' = .int c ∧ S' = S) ?_ fun d' S' ⟨c, e, e'⟩ => ?_
    · by_cases q : k < ns.length
      · have q' : (k : Int) < ns.length := by omega
        exact ⟨.int ns[k], S, by simp [hl, q, hi k q], _, rfl, rfl⟩
      · have q' : ¬ (k : Int) < ns.length := by omega
        exact ⟨.int 0, S, by simp [hl, q], _, rfl, rfl⟩
    subst e
    obtain rfl : S = S' := e'.symm
    refine Ends.set (fun d' S' => d' = .ref S.length ∧ S' = S ++ [.lst []]) ⟨_, _, by simp, rfl, rfl⟩ fun d' S' ⟨e, e'⟩ => ?_
    subst e e'
    refine Ends.set (fun d' S' => d' = .int c ∧ S' = S ++ [.lst []]) ⟨_, _, by simp, rfl, rfl⟩ fun d' S' ⟨e, e'⟩ => ?_
    subst e e'
    refine Ends.loop (List.range 1) encN (fun rest env S' => ∃ (zs : List Int) (r : Int) (e6 e7 : Option D), zs.length + rest.length = 1 ∧ env = [some d, some (.int (k : Int)), some (.int 1), some (.int c), some (.ref S.length), some (.int r), e6, e7] ∧ S' = S ++ [.lst (zs.map .int)]) (w := rngW 1) (st1 := S ++ [.lst []]) (by simp; rw [show ((1 : Int)) = ((1 : Nat) : Int) from rfl, rngN (by omega)]; rfl) rfl (fun _ _ _ _ => rfl) ⟨[], c, none, none, by simp, rfl, rfl⟩ ?_ ?_
    · rintro x rest env S' ⟨zs, r, e6, e7, h1, rfl, rfl⟩
      refine ⟨_, rfl, ?_⟩
      simp only [List.length_cons] at h1
      by_cases q : (1000000000000000000 : Int) ≤ c
      · simp [LB_law_numbers_1, wipeE, pow18, pow9, q]
        rw [appR_ok (ds := zs.map .int) (by simp)]
        simp [pow9, bop_mod]
        rw [appD_ok (ds := zs.map .int) (by simp) (by unfold LIM; simp; omega)]
        simp [set_end, pow9, bop_fdiv]
        exact ⟨zs ++ [r % 1000000000], by simp; omega, by simp⟩
      · simp [LB_law_numbers_1, wipeE, pow18, pow9, q, bop_mod, bop_mulr]
        rw [appR_ok (ds := zs.map .int) (by simp)]
        simp [pow9, bop_mod, bop_mulr]
        rw [appD_ok (ds := zs.map .int) (by simp) (by unfold LIM; simp; omega)]
        simp [set_end]
        exact ⟨zs ++ [_], by simp; omega, by simp; rfl⟩
    · rintro env S' ⟨zs, r, e6, e7, h1, rfl, rfl⟩
      simp only [List.length_nil, Nat.add_zero] at h1
      obtain ⟨x, rfl⟩ : ∃ x, zs = [x] := List.length_eq_one_iff.mp h1
      refine Ends.cons ?_
      simp [wipeE]
  obtain ⟨d', S', e, x, M, rfl, rfl⟩ := key
  refine ⟨x, ?_⟩
  rw [callG_ok e, gc_new0 (by simp)]
/-- tuple([x for x in xs if c]) where c changes the store -/
theorem bfnC_tupI {α : Type} {cl : Fn} {env : Env} {st st0 : Store} (xs : List α) (enc : α → D) {elt : E} {tg : Tg} {it : It} {cond : Eo} {own : List Nat} {w : Items} (J : Store → Prop) (hit : denIt cl it env st = .ok w st0) (hw : w.ds = xs.map enc) (hJ : J st0) (hs : ∀ st, J st → srcOk st w = true) (hl : xs.length ≤ LIM)
    (h : ∀ x ∈ xs, ∀ st, J st → ∃ env', assignTg (wipeE env own) tg (enc x) = some env' ∧ ∃ b st2, denCond cl cond env' st = .ok b st2 ∧ J st2 ∧ den cl elt env' st2 = .ok (enc x) st2) :
    ∃ (ys : List α) (st' : Store), bfnC .tuple cl (.comp elt tg it cond own) env st = gc st (.tup (ys.map enc)) (st' ++ [.lst (ys.map enc)]) ∧ J st' ∧ ys.Sublist xs := by
  obtain ⟨zs, st', e, j, p, l⟩ := compLoop_inv (env := wipeE env own) (tg := tg) (w := w) (cond := fun env st => (denCond cl cond env st).still) (elt := fun env st => (den cl elt env st).still) enc J (fun x d => d = enc x) hs xs [] st0 hJ (fun x hx st hst => by
    obtain ⟨env', e1, b, st2, e2, j, e3⟩ := h x hx st hst
    exact ⟨env', e1, b, st2, still_ok e2, j, fun _ => ⟨_, _, still_ok e3, j, rfl⟩⟩) (by simpa using hl)
  have ez : zs.map (·.2) = (zs.map (·.1)).map enc := by
    rw [List.map_map]
    exact List.map_congr_left fun z hz => p z hz
  refine ⟨zs.map (·.1), st', ?_, j, l⟩
  rw [ez] at e
  have e2 : den cl (.comp elt tg it cond own) env st = .ok (.ref st'.length) (st' ++ [.lst ((zs.map (·.1)).map enc)]) := by
    show (denIt cl it env st).bind _ = _
    rw [hit, R.bind_ok, hw]
    exact e
  rw [bfnC_of e2 (d := .tup ((zs.map (·.1)).map enc)) (st2 := st' ++ [.lst ((zs.map (·.1)).map enc)]) (by simp [bfn, bfn1, seqOf, lstAt])]
theorem gs_pl {m : Int} {gs : List Gs} (h : ∀ g ∈ gs, Gs.Ok m g) (hl : gs.length ≤ 4000) : (D.tup (gs.map Gs.d)).pl 2 = true := by
  simp
  exact ⟨hl, pls_map fun g hg => (h g hg).pl 0⟩
theorem gs_eq {m : Int} {gs : List Gs} (h : ∀ g ∈ gs, Gs.Ok m g) (hl : gs.length ≤ 4000) (st : Store) : eqD st (.tup (gs.map Gs.d)) (.tup (gs.map Gs.d)) = some true := by
  rw [eqD_pl (gs_pl h hl) (gs_pl h hl) (by omega) (by omega)]
  have : (D.tup (gs.map Gs.d)).nob = true := by
    rw [nob_tup]
    clear h hl
    induction gs with
    | nil => rfl
    | cons g gs ih => rw [List.map_cons, nobs_cons, g.nob, ih]; rfl
  rw [nob_eq _ this]
structure Start (n : Int) (gs : List Gs) : Prop where
  ok : ∀ g ∈ gs, Gs.Ok n g
  asc : gs.Pairwise glt
  len : gs.length ≤ 96
  ne : 0 < gs.length
theorem law_body2 (n : Nat) {T : Store} {r : Nat} (hr : r < T.length) (s : Int) {L : Land} (hL : L.Ok) {gs : List Gs} (h : Start L.spots.length gs) (d0 d1 d4 d5 d7 : D) (e10 e11 e12 e13 : Option D) :
    Ends (fun env S => ∃ (s' : Int) (e9 e10 e11 e12 e13 : Option D), env = [some d0, some d1, some (.ref r), some L.d, some d4, some d5, none, some d7, none, e9, e10, e11, e12, e13] ∧ S = Wd T r s' []) (fun _ _ => False) (fun _ _ => False) (denSs (run fs fuel (n + 10)) fuel LB_law_2 [some d0, some d1, some (.ref r), some L.d, some d4, some d5, none, some d7, none, some (.tup (gs.map Gs.d)), e10, e11, e12, e13] (Wd T r s [])) := by
  have hq : (0 : Int) < gs.length := by have := h.ne; omega
  unfold LB_law_2
  refine Ends.set (fun d S => ∃ (es : List Ev) (s' : Int), (∀ e ∈ es, e.q.Ok) ∧ es.length ≤ 8 ∧ d = .tup (es.map Ev.d) ∧ S = Wd T r s' []) ?_ fun d S ⟨es, s1, q1, q2, e, e'⟩ => ?_
  · have h0 := dr0 s hq
    have h1 := dr1 s hq
    have hi : (dr s gs.length).toNat < gs.length := by omega
    obtain ⟨es, s', k1, k2, k3⟩ := law_record_w (fuel := fuel) (n + 5) hr s (nx s) hL (h.ok _ (List.getElem_mem hi))
    have hix : atI (gs.map Gs.d) (dr s gs.length) = some gs[(dr s gs.length).toNat].d := by
      rw [atI_nn h0]
      simp [hi]
    have dw := draw_W (fuel := fuel) (n + 9) hr hq (s := s) (L := [])
    exact ⟨.tup (es.map Ev.d), Wd T r s' [], by simp [dw, hix, k3], es, s', k1, k2, rfl, rfl⟩
  subst e e'
  have mb := may_be_c (fuel := fuel) n hL h.ok (by have := h.len; omega) h.asc q1 (by omega) (Wd T r s1 [])
  have ok' := mayBe_ok hL (es := es) h.ok
  have len' := mayBe_len L gs es
  have hl := h.len
  refine Ends.set (fun d S => d = .tup ((mayBe L gs es).map Gs.d) ∧ S = Wd T r s1 []) ⟨_, _, by simp [mb], rfl, rfl⟩ fun d S ⟨e, e'⟩ => ?_
  subst e e'
  have due := law_due_c (fuel := fuel) (n + 6) hL h.ok (by omega) q1 (Wd T r s1 [])
  refine Ends.mid (fun env S => env = [some d0, some d1, some (.ref r), some L.d, some d4, some d5, none, some d7, none, some (.tup (gs.map Gs.d)), some (.tup (es.map Ev.d)), some (.tup ((mayBe L gs es).map Gs.d)), e12, e13] ∧ S = Wd T r s1 []) ?_ fun env S ⟨e, e'⟩ => ?_
  · have nl : ¬ (gs.length < (mayBe L gs es).length) := by omega
    simp [due, gs_eq ok' (by omega), nl]
  subst e e'
  refine Ends.set (fun d S => d = .tup (gs.map Gs.d) ∧ S = Wd T r s1 []) ⟨_, _, by simp, rfl, rfl⟩ fun d S ⟨e, e'⟩ => ?_
  subst e e'
  refine Ends.loop es Ev.d (fun rest env S => ∃ es1 e13, es = es1 ++ rest ∧ env = [some d0, some d1, some (.ref r), some L.d, some d4, some d5, none, some d7, none, some (.tup (gs.map Gs.d)), some (.tup (es.map Ev.d)), some (.tup ((mayBe L gs es).map Gs.d)), some (.tup ((mayBe L gs es1).map Gs.d)), e13] ∧ S = Wd T r s1 []) (w := ⟨es.map Ev.d, none⟩) (st1 := Wd T r s1 []) (by simp) rfl (fun _ _ _ _ => rfl) ⟨[], e13, rfl, by rw [mayBe_nil hL h.ok h.asc]; rfl, rfl⟩ ?_ ?_
  · rintro x rest env S ⟨es1, e13, a1, rfl, rfl⟩
    refine ⟨_, rfl, ?_⟩
    have hx : x ∈ es := by rw [a1]; simp
    have ok1 := mayBe_ok hL (es := es1) h.ok
    have len1 := mayBe_len L gs es1
    have mb := may_be_c (fuel := fuel) n hL ok1 (by omega) (mayBe_asc hL h.ok) (es := [x]) (fun e he => by rw [List.mem_singleton] at he; rw [he]; exact q1 x hx) (by simp) (Wd T r s1 [])
    rw [mayBe_step hL h.ok] at mb
    simp only [List.map_cons, List.map_nil] at mb
    simp [LB_law_3, wipeE, mb]
    exact ⟨es1 ++ [x], by rw [a1]; simp, rfl⟩
  · rintro env S ⟨es1, e13, a1, rfl, rfl⟩
    rw [List.append_nil] at a1
    subst a1
    simp [wipeE, gs_eq ok' (by omega)]
    exact ⟨s1, rfl⟩
end Pd.T
end
section
set_option Elab.async false
set_option linter.all false
set_option maxRecDepth 100000
set_option autoImplicit false
/-! The law k19 is true. -/
namespace Pd.T
open PySem
variable {fuel : Nat}
theorem idx_land (L : Land) (st : Store) : idx L.d (.int 0) st = .ok (.tup (L.spots.map Spot.d)) st := by simp [Land.d]
theorem law_body1 (n : Nat) {S : Store} {d : D} {ns : List Int} (hS : Scr S d ns) (k : Nat) (e2 e3 e4 e5 e7 e9 e10 e11 e12 e13 : Option D) :
    Ends (fun env S' => ∃ M e2 e3 e4 e5 e7 e9 e10 e11 e12 e13, env = [some d, some (.int (k : Int)), e2, e3, e4, e5, none, e7, none, e9, e10, e11, e12, e13] ∧ S' = S ++ M) (fun _ _ => False) (fun _ _ => False) (denSs (run fs fuel (n + 10)) fuel LB_law_1 [some d, some (.int (k : Int)), e2, e3, e4, e5, none, e7, none, e9, e10, e11, e12, e13] S) := by
  obtain ⟨x, num⟩ := numbers_c (fuel := fuel) (n + 9) hS k
  unfold LB_law_1
  refine Ends.set (fun d' S' => d' = .ref (S.length + 1) ∧ S' = S ++ [.lst [.int x], .lst [.int x]]) ⟨_, _, by simp [num, idx_l (show (S ++ [Cell.lst [.int x]])[S.length]? = some (.lst [.int x]) by simp)], rfl, rfl⟩ fun d' S' ⟨e, e'⟩ => ?_
  subst e e'
  have hr : S.length + 1 < (S ++ [Cell.lst [.int x], .lst [.int x]]).length := by simp
  have hT : (S ++ [Cell.lst [.int x], .lst [.int x]])[S.length + 1]? = some (.lst [.int x]) := by rw [at_plus']; rfl
  have hT0 := Wd_start hT
  generalize hr' : S.length + 1 = r at hr hT hT0 ⊢
  have fin : ∀ s', ∃ M, Wd (S ++ [Cell.lst [.int x], .lst [.int x]]) r s' [] = S ++ M := fun s' => by
    refine ⟨[.lst [.int x], .lst [.int s']], ?_⟩
    unfold Wd
    rw [← hr', set_plus']
    simp
  generalize S ++ [Cell.lst [.int x], .lst [.int x]] = T at hr hT hT0 fin ⊢
  rw [hT0]
  clear num hT hT0
  refine Ends.set (fun d' S' => ∃ (L : Land) (s' : Int), L.Ok ∧ (L.spots.length : Int) ≤ 5 ∧ d' = L.d ∧ S' = Wd T r s' []) ?_ fun d' S' ⟨L, s1, hL, l5, e, e'⟩ => ?_
  · obtain ⟨L, s', hL, l5, e⟩ := land_c (fuel := fuel) (n + 7) (S := Wd T r x []) (Wd_get hr) (most := 5) (by omega) (by omega)
    rw [Wd_set hr] at e
    exact ⟨_, _, by simp [e], L, s', hL, l5, rfl, rfl⟩
  subst e e'
  have n1 := hL.n1
  have h0 := dr0 s1 (m := 24) (by omega)
  have h1 := dr1 s1 (m := 24) (by omega)
  refine Ends.set (fun d' S' => d' = .int (dr s1 24) ∧ S' = Wd T r (nx s1) []) ⟨_, _, by simp [draw_W _ hr], rfl, rfl⟩ fun d' S' ⟨e, e'⟩ => ?_
  subst e e'
  generalize dr s1 24 = h at h0 h1 ⊢
  generalize nx s1 = s2
  have evok := ev_ok L.spots.length h0 h1
  have evlen := ev_len L.spots.length h
  have eu : ∀ k, unders ((evGs L.spots.length h).map Gs.d) k = true := fun k => unders_map fun g _ => g.under _
  refine Ends.set (fun d' S' => d' = .tup ((evGs L.spots.length h).map Gs.d) ∧ S' = Wd T r s2 []) ?_ fun d' S' ⟨e, e'⟩ => ?_
  · refine ⟨.tup ((evGs L.spots.length h).map Gs.d), Wd T r s2 [], ?_, rfl, rfl⟩
    have e : (evGs L.spots.length h).map Gs.d = (List.range (8 * L.spots.length)).map fun (k : Nat) => D.tup [.int ((k : Int) / 8), .int ((k : Int) % 8), .int h, .non] := by
      unfold evGs
      rw [List.map_map]
      rfl
    rw [e]
    have hb : bop .mul (.int 8) (.int (L.spots.length : Int)) (Wd T r s2 []) = .ok (.int ((8 * L.spots.length : Nat) : Int)) (Wd T r s2 []) := by
      rw [bop_mull (by omega)]
      simp
    simp
    refine bfnC_tupA (w := rngW (8 * L.spots.length)) (List.range (8 * L.spots.length)) encN (fun (k : Nat) => D.tup [.int ((k : Int) / 8), .int ((k : Int) % 8), .int h, .non]) ?_ rfl rfl (by rw [List.length_range]; unfold LIM; omega) (fun k hk => ⟨_, rfl, by simp [wipeE, bop_fdiv, bop_mod]⟩) (fun k _ => by simp)
    simp [idx_land, hb]
    have : rngItems 0 (8 * (L.spots.length : Int)) = some (rngW (8 * L.spots.length)) := by
      have := rngN (n := 8 * L.spots.length) (by omega)
      simpa using this
    rw [this]
    rfl
  subst e e'
  have aw := anywhere_c (fuel := fuel) n hL h0 h1 (Wd T r s2 [])
  refine Ends.mid (fun env S' => env = [some d, some (.int (k : Int)), some (.ref r), some L.d, some (.int h), some (.tup ((evGs L.spots.length h).map Gs.d)), none, e7, none, e9, e10, e11, e12, e13] ∧ S' = Wd T r s2 []) (by simp [aw, gs_eq evok (by omega)]) fun env S' ⟨e, e'⟩ => ?_
  subst e e'
  refine Ends.set (fun d' S' => ∃ (gs : List Gs) (s' : Int), Start L.spots.length gs ∧ d' = .tup (gs.map Gs.d) ∧ S' = Wd T r s' []) ?_ fun d' S' ⟨gs, s3, hgs, e, e'⟩ => ?_
  · obtain ⟨ys, st', e, ⟨s', hj⟩, sub⟩ := bfnC_tupI (cl := run fs fuel (n + 10)) (env := [some d, some (.int (k : Int)), some (.ref r), some L.d, some (.int h), some (.tup ((evGs L.spots.length h).map Gs.d)), none, e7, none, e9, e10, e11, e12, e13]) (st := Wd T r s2 []) (st0 := Wd T r s2 []) (evGs L.spots.length h) Gs.d (elt := .slot 8) (tg := .one 8) (it := .seq (.slot 5)) (cond := .some (.cmp .gt (.call ix_law_draw (.cons (.slot 2) (.cons (.cint 3) .nil))) (.cint 0))) (own := [8]) (w := ⟨(evGs L.spots.length h).map Gs.d, none⟩) (fun st => ∃ s', st = Wd T r s' []) (by simp) rfl ⟨_, rfl⟩ (fun _ _ => rfl) (by rw [evlen]; unfold LIM; omega) (fun g hg st ⟨s', e⟩ => by
      subst e
      exact ⟨_, rfl, decide (0 < dr s' 3), Wd T r (nx s') [], by simp [wipeE, draw_W _ hr], ⟨_, rfl⟩, by simp [wipeE]⟩)
    subst hj
    have gc1 := Wd_gc (st := T) (r := r) (s := s2) (s' := s') (L := []) (M := [.lst (ys.map Gs.d)]) (d := .tup (ys.map Gs.d)) hr (by rw [under_tup]; exact unders_map fun g _ => g.under _)
    rw [Wd_app, gc1] at e
    cases ys with
    | nil =>
      have hne : evGs L.spots.length h ≠ [] := fun z => by
        rw [z] at evlen
        simp at evlen
        omega
      refine ⟨.tup (((evGs L.spots.length h).take 1).map Gs.d), Wd T r s' [], by simp at e; simp [e, cut_to, List.map_take], (evGs L.spots.length h).take 1, s', ⟨fun g hg => evok g (List.mem_of_mem_take hg), (ev_asc _ _).sublist (List.take_sublist _ _), by rw [List.length_take]; omega, ?_⟩, rfl, rfl⟩
      rw [List.length_take]
      have := List.length_pos_iff.mpr hne
      omega
    | cons y ys =>
      refine ⟨.tup ((y :: ys).map Gs.d), Wd T r s' [], by simp at e; simp [e], y :: ys, s', ⟨fun g hg => evok g (sub.subset hg), (ev_asc _ _).sublist sub, ?_, by simp⟩, rfl, rfl⟩
      have := sub.length_le
      omega
  subst e e'
  have two : D.tup [.tup ((evGs L.spots.length h).map Gs.d), .tup (gs.map Gs.d)] = .tup ([evGs L.spots.length h, gs].map fun g => .tup (g.map Gs.d)) := rfl
  have all : ∀ g ∈ [evGs L.spots.length h, gs], Start L.spots.length g := fun g hg => by
    rcases List.mem_cons.mp hg with q | q
    · rw [q]
      exact ⟨evok, ev_asc _ _, by omega, by omega⟩
    · rw [List.mem_singleton] at q
      rw [q]; exact hgs
  refine Ends.loop [evGs L.spots.length h, gs] (fun g => D.tup (g.map Gs.d)) (fun rest env S' => ∃ (s' : Int) (e9 e10 e11 e12 e13 : Option D), (∀ g ∈ rest, Start L.spots.length g) ∧ env = [some d, some (.int (k : Int)), some (.ref r), some L.d, some (.int h), some (.tup ((evGs L.spots.length h).map Gs.d)), none, some (.tup (gs.map Gs.d)), none, e9, e10, e11, e12, e13] ∧ S' = Wd T r s' []) (w := ⟨[evGs L.spots.length h, gs].map fun g => .tup (g.map Gs.d), none⟩) (st1 := Wd T r s3 []) (by simp) rfl (fun _ _ _ _ => rfl) ⟨s3, e9, e10, e11, e12, e13, all, rfl, rfl⟩ ?_ ?_
  · rintro g rest env S' ⟨s', e9, e10, e11, e12, e13, ok, rfl, rfl⟩
    refine ⟨_, rfl, ?_⟩
    have := law_body2 (fuel := fuel) n hr s' hL (ok g List.mem_cons_self) d (.int (k : Int)) (.int h) (.tup ((evGs L.spots.length h).map Gs.d)) (.tup (gs.map Gs.d)) none none none none
    exact Ends.imp this (fun e t ⟨s', e9, e10, e11, e12, e13, q1, q2⟩ => ⟨s', e9, e10, e11, e12, e13, fun g hg => ok g (List.mem_cons_of_mem _ hg), q1, q2⟩) (fun _ _ h => h.elim) (fun _ _ h => h.elim)
  · rintro env S' ⟨s', e9, e10, e11, e12, e13, ok, rfl, rfl⟩
    rw [ev_nil, Ends_nx]
    obtain ⟨M, hM⟩ := fin s'
    exact ⟨M, _, _, _, _, _, _, _, _, _, _, rfl, hM⟩
theorem law_true (n : Nat) {S : Store} {d : D} {ns : List Int} (hS : Scr S d ns) : ∃ S', run fs fuel (n + 11) ix_law [d] S = .ok (.bl true) S' := by
  have key : Gives (fun d' _ => d' = .bl true) (run fs fuel (n + 11) ix_law [d] S) := by
    rw [run_law]
    refine run_gives rfl ?_
    simp only [F_law, B_law, startE]
    refine Ends.loop (List.range 6) encN (fun rest env S' => ∃ M e1 e2 e3 e4 e5 e7 e9 e10 e11 e12 e13, env = [some d, e1, e2, e3, e4, e5, none, e7, none, e9, e10, e11, e12, e13] ∧ S' = S ++ M) (w := rngW 6) (st1 := S) (by simp; exact rngN (n := 6) (by omega) ▸ rfl) rfl (fun _ _ _ _ => rfl) ⟨[], _, _, _, _, _, _, _, _, _, _, _, rfl, by simp⟩ ?_ ?_
    · rintro k rest env S' ⟨M, e1, e2, e3, e4, e5, e7, e9, e10, e11, e12, e13, rfl, rfl⟩
      refine ⟨_, rfl, ?_⟩
      have := law_body1 (fuel := fuel) n (hS.more M) k none none none none none none none none none none
      exact Ends.imp this (fun e t ⟨M2, e2, e3, e4, e5, e7, e9, e10, e11, e12, e13, q1, q2⟩ => ⟨M ++ M2, _, e2, e3, e4, e5, e7, e9, e10, e11, e12, e13, q1, by rw [q2]; simp⟩) (fun _ _ h => h.elim) (fun _ _ h => h.elim)
    · rintro env S' ⟨M, e1, e2, e3, e4, e5, e7, e9, e10, e11, e12, e13, rfl, rfl⟩
      refine Ends.cons ?_
      simp
  obtain ⟨d', S', e, rfl⟩ := key
  exact ⟨S', e⟩
end Pd.T
end
section
set_option Elab.async false
set_option linter.all false
set_option maxRecDepth 100000
set_option maxHeartbeats 0
open PySem PySem.W PySem.Calls PyProof.Rows
namespace Pd.T
open PySem PySem.Spec PyProof.Rows L2
theorem law_end {P : Program} {w : World} {K : PySem.W.Frag} {mg : Str → Option Value} {h : Heap} {f : Addr} (KX : K.In h) (G : h.Ns mainGlobals mg) (hfa : mg ("law" : Str) = some (.ref f)) (c : He.SaysD fa fn K) :
    ∃ (fd : FuncData) (sp : Sp), (∀ (s : Shared) (u : Value), BindsTo s fd ⟨[u], []⟩ [("script", u)]) ∧
      (∀ (H : Hp) (a : Addr) (ns : List Int), ns.length ≤ 63 → Only H → SqL K H a (ns.map V.int) → sp [.ref a] H (fun v _ => v = .bl true) fun _ _ _ => False) ∧
      ∀ base : Heap, K.In base → base.Ns mainGlobals mg → FnOk P w K mg base (L2.CX P w) (3 * 11) f fd ["script"] sp := by
  refine law_promise (P := P) (w := w) (t := tb K P w) (x := df_law) (lawN := ix_law) (fuel := 0) (n := 11) KX G hfa c (tb_good K P w) (tb_goodK K P w) (fun _ => rfl) tks rfl rfl rfl (con_ok KX G c P w) rfl rfl rfl (by rw [tb_fa]; exact List.mem_of_getElem? (i := 48) (by rfl)) fun ns _ => ⟨?_, ?_⟩
  · exact law_true (fuel := 0) 0 (scr_frz ns)
  · exact law_true (fuel := 0) 0 (scr_ref ns)
end Pd.T
theorem PySem.Challenge.cw_earway_k19_where_one_may_be_holds : PySem.Challenge.rw_earway_k19_where_one_may_be.Holds := by
  w_on; o_law
  refine HandSHeadRun.head_any (r := OpenLaw.row PySem.Challenge.rw_earway_k19_where_one_may_be) (q := view (OpenLaw.row PySem.Challenge.rw_earway_k19_where_one_may_be).prog [60]) (H := Pd.T.hk) (ob := Pd.T.ob) (M := 8000) (loose := Pd.T.names) (d := HandSHeadRun.topDef (OpenLaw.row PySem.Challenge.rw_earway_k19_where_one_may_be).prog 60) (kwd := []) Pd.T.ob_eq
    (by kernel_rfl) (fun s => by kernel_rfl) Pd.T.head_run (by kernel_rfl) (by kernel_rfl) (by kernel_rfl) (by rfl) (by first | assumption | decide +kernel) (by decide +kernel) ⟨rfl, rfl, rfl, rfl, rfl, by decide +kernel⟩ ?hw ?hc
  case hw => w_witness2
  case hc =>
    refine Pd.walk_cx (l := PySem.Challenge.rw_earway_k19_where_one_may_be) (n := 63) (k := 33) (x := "script") rfl (by decide) (by kernel_rfl) ⟨rfl, by decide, by decide⟩ ?F
    intro w mg fa h Y G hmg0
    obtain ⟨K, KX, c⟩ := Y
    have hmg : mg ("law" : PySem.Str) = some (.ref fa) := by
      have e : (HandSHeadRun.topDef (OpenLaw.row PySem.Challenge.rw_earway_k19_where_one_may_be).prog 60).name = ("law" : PySem.Str) := by kernel_rfl
      rw [← e]
      exact hmg0
    obtain ⟨fd, sp, hb, h1, h2⟩ := Pd.T.law_end (P := (PySem.Challenge.rw_earway_k19_where_one_may_be).prog) (w := w) KX G hmg c
    exact ⟨K, fd, sp, KX, hb, h1, h2⟩
end
