import PyProof.Rows.All
import Wide.All
import OpenK.AllK
import Wide.FinOn
import KE.SortData
import HandS.ForMost
import HandS.TupAny
import HandS.TupMul
import HandS.TupLen
import HandS.SetKeys
import HandS.Zip
import HandS.Rev
import HandS.ListItems
import HandS.DictTup
import HandS.Conv
import HandS.IsInst
import HandS.Flow
import HandS.Style
import KE.KDictCopyH
import KE.KDictItemsList
import KE.KDictPairs
import KE.KDictKeyed
import KE.GoesEnum
import HandS.Words
import PySem.Challenge.RW_whopickswhen_k98_whole_counts
set_option Elab.async false
set_option linter.all false
set_option maxRecDepth 100000
/-! Pa, part A: a small language (Ex, Sm) for the Python subset, its values, its store, its evaluator. No machine here. -/
namespace Pa
open PySem (Str PyData)

/-- values: tuples by value, everything that may change by its place in the store -/
inductive P where
  | non | bl (b : Bool) | int (i : Int) | str (x : Str) | tup (xs : List P) | rol (xs : List P) | loc (n : Nat)
/-- what stands in the store -/
inductive O where
  | lst (xs : List P)
  | dct (lk : Bool) (kvs : List (P × P))
  | ins (c : Nat) (fs : List (Nat × P))
abbrev S := List O
abbrev Loc := List (Option P)
inductive R (α : Type) where
  | ok (a : α) (s : S)
  | exc (c : Nat) (xs : List P) (s : S)
  | bad
def R.bind {α β : Type} (r : R α) (f : α → S → R β) : R β := match r with
  | .ok a s => f a s
  | .exc c xs s => .exc c xs s
  | .bad => .bad
@[simp] theorem bind_ok {α β : Type} (a : α) (s : S) (f : α → S → R β) : (R.ok a s).bind f = f a s := rfl
@[simp] theorem bind_exc {α β : Type} (c : Nat) (xs : List P) (s : S) (f : α → S → R β) : (R.exc c xs s : R α).bind f = .exc c xs s := rfl
@[simp] theorem bind_bad {α β : Type} (f : α → S → R β) : (R.bad : R α).bind f = .bad := rfl
theorem bind_eq_ok {α β : Type} {r : R α} {f : α → S → R β} {b : β} {s' : S} (h : r.bind f = .ok b s') : ∃ a s, r = .ok a s ∧ f a s = .ok b s' := by
  cases r with
  | ok a s => exact ⟨a, s, rfl, h⟩
  | exc c xs s => cases h
  | bad => cases h

/-! ### operators on values -/
inductive BinO | add | sub | mul | fdiv | mod | pow | shl | shr | band
inductive CmpO | eq | ne | lt | le | gt | ge | inn | nin
inductive Ty | tup | lst | bool | int | str | dict
/-- one argument: built-in functions by name -/
inductive B1 | len | tuple | list | sum | sorted | min | max | abs | int | str | dict | set | bool
inductive B2 | max | min
/-- methods of built-in types -/
inductive M0 | pop | items | keys | values | copy | reverse
inductive M1 | append | extend | pop | get | join | split | index | count
inductive M2 | get | setdefault | insert

mutual
inductive Ex
  | v (i : Nat) | int (i : Int) | bl (b : Bool) | non | str (x : Str)
  | tup (es : Exs) | lst (es : Exs) | dct
  | bin (o : BinO) (a b : Ex) | neg (a : Ex) | not (a : Ex)
  | cmp (o : CmpO) (a b : Ex) | cmp2 (o o' : CmpO) (a b c : Ex) | isN (a : Ex) | notN (a : Ex)
  | and (a b : Ex) | or (a b : Ex) | ife (c a b : Ex)
  | ix (a i : Ex) | sl (a lo hi : Ex) | slL (a lo : Ex) | slU (a hi : Ex) | slA (a : Ex)
  | fld (a : Ex) (k : Nat)
  | call (f : Nat) (as : Exs) | new (c : Nat) (as : Exs) | meth (o : Ex) (k : Nat) (as : Exs)
  | b1 (f : B1) (a : Ex) | b2 (f : B2) (a b : Ex)
  | m0 (f : M0) (o : Ex) | m1 (f : M1) (o a : Ex) | m2 (f : M2) (o a b : Ex)
  | sortI (o : Ex)                                   -- sorted(d.items())
  | isi (a : Ex) (t : Ty)
  | lc (t : Tg) (it : It) (cs : Exs) (e : Ex) (own : List Nat)
  | lcD (t : Tg) (itm : Bool) (a : Ex) (cs : Exs) (e : Ex) (own : List Nat)
  | lc2 (t : Tg) (it : It) (cs : Exs) (t2 : Tg) (it2 : It) (cs2 : Exs) (e : Ex) (own own2 : List Nat)
inductive Exs | nil | cons (e : Ex) (es : Exs)
/-- what is walked -/
inductive It
  | ex (e : Ex) | rng1 (a : Ex) | rng2 (a b : Ex) | zip (a b : Ex) | enum (a : Ex) | rev (a : Ex)
/-- targets: names, tuples of targets -/
inductive Tg | v (i : Nat) | tup (ts : Tgs)
inductive Tgs | nil | cons (t : Tg) (ts : Tgs)
end
mutual
inductive Sm
  | ex (e : Ex) | asg (t : Tg) (e : Ex) | par (is : List Nat) (es : Exs) | asgI (a i e : Ex) | asgF (a : Ex) (k : Nat) (e : Ex)
  | parF (a : Ex) (k1 k2 : Nat) (e1 e2 : Ex)
  | aug (i : Nat) (o : BinO) (e : Ex) | augI (a i : Ex) (o : BinO) (e : Ex) | augF (a : Ex) (k : Nat) (o : BinO) (e : Ex)
  | ife (c : Ex) (a b : Sms) | whl (c : Ex) (b : Sms) | for (t : Tg) (it : It) (b : Sms) | forD (t : Tg) (itm : Bool) (a : Ex) (b : Sms)
  | ret (e : Ex) | retN | pass | brk | cnt
inductive Sms | nil | cons (s : Sm) (ss : Sms)
end

/-! ### helpers -/
def SZ : Nat := 16777216
def oget (s : S) (n : Nat) : Option O := s[n]?
/-- the items of a list or a tuple -/
def seqOf (s : S) : P → Option (List P)
  | .tup xs => some xs
  | .rol xs => some xs
  | .loc n => match s[n]? with
    | some (.lst xs) => some xs
    | _ => none
  | _ => none
def lstOf (s : S) : P → Option (List P)
  | .rol xs => some xs
  | .loc n => match s[n]? with
    | some (.lst xs) => some xs
    | _ => none
  | _ => none
def truth (s : S) : P → Option Bool
  | .non => some false
  | .bl b => some b
  | .int i => some (i != 0)
  | .str x => if x.length ≤ SZ then some ((x.length : Int) != 0) else none
  | .tup xs => some !xs.isEmpty
  | .rol xs => some !xs.isEmpty
  | .loc n => match s[n]? with
    | some (.lst xs) => some !xs.isEmpty
    | _ => none
def ofO {α : Type} (o : Option α) (s : S) : R α := match o with
  | some a => .ok a s
  | none => .bad
@[simp] theorem ofO_some {α : Type} (a : α) (s : S) : ofO (some a) s = .ok a s := rfl
def ixN (n : Nat) (i : Int) : Option Nat := if 0 ≤ i then (if i < n then some i.toNat else none) else if -(n : Int) ≤ i then some (i + n).toNat else none
def atI {α : Type} (xs : List α) (i : Int) : Option α := (ixN xs.length i).bind fun j => xs[j]?
def sIx (n d : Nat) : Option Int → Nat
  | none => d
  | some v => if v < 0 then (v + (n : Int)).toNat else min v.toNat n
def cut {α : Type} (xs : List α) (lo hi : Option Int) : List α := (xs.drop (sIx xs.length 0 lo)).take (sIx xs.length xs.length hi - sIx xs.length 0 lo)
/-- a new object -/
def alloc (o : O) (s : S) : R P := .ok (.loc s.length) (s ++ [o])
def small (i : Int) : Prop := -(2 ^ 64) < i ∧ i < 2 ^ 64
instance (i : Int) : Decidable (small i) := inferInstanceAs (Decidable (_ ∧ _))

open Classical in
/-- a dict's value at a key -/
noncomputable def dget : List (P × P) → P → Option P
  | [], _ => none
  | (k, v) :: r, x => if k = x then some v else dget r x
open Classical in
noncomputable def dput : List (P × P) → P → P → List (P × P)
  | [], x, y => [(x, y)]
  | (k, v) :: r, x, y => if k = x then (k, y) :: r else (k, v) :: dput r x y

/-! data: what == and sorted look at -/
mutual
def pd : P → PyData
  | .non => .none
  | .bl b => .bool b
  | .int i => .int i
  | .str x => .str x
  | .tup xs => .tuple (pds xs)
  | .rol _ => .none
  | .loc _ => .none
def pds : List P → List PyData
  | [] => []
  | x :: xs => pd x :: pds xs
end
mutual
/-- no object of the store within -/
def pure? : P → Bool
  | .tup xs => pures? xs
  | .rol _ => false
  | .loc _ => false
  | _ => true
def pures? : List P → Bool
  | [] => true
  | x :: xs => pure? x && pures? xs
end
/-- keys of dicts: ints and texts, or flat tuples of them -/
def flatK : P → Bool
  | .int _ => true
  | .str _ => true
  | _ => false
def tupK : P → Bool
  | .tup xs => xs.all flatK
  | _ => false
def scalP : P → Bool
  | .non => true
  | .bl _ => true
  | .int _ => true
  | .str _ => true
  | _ => false
def eqS : P → P → Bool
  | .non, .non => true
  | .bl a, .bl b => a == b
  | .bl a, .int b => (if a then 1 else 0) == b
  | .int a, .bl b => a == (if b then 1 else 0)
  | .int a, .int b => a == b
  | .str a, .str b => decide (a = b)
  | _, _ => false
/-- a value as data -/
def dataOf (s : S) : P → Option PyData
  | .loc a => match s[a]? with
    | some (.lst xs) => if pures? xs then some (.list (pds xs)) else none
    | _ => none
  | p => if pure? p then some (pd p) else none
/-- == of data -/
def eqD (s : S) (p q : P) : Option Bool :=
  if scalP p && scalP q then some (eqS p q)
  else (dataOf s p).bind fun d => (dataOf s q).bind fun e => if PySem.SeqAt.shaped d && PySem.SeqAt.shaped e then some (PyData.eqv d e) else none
/-- == -/
def eqP (s : S) (p q : P) : Option Bool :=
  match p, q with
  | .loc a, .loc b => match s[a]?, s[b]? with
    | some (.lst xs), some (.lst ys) => if xs.length ≠ ys.length then some false else eqD s (.loc a) (.loc b)
    | _, _ => none
  | p, q => eqD s p q

/-- this key may be asked of these pairs -/
def keyOk (lk : Bool) (p : P) (kvs : List (P × P)) : Bool := ((flatK p && kvs.all fun kv => flatK kv.1) || (tupK p && kvs.all fun kv => tupK kv.1)) && (!lk || !kvs.isEmpty)

/-! ### the operators -/
def binP (o : BinO) (p q : P) (s : S) : R P :=
  match o, p, q with
  | .add, .int i, .int j => .ok (.int (i + j)) s
  | .add, .int i, .bl k => .ok (.int (i + if k then 1 else 0)) s
  | .add, .str x, .str y => if x.length + y.length ≤ SZ then .ok (.str (x ++ y)) s else .bad
  | .add, .tup xs, .tup ys => if xs.length + ys.length ≤ SZ then .ok (.tup (xs ++ ys)) s else .bad
  | .add, .loc a, .loc b => match s[a]?, s[b]? with
    | some (.lst xs), some (.lst ys) => if xs.length + ys.length ≤ SZ then alloc (.lst (xs ++ ys)) s else .bad
    | _, _ => .bad
  | .sub, .int i, .int j => .ok (.int (i - j)) s
  | .mul, .int i, .int j => if small i ∨ small j then .ok (.int (i * j)) s else .bad
  | .mul, .tup xs, .int k => if xs ≠ [] ∧ 1 ≤ k ∧ k ≤ 1000 ∧ xs.length ≤ 1000 then .ok (.tup (List.replicate k.toNat xs).flatten) s else .bad
  | .mul, .loc a, .int k => match s[a]? with
    | some (.lst xs) => if -(2 ^ 63) ≤ k ∧ k < 2 ^ 63 ∧ xs.length * k.toNat ≤ SZ then alloc (.lst (List.replicate k.toNat xs).flatten) s else .bad
    | _ => .bad
  | .fdiv, .int i, .int j => if 0 < j ∧ j < 1073741824 then .ok (.int (i / j)) s else .bad
  | .mod, .int i, .int j => if 0 < j then .ok (.int (i % j)) s else .bad
  | .pow, .int i, .int j => if 0 ≤ j ∧ j ≤ 1000000 ∧ i.natAbs < 2 ^ 64 then .ok (.int (i ^ j.toNat)) s else .bad
  | .shl, .int i, .int j => if 0 ≤ j ∧ j ≤ 1000000 ∧ i.natAbs < 2 ^ 64 then .ok (.int (i * 2 ^ j.toNat)) s else .bad
  | .shr, .int i, .int j => if 0 ≤ j then .ok (.int (i / 2 ^ j.toNat)) s else .bad
  | _, _, _ => .bad
/-- the operators that change a name in place: ints, texts and tuples alone -/
def augP (o : BinO) (p q : P) (s : S) : R P :=
  match o, p, q with
  | .add, .int i, .int j => .ok (.int (i + j)) s
  | .sub, .int i, .int j => .ok (.int (i - j)) s
  | _, _, _ => .bad
noncomputable def cmpP (o : CmpO) (p q : P) (s : S) : R P :=
  match o with
  | .eq => ofO ((eqP s p q).map P.bl) s
  | .ne => ofO ((eqD s p q).map fun b => P.bl !b) s
  | .inn => match q with
    | .loc n => match s[n]? with
      | some (.dct lk kvs) => if keyOk lk p kvs then .ok (.bl (dget kvs p).isSome) s else .bad
      | _ => .bad
    | _ => .bad
  | .nin => match q with
    | .loc n => match s[n]? with
      | some (.dct lk kvs) => if keyOk lk p kvs then .ok (.bl !(dget kvs p).isSome) s else .bad
      | _ => .bad
    | _ => .bad
  | .lt => match p, q with
    | .int i, .int j => .ok (.bl (decide (i < j))) s
    | _, _ => .bad
  | .le => match p, q with
    | .int i, .int j => .ok (.bl (decide (i ≤ j))) s
    | _, _ => .bad
  | .gt => match p, q with
    | .int i, .int j => .ok (.bl (decide (j < i))) s
    | _, _ => .bad
  | .ge => match p, q with
    | .int i, .int j => .ok (.bl (decide (j ≤ i))) s
    | _, _ => .bad
def lenP (s : S) : P → Option Nat
  | .str x => if x.length ≤ SZ then some x.length else none
  | .tup xs => some xs.length
  | .rol xs => some xs.length
  | .loc n => match s[n]? with
    | some (.lst xs) => some xs.length
    | _ => none
  | _ => none
def intOf : P → Option Int
  | .int i => some i
  | _ => none
def intsOf : List P → Option (List Int)
  | [] => some []
  | x :: xs => (intOf x).bind fun i => (intsOf xs).map (i :: ·)
def minI : List Int → Option Int
  | [] => none
  | x :: xs => some (xs.foldl min x)
def maxI : List Int → Option Int
  | [] => none
  | x :: xs => some (xs.foldl max x)
open Classical in
/-- the items in order (stable) -/
noncomputable def sortP (xs : List P) : Option (List P) :=
  if pures? xs = true ∧ PySem.W.AllAlike (xs.map pd) ∧ (PySem.W.Sortable (xs.map pd) ∨ xs.map pd = [.tuple []]) ∧ (∀ x ∈ xs, (pd x).depth ≤ 64) then some (xs.mergeSort (PySem.W.dataLe false pd)) else none
noncomputable def pairsOf : List P → Option (List (P × P))
  | [] => some []
  | .tup [a, b] :: r => (pairsOf r).map ((a, b) :: ·)
  | _ => none
noncomputable def mergeP (kvs : List (P × P)) (more : List (P × P)) : List (P × P) := more.foldl (fun acc kv => dput acc kv.1 kv.2) kvs
noncomputable def b1P (f : B1) (p : P) (s : S) : R P :=
  match f with
  | .len => match p with
    | .loc n => match s[n]? with
      | some (.dct false kvs) => .ok (.int kvs.length) s
      | _ => ofO ((lenP s p).map fun n => .int n) s
    | _ => ofO ((lenP s p).map fun n => .int n) s
  | .tuple => ofO ((seqOf s p).map .tup) s
  | .list => match seqOf s p with
    | some xs => alloc (.lst xs) s
    | none => match p with
      | .loc n => match s[n]? with
        | some (.dct false kvs) => alloc (.lst (kvs.map (·.1))) s
        | _ => .bad
      | _ => .bad
  | .sum => ofO (((seqOf s p).bind intsOf).map fun l => .int l.sum) s
  | .sorted => match (lstOf s p).bind sortP with
    | some xs => alloc (.lst xs) s
    | none => .bad
  | .min => ofO ((((lstOf s p).bind intsOf).bind minI).map .int) s
  | .max => ofO ((((lstOf s p).bind intsOf).bind maxI).map .int) s
  | .abs => match p with
    | .int i => .ok (.int (if i < 0 then -i else i)) s
    | _ => .bad
  | .int => match p with
    | .int i => .ok (.int i) s
    | .bl b => .ok (.int (if b then 1 else 0)) s
    | _ => .bad
  | .dict => match ((lstOf s p).bind pairsOf) with
    | some kvs => if (kvs.all fun kv => tupK kv.1) then alloc (.dct false (mergeP [] kvs)) s else .bad
    | none => .bad
  | _ => .bad
def b2P (f : B2) (p q : P) (s : S) : R P :=
  match f, p, q with
  | .max, .int i, .int j => .ok (.int (if j > i then j else i)) s
  | .min, .int i, .int j => .ok (.int (if j < i then j else i)) s
  | _, _, _ => .bad
/-- a[i] -/
noncomputable def ixP (p i : P) (s : S) : R P :=
  match p with
  | .rol xs => match i with
    | .int k => ofO (atI xs k) s
    | _ => .bad
  | .tup xs => match i with
    | .int k => ofO (atI xs k) s
    | _ => .bad
  | .str x => match i with
    | .int k => if x.length ≤ SZ then ofO ((atI x.cps.toList k).map fun c => P.str ⟨#[c]⟩) s else .bad
    | _ => .bad
  | .loc n => match s[n]? with
    | some (.lst xs) => match i with
      | .int k => ofO (atI xs k) s
      | _ => .bad
    | some (.dct lk kvs) => if keyOk lk i kvs then ofO (dget kvs i) s else .bad
    | _ => .bad
  | _ => .bad
/-- a[i] where a is a list or a dict -/
noncomputable def ixG (p i : P) (s : S) : R P :=
  match p with
  | .loc n => match s[n]? with
    | some (.lst xs) => match i with
      | .int k => ofO (atI xs k) s
      | _ => .bad
    | some (.dct lk kvs) => if keyOk lk i kvs then ofO (dget kvs i) s else .bad
    | _ => .bad
  | _ => .bad
/-- a[lo:hi] -/
def slP (p : P) (lo hi : Option Int) (s : S) : R P :=
  match p with
  | .tup xs => .ok (.tup (cut xs lo hi)) s
  | .rol xs => alloc (.lst (cut xs lo hi)) s
  | .loc n => match s[n]? with
    | some (.lst xs) => alloc (.lst (cut xs lo hi)) s
    | _ => .bad
  | _ => .bad
/-- the store with the object n otherwise -/
def stI (p i x : P) (s : S) : R Unit :=
  match p with
  | .loc n => match s[n]? with
    | some (.lst xs) => match i with
      | .int k => match ixN xs.length k with
        | some j => .ok () (s.set n (.lst (xs.set j x)))
        | none => .bad
      | _ => .bad
    | _ => .bad
  | _ => .bad
noncomputable def stIx (p i x : P) (s : S) : R Unit :=
  match p with
  | .loc n => match s[n]? with
    | some (.dct false kvs) => if keyOk false i kvs = true ∧ kvs.length < SZ then .ok () (s.set n (.dct false (dput kvs i x))) else .bad
    | _ => stI p i x s
  | _ => .bad
def fput (k : Nat) (x : P) : List (Nat × P) → List (Nat × P)
  | [] => [(k, x)]
  | (g, y) :: r => if g = k then (g, x) :: r else (g, y) :: fput k x r
def fget (k : Nat) : List (Nat × P) → Option P
  | [] => none
  | (g, y) :: r => if g = k then some y else fget k r
def fldP (p : P) (k : Nat) (s : S) : R P :=
  match p with
  | .loc n => match s[n]? with
    | some (.ins _ fs) => ofO (fget k fs) s
    | _ => .bad
  | _ => .bad
def stF (ok : Nat → Nat → Bool) (p : P) (k : Nat) (x : P) (s : S) : R Unit :=
  match p with
  | .loc n => match s[n]? with
    | some (.ins c fs) => if ok c k = true ∧ fs.length < 1000 then .ok () (s.set n (.ins c (fput k x fs))) else .bad
    | _ => .bad
  | _ => .bad
def clsOf (s : S) : P → Option Nat
  | .loc n => match s[n]? with
    | some (.ins c _) => some c
    | _ => none
  | _ => none
def m0P (f : M0) (p : P) (s : S) : R P :=
  match f with
  | .pop => match p with
    | .loc n => match s[n]? with
      | some (.lst xs) => match xs[xs.length - 1]? with
        | some x => .ok x (s.set n (.lst xs.dropLast))
        | none => .bad
      | _ => .bad
    | _ => .bad
  -- list(d.items()), list(d.keys()): the new list
  | .items => match p with
    | .loc n => match s[n]? with
      | some (.dct false kvs) => alloc (.lst (kvs.map fun kv => .tup [kv.1, kv.2])) s
      | _ => .bad
    | _ => .bad
  | .keys => match p with
    | .loc n => match s[n]? with
      | some (.dct false kvs) => alloc (.lst (kvs.map (·.1))) s
      | _ => .bad
    | _ => .bad
  | _ => .bad
/-- what kind of thing a method wants -/
def isLst (s : S) : P → Bool
  | .loc n => match s[n]? with
    | some (.lst _) => true
    | _ => false
  | _ => false
def isDct (s : S) : P → Bool
  | .loc n => match s[n]? with
    | some (.dct false _) => true
    | _ => false
  | _ => false
def k1 (f : M1) (s : S) (p : P) : Bool := match f with
  | .get => isDct s p
  | _ => isLst s p
def k2 (f : M2) (s : S) (p : P) : Bool := match f with
  | .insert => isLst s p
  | _ => isDct s p
def m1P (f : M1) (p x : P) (s : S) : R P :=
  match f with
  | .append => match p with
    | .loc n => match s[n]? with
      | some (.lst xs) => if xs.length < SZ then .ok .non (s.set n (.lst (xs ++ [x]))) else .bad
      | _ => .bad
    | _ => .bad
  | .extend => match p, x with
    | .loc n, .loc b => match s[n]?, s[b]? with
      | some (.lst xs), some (.lst ys) => if xs.length + ys.length ≤ SZ then .ok .non (s.set n (.lst (xs ++ ys))) else .bad
      | _, _ => .bad
    | _, _ => .bad
  | _ => .bad
noncomputable def m2P (f : M2) (p x y : P) (s : S) : R P :=
  match f with
  | .get => match p with
    | .loc n => match s[n]? with
      | some (.dct lk kvs) => if keyOk lk x kvs then .ok ((dget kvs x).getD y) s else .bad
      | _ => .bad
    | _ => .bad
  | .setdefault => match p with
    | .loc n => match s[n]? with
      | some (.dct false kvs) => if tupK x = true ∧ (kvs.all fun kv => tupK kv.1) = true ∧ kvs.length < SZ then
          match dget kvs x with
          | some v => .ok v s
          | none => .ok y (s.set n (.dct false (dput kvs x y)))
        else .bad
      | _ => .bad
    | _ => .bad
  | _ => .bad
/-- sorted(d.items()) -/
noncomputable def sortIP (p : P) (s : S) : R P :=
  match p with
  | .loc n => match s[n]? with
    | some (.dct false kvs) => match sortP (kvs.map fun kv => .tup [kv.1, kv.2]) with
      | some xs => alloc (.lst xs) s
      | none => .bad
    | _ => .bad
  | _ => .bad
def isiP (t : Ty) (p : P) (s : S) : Option Bool :=
  match p with
  | .non => some false
  | .bl _ => some (match t with | .bool => true | .int => true | _ => false)
  | .int _ => some (match t with | .int => true | _ => false)
  | .str _ => some (match t with | .str => true | _ => false)
  | .tup _ => some (match t with | .tup => true | _ => false)
  | .rol _ => some (match t with | .lst => true | _ => false)
  | .loc n => match s[n]? with
    | some (.lst _) => some (match t with | .lst => true | _ => false)
    | some (.dct false _) => some (match t with | .dict => true | _ => false)
    | _ => none

/-! ### targets -/
mutual
def bindT : Tg → P → Loc → Option Loc
  | .v i, p, l => if i < l.length then some (l.set i (some p)) else none
  | .tup ts, .tup xs, l => bindTs ts xs l
  | .tup _, _, _ => none
def bindTs : Tgs → List P → Loc → Option Loc
  | .nil, [], l => some l
  | .cons t ts, x :: xs, l => (bindT t x l).bind (bindTs ts xs)
  | _, _, _ => none
end
def wipe (l : Loc) : List Nat → Loc
  | [] => l
  | v :: vs => (wipe l vs).set v none

/-! ### flow -/
inductive Fl | nx (l : Loc) | brk (l : Loc) | cnt (l : Loc) | ret (p : P)
/-- a for: g is what must stay true of the store while it walks -/
noncomputable def forL (g : S → Prop) (f : P → Loc → S → R Fl) : List P → Loc → S → R Fl
  | [], l, s => open Classical in if g s then .ok (.nx l) s else .bad
  | x :: xs, l, s => open Classical in if g s then (f x l s).bind fun fl s => match fl with
      | .nx l => forL g f xs l s
      | .cnt l => forL g f xs l s
      | .brk l => .ok (.nx l) s
      | .ret p => .ok (.ret p) s
    else .bad
def whlN (c : Loc → S → R Bool) (b : Loc → S → R Fl) : Nat → Loc → S → R Fl
  | 0, _, _ => .bad
  | n + 1, l, s => (c l s).bind fun k s => if k = true then (b l s).bind fun fl s => match fl with
      | .nx l => whlN c b n l s
      | .cnt l => whlN c b n l s
      | .brk l => .ok (.nx l) s
      | .ret p => .ok (.ret p) s
    else .ok (.nx l) s
open Classical in
noncomputable def whl (c : Loc → S → R Bool) (b : Loc → S → R Fl) (l : Loc) (s : S) : R Fl :=
  if h : ∃ n, whlN c b n l s ≠ .bad then whlN c b h.choose l s else .bad
/-- a list comprehension: none: a test left it out -/
noncomputable def lcL (g : S → Prop) (f : P → S → R (Option P)) : List P → List P → S → R (List P)
  | [], acc, s => open Classical in if g s then .ok acc s else .bad
  | x :: xs, acc, s => open Classical in if g s then (f x s).bind fun o s => match o with
      | some y => if acc.length < SZ then lcL g f xs (acc ++ [y]) s else .bad
      | none => lcL g f xs acc s
    else .bad
/-- the inner loop of a comprehension with two fors -/
noncomputable def lcI (g : S → Prop) (f : P → List P → S → R (List P)) : List P → List P → S → R (List P)
  | [], acc, s => open Classical in if g s then .ok acc s else .bad
  | x :: xs, acc, s => open Classical in if g s then (f x acc s).bind fun acc s => lcI g f xs acc s else .bad

/-! ### the evaluator -/
structure Env where
  cal : Nat → List P → S → R P
  new : Nat → List P → S → R P
  mt : Nat → Nat → Option Nat
  fok : Nat → Nat → Bool

abbrev Walk := List P × (S → Prop)
def zipP (xs ys : List P) : List P := List.zipWith (fun x y => P.tup [x, y]) xs ys
def enumP (k : Nat) : List P → List P
  | [] => []
  | x :: xs => .tup [.int k, x] :: enumP (k + 1) xs
def rngP (lo : Int) : Nat → List P
  | 0 => []
  | n + 1 => .int lo :: rngP (lo + 1) n
/-- zip's two: both tuples, or both lists -/
def zipOf (s : S) (p q : P) : Option (List P × List P) := match p, q with
  | .tup xs, .tup ys => some (xs, ys)
  | p, q => (lstOf s p).bind fun xs => (lstOf s q).map fun ys => (xs, ys)
/-- what stays while p is walked -/
def stays (p : P) (s0 : S) : S → Prop := match p with
  | .loc n => fun s => s[n]? = s0[n]?
  | _ => fun _ => True
/-- a dict that is walked is locked -/
def lockD (p : P) (s : S) : Option (Nat × List (P × P) × S) := match p with
  | .loc n => match s[n]? with
    | some (.dct false kvs) => some (n, kvs, s.set n (.dct true kvs))
    | _ => none
  | _ => none
def locked (n : Nat) (kvs : List (P × P)) (s : S) : Prop := s[n]? = some (.dct true kvs)
def walkD (itm : Bool) (kvs : List (P × P)) : List P := if itm = true then kvs.map fun kv => .tup [kv.1, kv.2] else kvs.map (·.1)
def rngOk (i : Int) : Prop := -(2 ^ 62) ≤ i ∧ i < 2 ^ 62
instance (i : Int) : Decidable (rngOk i) := inferInstanceAs (Decidable (_ ∧ _))

mutual
noncomputable def ev (G : Env) : Ex → Loc → S → R P
  | .v i, l, s => match l[i]? with
    | some (some p) => .ok p s
    | _ => .bad
  | .int i, _, s => .ok (.int i) s
  | .bl b, _, s => .ok (.bl b) s
  | .non, _, s => .ok .non s
  | .str x, _, s => .ok (.str x) s
  | .tup es, l, s => (evs G es l s).bind fun xs s => .ok (.tup xs) s
  | .lst es, l, s => (evs G es l s).bind fun xs s => alloc (.lst xs) s
  | .dct, _, s => alloc (.dct false []) s
  | .bin o a b, l, s => (ev G a l s).bind fun p s => (ev G b l s).bind fun q s => binP o p q s
  | .neg a, l, s => (ev G a l s).bind fun p s => match p with
    | .int i => .ok (.int (-i)) s
    | _ => .bad
  | .not a, l, s => (ev G a l s).bind fun p s => (ofO (truth s p) s).bind fun k s => .ok (.bl !k) s
  | .cmp o a b, l, s => (ev G a l s).bind fun p s => (ev G b l s).bind fun q s => cmpP o p q s
  | .cmp2 o o' a b c, l, s => (ev G a l s).bind fun p s => (ev G b l s).bind fun q s => (cmpP o p q s).bind fun z s =>
      match z with
      | .bl true => (ev G c l s).bind fun w s => cmpP o' q w s
      | .bl false => .ok (.bl false) s
      | _ => .bad
  | .isN a, l, s => (ev G a l s).bind fun p s => .ok (.bl (match p with | .non => true | _ => false)) s
  | .notN a, l, s => (ev G a l s).bind fun p s => .ok (.bl (match p with | .non => false | _ => true)) s
  | .and a b, l, s => (ev G a l s).bind fun p s => (ofO (truth s p) s).bind fun k s => if k = true then ev G b l s else .ok p s
  | .or a b, l, s => (ev G a l s).bind fun p s => (ofO (truth s p) s).bind fun k s => if k = true then .ok p s else ev G b l s
  | .ife c a b, l, s => (ev G c l s).bind fun p s => (ofO (truth s p) s).bind fun k s => if k = true then ev G a l s else ev G b l s
  | .ix a i, l, s => (ev G a l s).bind fun p s => (ev G i l s).bind fun q s => ixP p q s
  | .sl a lo hi, l, s => (ev G a l s).bind fun p s => (ev G lo l s).bind fun x s => (ev G hi l s).bind fun y s =>
      match x, y with
      | .int i, .int j => slP p (some i) (some j) s
      | _, _ => .bad
  | .slL a lo, l, s => (ev G a l s).bind fun p s => (ev G lo l s).bind fun x s =>
      match x with
      | .int i => slP p (some i) none s
      | _ => .bad
  | .slU a hi, l, s => (ev G a l s).bind fun p s => (ev G hi l s).bind fun y s =>
      match y with
      | .int j => slP p none (some j) s
      | _ => .bad
  | .slA a, l, s => (ev G a l s).bind fun p s => slP p none none s
  | .fld a k, l, s => (ev G a l s).bind fun p s => fldP p k s
  | .call f as, l, s => (evs G as l s).bind fun xs s => G.cal f xs s
  | .new c as, l, s => (evs G as l s).bind fun xs s => G.new c xs s
  | .meth o k as, l, s => (ev G o l s).bind fun p s => match p with
    | .loc n => match s[n]? with
      | some (.ins c fs) => match G.mt c k, fget k fs with
        | some f, none => (evs G as l s).bind fun xs s => G.cal f (.loc n :: xs) s
        | _, _ => .bad
      | _ => .bad
    | _ => .bad
  | .b1 f a, l, s => (ev G a l s).bind fun p s => b1P f p s
  | .b2 f a b, l, s => (ev G a l s).bind fun p s => (ev G b l s).bind fun q s => b2P f p q s
  | .m0 f o, l, s => (ev G o l s).bind fun p s => m0P f p s
  | .m1 f o a, l, s => (ev G o l s).bind fun p s => if k1 f s p = true then (ev G a l s).bind fun q s => m1P f p q s else .bad
  | .m2 f o a b, l, s => (ev G o l s).bind fun p s => if k2 f s p = true then (ev G a l s).bind fun q s => (ev G b l s).bind fun r s => m2P f p q r s else .bad
  | .sortI o, l, s => (ev G o l s).bind fun p s => sortIP p s
  | .isi a t, l, s => (ev G a l s).bind fun p s => ofO ((isiP t p s).map .bl) s
  | .lc t it cs e own, l, s => (evI G it l s).bind fun w s =>
      (lcL w.2 (fun x s => (ofO (bindT t x (wipe l own)) s).bind fun l2 s => (evC G cs l2 s).bind fun k s => if k = true then (ev G e l2 s).bind fun p s => .ok (some p) s else .ok none s) w.1 [] s).bind fun acc s => alloc (.lst acc) s
  | .lcD t itm a cs e own, l, s => (ev G a l s).bind fun p s => match lockD p s with
    | some (n, kvs, s) => (lcL (locked n kvs) (fun x s => (ofO (bindT t x (wipe l own)) s).bind fun l2 s => (evC G cs l2 s).bind fun k s => if k = true then (ev G e l2 s).bind fun p s => .ok (some p) s else .ok none s) (walkD itm kvs) [] s).bind fun acc s =>
        alloc (.lst acc) (s.set n (.dct false kvs))
    | none => .bad
  | .lc2 t it cs t2 it2 cs2 e own own2, l, s => (evI G it l s).bind fun w s =>
      (lcI w.2 (fun x acc s => (ofO (bindT t x (wipe l own)) s).bind fun l2 s => (evC G cs l2 s).bind fun k s => if k = true then
          (evI G it2 l2 s).bind fun w2 s =>
            lcL w2.2 (fun x s => (ofO (bindT t2 x (wipe l2 own2)) s).bind fun l3 s => (evC G cs2 l3 s).bind fun k s => if k = true then (ev G e l3 s).bind fun p s => .ok (some p) s else .ok none s) w2.1 acc s
        else .ok acc s) w.1 [] s).bind fun acc s => alloc (.lst acc) s
noncomputable def evs (G : Env) : Exs → Loc → S → R (List P)
  | .nil, _, s => .ok [] s
  | .cons e es, l, s => (ev G e l s).bind fun p s => (evs G es l s).bind fun ps s => .ok (p :: ps) s
/-- tests, from the left -/
noncomputable def evC (G : Env) : Exs → Loc → S → R Bool
  | .nil, _, s => .ok true s
  | .cons e es, l, s => (ev G e l s).bind fun p s => (ofO (truth s p) s).bind fun k s => if k = true then evC G es l s else .ok false s
noncomputable def evI (G : Env) : It → Loc → S → R Walk
  | .ex e, l, s => (ev G e l s).bind fun p s => match seqOf s p with
    | some xs => .ok (xs, stays p s) s
    | none => .bad
  | .rng1 a, l, s => (ev G a l s).bind fun p s => match p with
    | .int j => if rngOk j then .ok (rngP 0 j.toNat, fun _ => True) s else .bad
    | _ => .bad
  | .rng2 a b, l, s => (ev G a l s).bind fun p s => (ev G b l s).bind fun q s => match p, q with
    | .int i, .int j => if rngOk i ∧ rngOk j then .ok (rngP i (j - i).toNat, fun _ => True) s else .bad
    | _, _ => .bad
  | .zip a b, l, s => (ev G a l s).bind fun p s => (ev G b l s).bind fun q s => match zipOf s p q with
    | some xy => .ok (zipP xy.1 xy.2, fun s' => stays p s s' ∧ stays q s s') s
    | none => .bad
  | .enum a, l, s => (ev G a l s).bind fun p s => match seqOf s p with
    | some xs => .ok (enumP 0 xs, stays p s) s
    | none => .bad
  | .rev a, l, s => (ev G a l s).bind fun p s => match lstOf s p with
    | some xs => .ok (xs.reverse, stays p s) s
    | none => .bad
end
noncomputable def cond (G : Env) (e : Ex) (l : Loc) (s : S) : R Bool := (ev G e l s).bind fun p s => ofO (truth s p) s
def setN (l : Loc) : List Nat → List P → Option Loc
  | [], [] => some l
  | i :: is, x :: xs => if i < l.length then setN (l.set i (some x)) is xs else none
  | _, _ => none

mutual
noncomputable def ex (G : Env) : Sm → Loc → S → R Fl
  | .ex e, l, s => (ev G e l s).bind fun _ s => .ok (.nx l) s
  | .asg t e, l, s => (ev G e l s).bind fun p s => (ofO (bindT t p l) s).bind fun l s => .ok (.nx l) s
  | .par is es, l, s => (evs G es l s).bind fun ps s => (ofO (setN l is ps) s).bind fun l s => .ok (.nx l) s
  | .asgI a i e, l, s => (ev G e l s).bind fun x s => (ev G a l s).bind fun p s => (ev G i l s).bind fun q s => (stIx p q x s).bind fun _ s => .ok (.nx l) s
  | .asgF a k e, l, s => (ev G e l s).bind fun x s => (ev G a l s).bind fun p s => (stF G.fok p k x s).bind fun _ s => .ok (.nx l) s
  | .parF a k1 k2 e1 e2, l, s => (ev G e1 l s).bind fun x s => (ev G e2 l s).bind fun y s => (ev G a l s).bind fun p s => (stF G.fok p k1 x s).bind fun _ s => (ev G a l s).bind fun p s => (stF G.fok p k2 y s).bind fun _ s => .ok (.nx l) s
  | .aug i o e, l, s => match l[i]? with
    | some (some p) => (ev G e l s).bind fun q s => (augP o p q s).bind fun r s => .ok (.nx (l.set i (some r))) s
    | _ => .bad
  | .augI a i o e, l, s => (ev G a l s).bind fun p s => (ev G i l s).bind fun q s => (ixG p q s).bind fun x s => (ev G e l s).bind fun y s => (augP o x y s).bind fun z s => (stIx p q z s).bind fun _ s => .ok (.nx l) s
  | .augF a k o e, l, s => (ev G a l s).bind fun p s => (fldP p k s).bind fun x s1 => (ev G e l s1).bind fun y s => (augP o x y s).bind fun z s => if clsOf s p = clsOf s1 p then (stF G.fok p k z s).bind fun _ s => .ok (.nx l) s else .bad
  | .ife c a b, l, s => (cond G c l s).bind fun k s => if k = true then exs G a l s else exs G b l s
  | .whl c b, l, s => whl (cond G c) (exs G b) l s
  | .for t it b, l, s => (evI G it l s).bind fun w s => forL w.2 (fun x l s => (ofO (bindT t x l) s).bind fun l s => exs G b l s) w.1 l s
  | .forD t itm a b, l, s => (ev G a l s).bind fun p s => match lockD p s with
    | some (n, kvs, s) => (forL (locked n kvs) (fun x l s => (ofO (bindT t x l) s).bind fun l s => exs G b l s) (walkD itm kvs) l s).bind fun fl s => open Classical in if locked n kvs s then .ok fl (s.set n (.dct false kvs)) else .bad
    | none => .bad
  | .ret e, l, s => (ev G e l s).bind fun p s => .ok (.ret p) s
  | .retN, _, s => .ok (.ret .non) s
  | .pass, l, s => .ok (.nx l) s
  | .brk, l, s => .ok (.brk l) s
  | .cnt, l, s => .ok (.cnt l) s
noncomputable def exs (G : Env) : Sms → Loc → S → R Fl
  | .nil, l, s => .ok (.nx l) s
  | .cons st ss, l, s => (ex G st l s).bind fun fl s => match fl with
    | .nx l => exs G ss l s
    | fl => .ok fl s
end

/-! ### calls -/
mutual
def bnd (n : Nat) : P → Bool
  | .tup xs => bnds n xs
  | .rol xs => bnds n xs
  | .loc k => decide (k < n)
  | _ => true
def bnds (n : Nat) : List P → Bool
  | [] => true
  | x :: xs => bnd n x && bnds n xs
end
def bndO (n : Nat) : O → Bool
  | .lst xs => bnds n xs
  | .dct _ kvs => kvs.all fun kv => bnd n kv.1 && bnd n kv.2
  | .ins _ fs => fs.all fun kv => bnd n kv.2
/-- what a call's frame leaves: new objects that nothing refers to are forgotten -/
def Clean (s0 : S) (p : P) (s : S) : Prop := bnd s0.length p = true ∧ ∀ i, i < s0.length → s[i]? = s0[i]? ∨ ∃ o, s[i]? = some o ∧ bndO s0.length o = true
open Classical in
noncomputable def gc (s0 : S) (r : R P) : R P := match r with
  | .ok p s => if Clean s0 p s then .ok p (s.take s0.length) else .ok p s
  | .exc c xs s => .exc c xs s
  | .bad => .bad
/-- a def: how many parameters, how many names, its body -/
structure Df where
  ps : Nat
  ns : Nat
  body : Sms
structure Pg where
  defs : List Df
  /-- a class: its __init__ -/
  inits : List Nat
  /-- its methods -/
  mts : Nat → Nat → Option Nat
  /-- which attributes an instance may be given -/
  fok : Nat → Nat → Bool
noncomputable def run (G : Env) (d : Df) (args : List P) (s : S) : R P :=
  if args.length = d.ps ∧ d.ps ≤ d.ns then
    gc s ((exs G d.body (args.map some ++ List.replicate (d.ns - args.length) none) s).bind fun fl s => match fl with
      | .nx _ => .ok .non s
      | .ret p => .ok p s
      | _ => .bad)
  else .bad
noncomputable def callN (pg : Pg) : Nat → Nat → List P → S → R P
  | 0, _, _, _ => .bad
  | n + 1, f, args, s => match pg.defs[f]? with
    | some d => run ⟨callN pg n, fun c xs s => match n with
        | 0 => .bad
        | m + 1 => match pg.inits[c]? with
          | some i => (callN pg m i (.loc s.length :: xs) (s ++ [.ins c []])).bind fun r s' => match r with
            | .non => .ok (.loc s.length) s'
            | _ => .bad
          | none => .bad, pg.mts, pg.fok⟩ d args s
    | none => .bad
end Pa
/-! Pa, part B: what the values and the store mean in the layer's heap; readings by the evaluator. -/
namespace Pa
open PySem (Str PyData Addr Value Obj Shared Expr Stmt Pos model)
open L2 (V HO Hp Rd SqL SqT upd upd_same upd_ne VK TE TT TA TS TG TI Ends Cx Inv PE PT PA PS PSs PG PI RelV Vals EP Key kV R2 OpR)

/-- the program's names: where each class lies, what each attribute is called -/
structure Nm where
  cls : Nat → Addr
  fld : Nat → Str
  inj : ∀ i j, fld i = fld j → i = j
abbrev Mp := Nat → Addr

section
variable (K : PySem.W.Frag) (H : Hp) (m : Mp) (n : Nat)
mutual
def Den : P → V → Prop
  | .non, v => v = .non
  | .bl b, v => v = .bl b
  | .int i, v => v = .int i
  | .str x, v => v = .str x
  | .tup ps, v => ∃ a vs, v = .ref a ∧ H a = some (.tup vs) ∧ Dens ps vs
  | .rol ps, v => ∃ a vs, v = .ref a ∧ ((∃ o, H a = some (.frz o (.lst vs))) ∨ ∃ (o : Obj) (its : Array Value) (k : Nat), K.lookup a = some o ∧ o.cls = .type "list" ∧ o.dict = none ∧ o.data = .seq its k ∧ its.size ≤ PySem.sizeLine ∧ Vals vs its.toList) ∧ Dens ps vs
  | .loc k, v => k < n ∧ v = .ref (m k)
def Dens : List P → List V → Prop
  | [], vs => vs = []
  | p :: ps, vs => ∃ v r, vs = v :: r ∧ Den p v ∧ Dens ps r
end
end
/-- a key of a dict -/
def keyP : P → Option Key
  | .int i => some (.inl i)
  | .str x => some (.inr x)
  | _ => none
def KeysP : List P → Option (List Key)
  | [] => some []
  | p :: ps => (keyP p).bind fun k => (KeysP ps).map (k :: ·)
def tkeyP : P → Option (List Key)
  | .tup ps => KeysP ps
  | _ => none
/-- a dict's pairs, by keys -/
def DensD {κ : Type} (K : PySem.W.Frag) (H : Hp) (m : Mp) (n : Nat) (f : P → Option κ) : List (P × P) → List (κ × V) → Prop
  | [], ks => ks = []
  | (p, q) :: r, ks => ∃ k v t, ks = (k, v) :: t ∧ f p = some k ∧ Den K H m n q v ∧ DensD K H m n f r t
def DensF (K : PySem.W.Frag) (N : Nm) (H : Hp) (m : Mp) (n : Nat) : List (Nat × P) → List (Str × V) → Prop
  | [], fs => fs = []
  | (k, p) :: r, fs => ∃ v t, fs = (N.fld k, v) :: t ∧ Den K H m n p v ∧ DensF K N H m n r t
def lkO (lk : Bool) (h : Option HO) (u : HO) : Prop := if lk = true then ∃ o, h = some (.frz o u) else h = some u
def ORel (K : PySem.W.Frag) (N : Nm) (H : Hp) (m : Mp) (n : Nat) : O → Addr → Prop
  | .lst ps, a => ∃ vs, H a = some (.lst vs) ∧ Dens K H m n ps vs
  | .dct lk kvs, a => (∃ ks : List (Key × V), lkO lk (H a) (.dK ks) ∧ DensD K H m n keyP kvs ks) ∨ (∃ ks : List (List Key × V), lkO lk (H a) (.dT ks) ∧ DensD K H m n tkeyP kvs ks)
  | .ins c fs, a => ∃ dx fs', H a = some (.ins (N.cls c) dx fs') ∧ DensF K N H m n fs fs' ∧ L2.Cls K (N.cls c) ∧ ∀ p ∈ fs, L2.NoAttr K (N.cls c) (N.fld p.1)
structure Rel (K : PySem.W.Frag) (N : Nm) (H : Hp) (m : Mp) (s : S) : Prop where
  inj : ∀ i j, i < s.length → j < s.length → m i = m j → i = j
  obj : ∀ i o, s[i]? = some o → ORel K N H m s.length o (m i)
structure Ext (n : Nat) (H : Hp) (m : Mp) (n' : Nat) (H' : Hp) (m' : Mp) : Prop where
  le : n ≤ n'
  map : ∀ i, i < n → m' i = m i
  keep : ∀ a o, H a = some o → (∀ i, i < n → m i ≠ a) → H' a = some o
  there : ∀ a, H a ≠ none → H' a ≠ none
  new : ∀ i, n ≤ i → i < n' → H (m' i) = none
  frz : ∀ a o u, H a = some (.frz o u) → H' a = some (.frz o u)

/-! ### the objects of the store are no tuples -/
def Mutb : HO → Prop
  | .lst _ => True
  | .dK _ => True
  | .dT _ => True
  | .ins _ _ _ => True
  | .frz _ (.dK _) => True
  | .frz _ (.dT _) => True
  | _ => False
theorem lkO.mutbK {lk : Bool} {h : Option HO} {ks : List (Key × V)} (e : lkO lk h (.dK ks)) : ∃ u, h = some u ∧ Mutb u := by
  unfold lkO at e
  split at e
  · obtain ⟨o, e⟩ := e; exact ⟨_, e, trivial⟩
  · exact ⟨_, e, trivial⟩
theorem lkO.mutbT {lk : Bool} {h : Option HO} {ks : List (List Key × V)} (e : lkO lk h (.dT ks)) : ∃ u, h = some u ∧ Mutb u := by
  unfold lkO at e
  split at e
  · obtain ⟨o, e⟩ := e; exact ⟨_, e, trivial⟩
  · exact ⟨_, e, trivial⟩
section
variable {K : PySem.W.Frag} {N : Nm} {H H' H2 : Hp} {m m' m2 : Mp} {n n' n2 : Nat} {s s' : S}
theorem ORel.mutb {o : O} {a : Addr} (h : ORel K N H m n o a) : ∃ u, H a = some u ∧ Mutb u := by
  cases o with
  | lst ps => obtain ⟨vs, e, _⟩ := h; exact ⟨_, e, trivial⟩
  | dct lk kvs =>
    rcases h with ⟨ks, e, _⟩ | ⟨ks, e, _⟩
    · exact e.mutbK
    · exact e.mutbT
  | ins c fs => obtain ⟨dx, fs', e, _⟩ := h; exact ⟨_, e, trivial⟩
theorem Rel.mutb (r : Rel K N H m s) {i : Nat} (h : i < s.length) : ∃ u, H (m i) = some u ∧ Mutb u :=
  (r.obj i s[i] (List.getElem?_eq_getElem h)).mutb
theorem Rel.ne_tup (r : Rel K N H m s) {a : Addr} {u : HO} (h : H a = some u) (hu : ¬ Mutb u) : ∀ i, i < s.length → m i ≠ a := fun i hi e => by
  obtain ⟨w, h1, h2⟩ := r.mutb hi
  rw [e, h] at h1
  cases h1
  exact hu h2

/-! ### what stays when the heap grows -/
theorem Ext.refl : Ext n H m n H m := ⟨Nat.le_refl _, fun _ _ => rfl, fun _ _ h _ => h, fun _ h => h, fun i h1 h2 => absurd h1 (by omega), fun _ _ _ h => h⟩
theorem Ext.trans (a : Ext n H m n' H' m') (b : Ext n' H' m' n2 H2 m2) : Ext n H m n2 H2 m2 where
  le := Nat.le_trans a.le b.le
  map := fun i h => (b.map i (Nat.lt_of_lt_of_le h a.le)).trans (a.map i h)
  keep := fun x o h hn => by
    refine b.keep x o (a.keep x o h hn) fun i hi e => ?_
    by_cases hl : i < n
    · exact hn i hl ((a.map i hl).symm.trans e)
    · have q := a.new i (by omega) hi
      rw [e, h] at q
      cases q
  there := fun x h => b.there x (a.there x h)
  new := fun i h1 h2 => by
    by_cases hl : i < n'
    · rw [b.map i hl]; exact a.new i h1 hl
    · have q := b.new i (by omega) h2
      cases e : H (m2 i) with
      | none => rfl
      | some o => exact absurd q (a.there _ (by rw [e]; simp))
  frz := fun x o u h => b.frz x o u (a.frz x o u h)
/-- what the meaning of a value leans on -/
structure Wx (n : Nat) (H : Hp) (m : Mp) (n' : Nat) (H' : Hp) (m' : Mp) : Prop where
  le : n ≤ n'
  map : ∀ i, i < n → m' i = m i
  keep : ∀ a u, H a = some u → ¬ Mutb u → H' a = some u
theorem Ext.wx (x : Ext n H m n' H' m') (ne : ∀ a u, H a = some u → ¬ Mutb u → ∀ i, i < n → m i ≠ a) : Wx n H m n' H' m' := ⟨x.le, x.map, fun a u h hu => x.keep a u h (ne a u h hu)⟩
mutual
theorem Den.mono (x : Wx n H m n' H' m') : ∀ (p : P) (v : V), Den K H m n p v → Den K H' m' n' p v
  | .non, v, h => h
  | .bl b, v, h => h
  | .int i, v, h => h
  | .str y, v, h => h
  | .tup ps, v, h => by
    obtain ⟨a, vs, e, q, d⟩ := h
    exact ⟨a, vs, e, x.keep a _ q (fun z => z), Dens.mono x ps vs d⟩
  | .rol ps, v, h => by
    obtain ⟨a, vs, e, q, d⟩ := h
    refine ⟨a, vs, e, ?_, Dens.mono x ps vs d⟩
    rcases q with ⟨o, q⟩ | q
    · exact .inl ⟨o, x.keep a _ q (fun z => z)⟩
    · exact .inr q
  | .loc k, v, h => by
    obtain ⟨hk, e⟩ := h
    exact ⟨Nat.lt_of_lt_of_le hk x.le, by rw [x.map k hk]; exact e⟩
theorem Dens.mono (x : Wx n H m n' H' m') : ∀ (ps : List P) (vs : List V), Dens K H m n ps vs → Dens K H' m' n' ps vs
  | [], vs, h => h
  | p :: ps, vs, h => by
    obtain ⟨v, r, e, d, t⟩ := h
    exact ⟨v, r, e, Den.mono x p v d, Dens.mono x ps r t⟩
end
theorem DensD.mono {κ : Type} {f : P → Option κ} (x : Wx n H m n' H' m') : ∀ (kvs : List (P × P)) (ks : List (κ × V)), DensD K H m n f kvs ks → DensD K H' m' n' f kvs ks
  | [], ks, h => h
  | (p, q) :: r, ks, h => by
    obtain ⟨k, v, t, e, e1, d, t'⟩ := h
    exact ⟨k, v, t, e, e1, Den.mono x q v d, DensD.mono x r t t'⟩
theorem DensF.mono (x : Wx n H m n' H' m') : ∀ (kvs : List (Nat × P)) (ks : List (Str × V)), DensF K N H m n kvs ks → DensF K N H' m' n' kvs ks
  | [], ks, h => h
  | (k, p) :: r, ks, h => by
    obtain ⟨v, t, e, d, t'⟩ := h
    exact ⟨v, t, e, Den.mono x p v d, DensF.mono x r t t'⟩
theorem ORel.mono (x : Wx n H m n' H' m') {o : O} {a : Addr} (h : ORel K N H m n o a) (e : H' a = H a) : ORel K N H' m' n' o a := by
  cases o with
  | lst ps => obtain ⟨vs, h1, d⟩ := h; exact ⟨vs, e.trans h1, Dens.mono x _ _ d⟩
  | dct lk kvs =>
    rcases h with ⟨ks, h1, d⟩ | ⟨ks, h1, d⟩
    · exact .inl ⟨ks, by rw [e]; exact h1, DensD.mono x _ _ d⟩
    · exact .inr ⟨ks, by rw [e]; exact h1, DensD.mono x _ _ d⟩
  | ins c fs => obtain ⟨dx, fs', h1, d, q⟩ := h; exact ⟨dx, fs', e.trans h1, DensF.mono x _ _ d, q⟩
theorem Den.ext (x : Ext n H m n' H' m') (ne : ∀ a u, H a = some u → ¬ Mutb u → ∀ i, i < n → m i ≠ a) (p : P) (v : V) (h : Den K H m n p v) : Den K H' m' n' p v := Den.mono (x.wx ne) p v h
theorem Dens.ext (x : Ext n H m n' H' m') (ne : ∀ a u, H a = some u → ¬ Mutb u → ∀ i, i < n → m i ≠ a) (p : List P) (v : List V) (h : Dens K H m n p v) : Dens K H' m' n' p v := Dens.mono (x.wx ne) p v h
theorem DensD.ext {κ : Type} {f : P → Option κ} (x : Ext n H m n' H' m') (ne : ∀ a u, H a = some u → ¬ Mutb u → ∀ i, i < n → m i ≠ a) (kvs : List (P × P)) (ks : List (κ × V)) (h : DensD K H m n f kvs ks) : DensD K H' m' n' f kvs ks := DensD.mono (x.wx ne) kvs ks h
theorem DensF.ext (x : Ext n H m n' H' m') (ne : ∀ a u, H a = some u → ¬ Mutb u → ∀ i, i < n → m i ≠ a) (kvs : List (Nat × P)) (ks : List (Str × V)) (h : DensF K N H m n kvs ks) : DensF K N H' m' n' kvs ks := DensF.mono (x.wx ne) kvs ks h
theorem ORel.ext (x : Ext n H m n' H' m') (ne : ∀ a u, H a = some u → ¬ Mutb u → ∀ i, i < n → m i ≠ a) {o : O} {a : Addr} (h : ORel K N H m n o a) (e : H' a = H a) : ORel K N H' m' n' o a := h.mono (x.wx ne) e
theorem Rel.ne (r : Rel K N H m s) : ∀ a u, H a = some u → ¬ Mutb u → ∀ i, i < s.length → m i ≠ a := fun a u h hu => r.ne_tup h hu
theorem Rel.den (r : Rel K N H m s) (x : Ext s.length H m n' H' m') {p : P} {v : V} (d : Den K H m s.length p v) : Den K H' m' n' p v := Den.ext x r.ne p v d
theorem Rel.dens (r : Rel K N H m s) (x : Ext s.length H m n' H' m') {p : List P} {v : List V} (d : Dens K H m s.length p v) : Dens K H' m' n' p v := Dens.ext x r.ne p v d

/-- a new object -/
def mpush (m : Mp) (n : Nat) (p : Addr) : Mp := fun i => if i = n then p else m i
theorem mpush_at : mpush m n a n = a := by unfold mpush; rw [if_pos rfl]
theorem mpush_lt {a : Addr} {i : Nat} (h : i < n) : mpush m n a i = m i := by unfold mpush; rw [if_neg (by omega)]
theorem Ext.push (r : Rel K N H m s) {p : Addr} {u : HO} (hp : H p = none) : Ext s.length H m (s.length + 1) (upd H p u) (mpush m s.length p) where
  le := Nat.le_succ _
  map := fun i h => mpush_lt h
  keep := fun a o h _ => by rw [upd_ne (L2.ne_of_none h hp)]; exact h
  there := fun a h => by
    by_cases e : a = p
    · subst e; rw [upd_same]; simp
    · rw [upd_ne e]; exact h
  new := fun i h1 h2 => by
    have e : i = s.length := by omega
    subst e
    rw [mpush_at]
    exact hp
  frz := fun a o w h => by rw [upd_ne (L2.ne_of_none h hp)]; exact h
/-- a new thing in the heap that the store does not name -/
theorem Ext.fresh {p : Addr} {u : HO} (hp : H p = none) : Ext n H m n (upd H p u) m where
  le := Nat.le_refl _
  map := fun _ _ => rfl
  keep := fun a o h _ => by rw [upd_ne (L2.ne_of_none h hp)]; exact h
  there := fun a h => by
    by_cases e : a = p
    · subst e; rw [upd_same]; simp
    · rw [upd_ne e]; exact h
  new := fun i h1 h2 => absurd h1 (by omega)
  frz := fun a o w h => by rw [upd_ne (L2.ne_of_none h hp)]; exact h
theorem Rel.fresh (r : Rel K N H m s) {p : Addr} {u : HO} (hp : H p = none) : Rel K N (upd H p u) m s where
  inj := r.inj
  obj := fun i o h => by
    refine (r.obj i o h).ext (Ext.fresh hp) r.ne ?_
    have hi : i < s.length := (List.getElem?_eq_some_iff.mp h).1
    obtain ⟨w, h1, _⟩ := r.mutb hi
    exact upd_ne (L2.ne_of_none h1 hp)
theorem Rel.push (r : Rel K N H m s) {p : Addr} {u : HO} {o : O} (hp : H p = none) (ho : ORel K N (upd H p u) (mpush m s.length p) (s.length + 1) o p) : Rel K N (upd H p u) (mpush m s.length p) (s ++ [o]) where
  inj := fun i j hi hj e => by
    rw [List.length_append, List.length_singleton] at hi hj
    by_cases h1 : i < s.length <;> by_cases h2 : j < s.length
    · rw [mpush_lt h1, mpush_lt h2] at e; exact r.inj i j h1 h2 e
    · have e2 : j = s.length := by omega
      subst e2
      rw [mpush_lt h1, mpush_at] at e
      obtain ⟨w, q, _⟩ := r.mutb h1
      rw [e, hp] at q; cases q
    · have e2 : i = s.length := by omega
      subst e2
      rw [mpush_lt h2, mpush_at] at e
      obtain ⟨w, q, _⟩ := r.mutb h2
      rw [← e, hp] at q; cases q
    · omega
  obj := fun i o' h => by
    rw [List.length_append, List.length_singleton]
    have hi := (List.getElem?_eq_some_iff.mp h).1
    rw [List.length_append, List.length_singleton] at hi
    by_cases h1 : i < s.length
    · rw [List.getElem?_append_left h1] at h
      rw [mpush_lt h1]
      obtain ⟨w, q, _⟩ := r.mutb h1
      exact (r.obj i o' h).ext (Ext.push r hp) r.ne (upd_ne (L2.ne_of_none q hp))
    · have e : i = s.length := by omega
      subst e
      rw [List.getElem?_append_right (Nat.le_refl _), Nat.sub_self] at h
      cases h
      rw [mpush_at]
      exact ho
/-- an object of the store is changed -/
theorem Ext.set {k : Nat} {u : HO} (r : Rel K N H m s) (hk : k < s.length) (hf : ∀ o w, H (m k) ≠ some (.frz o w) := by intro o w e; simp_all) : Ext s.length H m s.length (upd H (m k) u) m where
  le := Nat.le_refl _
  map := fun _ _ => rfl
  keep := fun a o h hn => by rw [upd_ne (fun e => hn k hk e.symm)]; exact h
  there := fun a h => by
    by_cases e : a = m k
    · subst e; rw [upd_same]; simp
    · rw [upd_ne e]; exact h
  new := fun i h1 h2 => absurd h1 (by omega)
  frz := fun a o w h => by rw [upd_ne (fun e => hf o w (by rw [← e]; exact h))]; exact h
theorem Wx.set {k : Nat} {u : HO} (r : Rel K N H m s) (hk : k < s.length) : Wx s.length H m s.length (upd H (m k) u) m where
  le := Nat.le_refl _
  map := fun _ _ => rfl
  keep := fun a o h hn => by rw [upd_ne (fun e => r.ne_tup h hn k hk e.symm)]; exact h
theorem Rel.set (r : Rel K N H m s) {k : Nat} {u : HO} {o : O} (hk : k < s.length) (ho : ORel K N (upd H (m k) u) m s.length o (m k)) : Rel K N (upd H (m k) u) m (s.set k o) where
  inj := fun i j hi hj e => by rw [List.length_set] at hi hj; exact r.inj i j hi hj e
  obj := fun i o' h => by
    rw [List.length_set]
    by_cases e : i = k
    · subst e
      rw [List.getElem?_set_self hk] at h
      cases h
      exact ho
    · rw [List.getElem?_set_ne (Ne.symm e)] at h
      have hi := (List.getElem?_eq_some_iff.mp h).1
      exact (r.obj i o' h).mono (Wx.set r hk) (upd_ne fun q => e (r.inj i k hi hk q))
/-- the dict's form may be chosen while it is empty; the same store -/
theorem Rel.reset (r : Rel K N H m s) {k : Nat} {u : HO} {o : O} (hk : s[k]? = some o) (ho : ORel K N (upd H (m k) u) m s.length o (m k)) : Rel K N (upd H (m k) u) m s := by
  have hl := (List.getElem?_eq_some_iff.mp hk).1
  have q := Rel.set (o := o) r hl ho
  have e : s.set k o = s := by
    apply List.ext_getElem?
    intro i
    by_cases h : i = k
    · subst h; rw [List.getElem?_set_self hl, hk]
    · rw [List.getElem?_set_ne (Ne.symm h)]
  rw [e] at q
  exact q

/-! ### locals -/
def LRel (K : PySem.W.Frag) (H : Hp) (m : Mp) (n : Nat) (l : Loc) (σ : L2.St) : Prop :=
  l.length = σ.length ∧ ∀ (i : Nat) (p : P), l[i]? = some (some p) → ∃ v, σ[i]? = some (some v) ∧ Den K H m n p v
theorem LRel.ext {l : Loc} {σ : L2.St} (h : LRel K H m s.length l σ) (r : Rel K N H m s) (x : Ext s.length H m n' H' m') : LRel K H' m' n' l σ :=
  ⟨h.1, fun i p e => let ⟨v, e', d⟩ := h.2 i p e; ⟨v, e', r.den x d⟩⟩
theorem LRel.set {l : Loc} {σ : L2.St} (h : LRel K H m n l σ) {p : P} {v : V} (d : Den K H m n p v) (i : Nat) : LRel K H m n (l.set i (some p)) (σ.set i (some v)) := by
  refine ⟨by rw [List.length_set, List.length_set, h.1], fun j q e => ?_⟩
  by_cases hj : j = i
  · subst hj
    have hl : j < l.length := by
      have := (List.getElem?_eq_some_iff.mp e).1
      rwa [List.length_set] at this
    rw [List.getElem?_set_self hl] at e
    cases e
    exact ⟨v, by rw [List.getElem?_set_self (by rw [← h.1]; exact hl)], d⟩
  · rw [List.getElem?_set_ne (Ne.symm hj)] at e ⊢
    exact h.2 j q e
theorem LRel.wipe1 {l : Loc} {σ : L2.St} (h : LRel K H m n l σ) (i : Nat) : LRel K H m n (l.set i none) (σ.set i none) := by
  refine ⟨by rw [List.length_set, List.length_set, h.1], fun j q e => ?_⟩
  by_cases hj : j = i
  · subst hj
    have hl : j < l.length := by
      have := (List.getElem?_eq_some_iff.mp e).1
      rwa [List.length_set] at this
    rw [List.getElem?_set_self hl] at e
    cases e
  · rw [List.getElem?_set_ne (Ne.symm hj)] at e ⊢
    exact h.2 j q e
theorem LRel.wipe {l : Loc} {σ : L2.St} (h : LRel K H m n l σ) : ∀ vs : List Nat, LRel K H m n (wipe l vs) (L2.wipe σ vs)
  | [] => h
  | v :: vs => (LRel.wipe h vs).wipe1 v
end

/-! ### readings -/
section
variable (K : PySem.W.Frag) (N : Nm)
/-- what stands ahead: the store, the locals -/
structure At (σ : L2.St) (H : Hp) (m : Mp) (l : Loc) (s : S) : Prop where
  rel : Rel K N H m s
  loc : LRel K H m s.length l σ
/-- behind a value -/
def Beh (m : Mp) (H : Hp) (s : S) (p : P) (s' : S) (Q : VK) : Prop := ∀ v H' m', Rel K N H' m' s' → Ext s.length H m s'.length H' m' → Den K H' m' s'.length p v → Q v H'
def tA (f : Loc → S → R P) : TE := fun σ H Q => ∃ m l s p s', At K N σ H m l s ∧ f l s = .ok p s' ∧ Beh K N m H s p s' Q
def tAs (f : Loc → S → R (List P)) : TA := fun σ H Q => ∃ m l s ps s', At K N σ H m l s ∧ f l s = .ok ps s' ∧ ∀ vs H' m', Rel K N H' m' s' → Ext s.length H m s'.length H' m' → Dens K H' m' s'.length ps vs → Q vs H'
def tAT (f : Loc → S → R Bool) : TT := fun σ H Q => ∃ m l s b s', At K N σ H m l s ∧ f l s = .ok b s' ∧ ∀ H' m', Rel K N H' m' s' → Ext s.length H m s'.length H' m' → Q b H'
/-- a two-place operation -/
def rA (g : P → P → S → R P) : R2 := fun x y H Q => ∃ m s p q r s', Rel K N H m s ∧ Den K H m s.length p x ∧ Den K H m s.length q y ∧ g p q s = .ok r s' ∧ Beh K N m H s r s' Q
def uA (g : P → S → R P) : V → Hp → VK → Prop := fun x H Q => ∃ m s p r s', Rel K N H m s ∧ Den K H m s.length p x ∧ g p s = .ok r s' ∧ Beh K N m H s r s' Q
end
section
variable {X : Cx} {N : Nm} {e a b c : Expr} {es : List Expr} {pos : Pos}
theorem PE.imp {t t' : TE} (h : PE X e t) (f : ∀ σ H Q, t' σ H Q → t σ H Q) : PE X e t' := ⟨fun pins s σ H Q I q => h.run pins s σ H Q I (f σ H Q q)⟩
theorem PT.imp {t t' : TT} (h : PT X e t) (f : ∀ σ H Q, t' σ H Q → t σ H Q) : PT X e t' := ⟨fun pins s σ H Q I q => h.run pins s σ H Q I (f σ H Q q)⟩
theorem PA.imp {t t' : TA} (h : PA X es t) (f : ∀ σ H Q, t' σ H Q → t σ H Q) : PA X es t' := ⟨fun pos pins s σ H Q I q => h.run pos pins s σ H Q I (f σ H Q q)⟩
theorem PS.imp {st : Stmt} {t t' : TS} (h : PS X st t) (f : ∀ D σ H, t' D σ H → t D σ H) : PS X st t' := ⟨fun pins s σ H D I q => h.run pins s σ H D I (f D σ H q)⟩
theorem PSs.imp {st : List Stmt} {t t' : TS} (h : PSs X st t) (f : ∀ D σ H, t' D σ H → t D σ H) : PSs X st t' := ⟨fun pins s σ H D I q => h.run pins s σ H D I (f D σ H q)⟩
theorem PG.imp {t t' : TG} (h : PG X e t) (f : ∀ v σ H Q, t' v σ H Q → t v σ H Q) : PG X e t' := ⟨fun pins s σ H v u Q I r q => h.run pins s σ H v u Q I r (f v σ H Q q)⟩
theorem PI.imp {tg : Expr} {t t' : TI} (h : PI X tg e t) (f : ∀ σ H R, t' σ H R → t σ H R) : PI X tg e t' := ⟨fun pins s σ H R I q => h.run pins s σ H R I (f σ H R q)⟩
theorem OpR.imp {g : Value → Value → PySem.Sem Value} {t t' : R2} (h : OpR X g t) (f : ∀ x y H Q, t' x y H Q → t x y H Q) : OpR X g t' := fun pins s σ H x y v u Q I rx ry q => h pins s σ H x y v u Q I rx ry (f x y H Q q)

section
variable {K : PySem.W.Frag} {H : Hp} {σ : L2.St} {m m' : Mp} {l : Loc} {s s' : S} {H' : Hp}
theorem At.step (h : At K N σ H m l s) (r : Rel K N H' m' s') (x : Ext s.length H m s'.length H' m') : At K N σ H' m' l s' := ⟨r, h.loc.ext h.rel x⟩
/-- one part, then the rest -/
theorem tA_bind {f : Loc → S → R P} {g : Loc → P → S → R P} {Q : VK} (h : tA K N (fun l s => (f l s).bind fun p s => g l p s) σ H Q) :
    tA K N f σ H fun x H1 => ∃ m l s p r s', At K N σ H1 m l s ∧ Den K H1 m s.length p x ∧ g l p s = .ok r s' ∧ Beh K N m H1 s r s' Q := by
  obtain ⟨m, l, s, r, s', h1, h2, h3⟩ := h
  obtain ⟨p, s1, e1, e2⟩ := bind_eq_ok h2
  refine ⟨m, l, s, p, s1, h1, e1, fun v H1 m1 r1 x1 d1 => ?_⟩
  refine ⟨m1, l, s1, p, r, s', h1.step r1 x1, d1, e2, fun v2 H2 m2 r2 x2 d2 => h3 v2 H2 m2 r2 (x1.trans x2) d2⟩
/-- two parts -/
theorem tA_bin {f1 f2 : Loc → S → R P} {g : P → P → S → R P} {Q : VK} (h : tA K N (fun l s => (f1 l s).bind fun p s => (f2 l s).bind fun q s => g p q s) σ H Q) :
    L2.tOp (rA K N g) (tA K N f1) (tA K N f2) σ H Q := by
  obtain ⟨m, l, s, r, s', h1, h2, h3⟩ := h
  obtain ⟨p, s1, e1, h2⟩ := bind_eq_ok h2
  obtain ⟨q, s2, e2, h2⟩ := bind_eq_ok h2
  refine ⟨m, l, s, p, s1, h1, e1, fun v H1 m1 r1 x1 d1 => ?_⟩
  refine ⟨m1, l, s1, q, s2, h1.step r1 x1, e2, fun w H2 m2 r2 x2 d2 => ?_⟩
  exact ⟨m2, s2, p, q, r, s', r2, r1.den x2 d1, d2, h2, fun v2 H3 m3 r3 x3 d3 => h3 v2 H3 m3 r3 ((x1.trans x2).trans x3) d3⟩
theorem tA_un {f1 : Loc → S → R P} {g : P → S → R P} {Q : VK} (h : tA K N (fun l s => (f1 l s).bind fun p s => g p s) σ H Q) :
    L2.tUn (uA K N g) (tA K N f1) σ H Q := by
  obtain ⟨m, l, s, r, s', h1, h2, h3⟩ := h
  obtain ⟨p, s1, e1, h2⟩ := bind_eq_ok h2
  refine ⟨m, l, s, p, s1, h1, e1, fun v H1 m1 r1 x1 d1 => ?_⟩
  exact ⟨m1, s1, p, r, s', r1, d1, h2, fun v2 H3 m3 r3 x3 d3 => h3 v2 H3 m3 r3 (x1.trans x3) d3⟩
end
end
end Pa
section
set_option maxHeartbeats 1000000
/-! Pa, part C: the operators and built-ins on values. -/
namespace Pa
open PySem (Str PyData Addr Value Obj Shared Expr Stmt Pos model wpAny binaryOp inplaceOp compareOp sizeLine cLine CmpOp Operator)
open L2 (V HO Hp Rd SqL SqT upd upd_same upd_ne VK TE TT TA TS TG TI Ends Cx Inv PE PT PA PS PSs PG PI RelV Vals EP Key kV R2 OpR)
theorem SZ_eq : (sizeLine : Nat) = SZ := PySem.sizeLine_eq

section
variable {K : PySem.W.Frag} {N : Nm} {H H' : Hp} {m m' : Mp} {n n' : Nat} {s s' : S} {Q : VK}
/-! ### lists of values -/
theorem Dens.length : ∀ {ps : List P} {vs : List V}, Dens K H m n ps vs → ps.length = vs.length
  | [], _, h => by cases (show _ = [] from h); rfl
  | p :: ps, vs, h => by
    obtain ⟨v, r, rfl, _, t⟩ := h
    rw [List.length_cons, List.length_cons, Dens.length t]
theorem Dens.cons {p : P} {v : V} {ps : List P} {vs : List V} (d : Den K H m n p v) (t : Dens K H m n ps vs) : Dens K H m n (p :: ps) (v :: vs) := ⟨v, vs, rfl, d, t⟩
theorem Dens.nil : Dens K H m n [] [] := rfl
theorem Dens.append : ∀ {ps qs : List P} {vs ws : List V}, Dens K H m n ps vs → Dens K H m n qs ws → Dens K H m n (ps ++ qs) (vs ++ ws)
  | [], _, _, _, h, h2 => by cases (show _ = [] from h); exact h2
  | p :: ps, _, vs, _, h, h2 => by
    obtain ⟨v, r, rfl, d, t⟩ := h
    exact ⟨v, _, rfl, d, Dens.append t h2⟩
theorem Dens.get : ∀ {ps : List P} {vs : List V} {i : Nat} {p : P}, Dens K H m n ps vs → ps[i]? = some p → ∃ v, vs[i]? = some v ∧ Den K H m n p v
  | [], _, _, _, _, e => by simp at e
  | q :: ps, vs, 0, p, h, e => by
    obtain ⟨v, r, rfl, d, t⟩ := h
    simp only [List.getElem?_cons_zero, Option.some.injEq] at e
    subst e
    exact ⟨v, rfl, d⟩
  | q :: ps, vs, i + 1, p, h, e => by
    obtain ⟨v, r, rfl, d, t⟩ := h
    rw [List.getElem?_cons_succ] at e ⊢
    exact Dens.get t e
theorem Dens.take : ∀ {ps : List P} {vs : List V} (k : Nat), Dens K H m n ps vs → Dens K H m n (ps.take k) (vs.take k)
  | _, _, 0, _ => by rw [List.take_zero, List.take_zero]; exact rfl
  | [], _, k + 1, h => by cases (show _ = [] from h); exact rfl
  | p :: ps, vs, k + 1, h => by
    obtain ⟨v, r, rfl, d, t⟩ := h
    exact ⟨v, _, rfl, d, Dens.take k t⟩
theorem Dens.drop : ∀ {ps : List P} {vs : List V} (k : Nat), Dens K H m n ps vs → Dens K H m n (ps.drop k) (vs.drop k)
  | _, _, 0, h => h
  | [], _, k + 1, h => by cases (show _ = [] from h); exact rfl
  | p :: ps, vs, k + 1, h => by
    obtain ⟨v, r, rfl, d, t⟩ := h
    exact Dens.drop k t
theorem Dens.reverse : ∀ {ps : List P} {vs : List V}, Dens K H m n ps vs → Dens K H m n ps.reverse vs.reverse
  | [], _, h => by cases (show _ = [] from h); exact rfl
  | p :: ps, vs, h => by
    obtain ⟨v, r, rfl, d, t⟩ := h
    rw [List.reverse_cons, List.reverse_cons]
    exact (Dens.reverse t).append ⟨v, [], rfl, d, rfl⟩
theorem Dens.set {q : P} {w : V} (dq : Den K H m n q w) : ∀ {ps : List P} {vs : List V} (i : Nat), Dens K H m n ps vs → Dens K H m n (ps.set i q) (vs.set i w)
  | [], _, _, h => by cases (show _ = [] from h); exact rfl
  | p :: ps, vs, 0, h => by
    obtain ⟨v, r, rfl, d, t⟩ := h
    exact ⟨w, _, rfl, dq, t⟩
  | p :: ps, vs, i + 1, h => by
    obtain ⟨v, r, rfl, d, t⟩ := h
    exact ⟨v, _, rfl, d, Dens.set dq i t⟩
theorem Dens.dropLast {ps : List P} {vs : List V} (h : Dens K H m n ps vs) : Dens K H m n ps.dropLast vs.dropLast := by
  rw [List.dropLast_eq_take, List.dropLast_eq_take, h.length]
  exact h.take _
theorem Dens.rep {ps : List P} {vs : List V} (h : Dens K H m n ps vs) : ∀ k : Nat, Dens K H m n (List.replicate k ps).flatten (List.replicate k vs).flatten
  | 0 => rfl
  | k + 1 => by
    rw [List.replicate_succ, List.replicate_succ, List.flatten_cons, List.flatten_cons]
    exact h.append (Dens.rep h k)
theorem Dens.single {p : P} {v : V} (d : Den K H m n p v) : Dens K H m n [p] [v] := ⟨v, [], rfl, d, rfl⟩
theorem Dens.isEmpty {ps : List P} {vs : List V} (h : Dens K H m n ps vs) : (!ps.isEmpty) = !vs.isEmpty := by
  have := h.length
  cases ps <;> cases vs <;> simp_all
theorem Dens.map {α : Type} {f : α → P} {g : α → V} (h : ∀ a, Den K H m n (f a) (g a)) : ∀ l : List α, Dens K H m n (l.map f) (l.map g)
  | [] => rfl
  | a :: l => ⟨_, _, rfl, h a, Dens.map h l⟩
theorem Dens.ints : ∀ {ps : List P} {vs : List V} {ns : List Int}, Dens K H m n ps vs → intsOf ps = some ns → vs = ns.map V.int
  | [], _, _, h, e => by cases (show _ = [] from h); cases e; rfl
  | p :: ps, vs, ns, h, e => by
    obtain ⟨v, r, rfl, d, t⟩ := h
    unfold intsOf at e
    cases p with
    | int i =>
      cases (show v = _ from d)
      rw [show intOf (P.int i) = some i from rfl, Option.bind_some] at e
      obtain ⟨l, h1, h2⟩ := Option.map_eq_some_iff.mp e
      subst h2
      rw [List.map_cons, Dens.ints t h1]
    | _ => cases e

/-! ### what is wanted behind a value -/
theorem Beh.same {p : P} {v : V} (k : Beh K N m H s p s Q) (r : Rel K N H m s) (d : Den K H m s.length p v) : Q v H := k v H m r Ext.refl d
theorem Beh.tup {ps : List P} {vs : List V} {p : Addr} (k : Beh K N m H s (.tup ps) s Q) (r : Rel K N H m s) (d : Dens K H m s.length ps vs) (hp : H p = none) : Q (.ref p) (upd H p (.tup vs)) :=
  k _ _ m (r.fresh hp) (Ext.fresh hp) ⟨p, vs, rfl, upd_same, r.dens (Ext.fresh hp) d⟩
theorem Beh.push {o : O} {u : HO} {p : Addr} (k : Beh K N m H s (.loc s.length) (s ++ [o]) Q) (r : Rel K N H m s) (hp : H p = none) (ho : ORel K N (upd H p u) (mpush m s.length p) (s.length + 1) o p) : Q (.ref p) (upd H p u) := by
  have e : (s ++ [o]).length = s.length + 1 := by rw [List.length_append, List.length_singleton]
  refine k _ _ (mpush m s.length p) (r.push hp ho) (by rw [e]; exact Ext.push r hp) ⟨by rw [e]; omega, by rw [mpush_at]⟩
theorem Beh.lst {ps : List P} {vs : List V} {p : Addr} (k : Beh K N m H s (.loc s.length) (s ++ [.lst ps]) Q) (r : Rel K N H m s) (d : Dens K H m s.length ps vs) (hp : H p = none) : Q (.ref p) (upd H p (.lst vs)) :=
  k.push r hp ⟨vs, upd_same, r.dens (Ext.push r hp) d⟩
theorem Beh.set {p : P} {v : V} {i : Nat} {o : O} {u : HO} (k : Beh K N m H s p (s.set i o) Q) (r : Rel K N H m s) (hi : i < s.length) (ho : ORel K N (upd H (m i) u) m s.length o (m i)) (d : Den K H m s.length p v) (hf : ∀ o w, H (m i) ≠ some (.frz o w) := by intro o w e; simp_all) : Q v (upd H (m i) u) := by
  have e : (s.set i o).length = s.length := List.length_set ..
  have x : Ext s.length H m s.length (upd H (m i) u) m := Ext.set r hi hf
  exact k _ _ m (r.set hi ho) (by rw [e]; exact x) (by rw [e]; exact r.den x d)
theorem Rel.lst (r : Rel K N H m s) {i : Nat} {ps : List P} (h : s[i]? = some (.lst ps)) : i < s.length ∧ ∃ vs, H (m i) = some (.lst vs) ∧ Dens K H m s.length ps vs :=
  ⟨(List.getElem?_eq_some_iff.mp h).1, r.obj i _ h⟩
end

section
variable {X : Cx} {N : Nm}
/-! ### operators -/
def opB : BinO → Operator
  | .add => .Add | .sub => .Sub | .mul => .Mult | .fdiv => .FloorDiv | .mod => .Mod | .pow => .Pow | .shl => .LShift | .shr => .RShift | .band => .BitAnd
theorem small_ok {i j : Int} (h : small i ∨ small j) : L2.CMul i j := h
theorem bin_add : OpR X (binaryOp .Add) (rA X.K N (binP .add)) := by
  rintro pins s σ H x y v u Q I rx ry ⟨m, S, p, q, r, S', hr, dp, dq, e, k⟩
  cases p with
  | int i =>
    cases (show x = _ from dp)
    cases q with
    | int j =>
      cases (show y = _ from dq)
      cases e
      exact L2.op_add pins s σ H _ _ v u Q I rx ry ⟨i, j, rfl, rfl, k.same hr rfl⟩
    | bl b =>
      cases (show y = _ from dq)
      cases e
      exact L2.op_add_ib pins s σ H _ _ v u Q I rx ry ⟨i, b, rfl, rfl, k.same hr rfl⟩
    | _ => cases e
  | str i =>
    cases (show x = _ from dp)
    cases q with
    | str j =>
      cases (show y = _ from dq)
      simp only [binP] at e
      split at e
      · rename_i h
        cases e
        exact L2.op_add_str pins s σ H _ _ v u Q I rx ry ⟨i, j, rfl, rfl, by rw [SZ_eq]; exact h, k.same hr rfl⟩
      · cases e
    | _ => cases e
  | tup ps =>
    cases q with
    | tup qs =>
      simp only [binP] at e
      split at e
      · rename_i h
        cases e
        obtain ⟨a, vs, rfl, h1, d1⟩ := dp
        obtain ⟨b, ws, rfl, h2, d2⟩ := dq
        have l1 := d1.length
        have l2 := d2.length
        refine L2.op_catA pins s σ H _ _ v u Q I rx ry ⟨a, b, vs, ws, rfl, rfl, SqT.of h1, SqT.of h2, by rw [SZ_eq]; omega, fun e0 => ?_, fun _ e1 => ?_, fun _ _ z hz => ?_⟩
        · subst e0
          obtain rfl : ps = [] := List.eq_nil_of_length_eq_zero l1
          exact k.same hr ⟨b, ws, rfl, h2, d2⟩
        · subst e1
          obtain rfl : qs = [] := List.eq_nil_of_length_eq_zero l2
          rw [List.append_nil] at k
          exact k.same hr ⟨a, vs, rfl, h1, d1⟩
        · exact k.tup hr (d1.append d2) hz
      · cases e
    | _ => cases e
  | loc a =>
    cases q with
    | loc b =>
      simp only [binP] at e
      split at e
      · rename_i xs ys ha hb
        split at e
        · rename_i h
          cases e
          obtain ⟨_, rfl⟩ := dp
          obtain ⟨_, rfl⟩ := dq
          obtain ⟨_, vs, h1, d1⟩ := hr.lst ha
          obtain ⟨_, ws, h2, d2⟩ := hr.lst hb
          have l1 := d1.length
          have l2 := d2.length
          exact L2.op_cat pins s σ H _ _ v u Q I rx ry ⟨m a, m b, vs, ws, rfl, rfl, h1, h2, by rw [SZ_eq]; omega, fun z hz => k.lst hr (d1.append d2) hz⟩
        · cases e
      · cases e
    | _ => cases e
  | _ => cases q <;> cases e
theorem bin_sub : OpR X (binaryOp .Sub) (rA X.K N (binP .sub)) := by
  rintro pins s σ H x y v u Q I rx ry ⟨m, S, p, q, r, S', hr, dp, dq, e, k⟩
  cases p with
  | int i =>
    cases (show x = _ from dp)
    cases q with
    | int j =>
      cases (show y = _ from dq)
      cases e
      exact L2.op_sub pins s σ H _ _ v u Q I rx ry ⟨i, j, rfl, rfl, k.same hr rfl⟩
    | _ => cases e
  | _ => cases q <;> cases e
theorem ints_only {g : P → P → S → R P} {f : Value → Value → PySem.Sem Value} {C : Int → Int → Prop} {h : Int → Int → Int}
    (rule : OpR X f (L2.rI C fun i j => .int (h i j))) (hg : ∀ p q s r s', g p q s = .ok r s' → ∃ i j, p = .int i ∧ q = .int j ∧ C i j ∧ r = .int (h i j) ∧ s' = s) : OpR X f (rA X.K N g) := by
  rintro pins s σ H x y v u Q I rx ry ⟨m, S, p, q, r, S', hr, dp, dq, e, k⟩
  obtain ⟨i, j, rfl, rfl, hc, rfl, rfl⟩ := hg _ _ _ _ _ e
  cases (show x = _ from dp)
  cases (show y = _ from dq)
  exact rule pins s σ H _ _ v u Q I rx ry ⟨i, j, rfl, rfl, hc, k.same hr rfl⟩
theorem if_ok {c : Prop} [Decidable c] {r r' : P} {s s' : S} (h : (if c then R.ok r s else R.bad) = R.ok r' s') : c ∧ r' = r ∧ s' = s := by
  split at h
  · rename_i hc; cases h; exact ⟨hc, rfl, rfl⟩
  · cases h
theorem bin_fdiv : OpR X (binaryOp .FloorDiv) (rA X.K N (binP .fdiv)) := ints_only L2.op_fdiv fun p q s r s' e => by
  cases p <;> cases q <;> first | (cases e; done) | skip
  rename_i i j
  obtain ⟨c, e1, e2⟩ := if_ok e
  exact ⟨i, j, rfl, rfl, c, e1, e2⟩
theorem bin_mod : OpR X (binaryOp .Mod) (rA X.K N (binP .mod)) := ints_only L2.op_mod fun p q s r s' e => by
  cases p <;> cases q <;> first | (cases e; done) | skip
  rename_i i j
  obtain ⟨c, e1, e2⟩ := if_ok e
  exact ⟨i, j, rfl, rfl, c, e1, e2⟩
theorem bin_pow : OpR X (binaryOp .Pow) (rA X.K N (binP .pow)) := ints_only L2.op_pow fun p q s r s' e => by
  cases p <;> cases q <;> first | (cases e; done) | skip
  rename_i i j
  obtain ⟨c, e1, e2⟩ := if_ok e
  exact ⟨i, j, rfl, rfl, c, e1, e2⟩
theorem bin_shl : OpR X (binaryOp .LShift) (rA X.K N (binP .shl)) := ints_only L2.op_shl fun p q s r s' e => by
  cases p <;> cases q <;> first | (cases e; done) | skip
  rename_i i j
  obtain ⟨c, e1, e2⟩ := if_ok e
  exact ⟨i, j, rfl, rfl, c, e1, e2⟩
theorem bin_shr : OpR X (binaryOp .RShift) (rA X.K N (binP .shr)) := ints_only L2.op_shr fun p q s r s' e => by
  cases p <;> cases q <;> first | (cases e; done) | skip
  rename_i i j
  obtain ⟨c, e1, e2⟩ := if_ok e
  exact ⟨i, j, rfl, rfl, c, e1, e2⟩
/-- t * 1 is t -/
theorem tuple_mul1 (l : Addr) (items : Array Value) (n : Nat) (dd : Option Addr) (sl : Array (Option Value)) (u : PySem.Tok) :
    PySem.Meets (PySem.Builtin.«tuple.__mul__» ⟨[.ref l, .int 1 u], []⟩) (fun _ R s => s.heap.get? l = some { cls := .type "tuple", dict := dd, data := .seq items n, slots := sl } ∧ R (.ok (.ret (Value.ref l))) s) :=
  .of_wp fun prog w A R s h => by
    obtain ⟨hp, g, d, tk, os⟩ := s
    obtain ⟨hl, h⟩ := h
    have f1 := PySem.AutoSeq1.idx_int
    have c1 : (items.isEmpty || (1 : Int) == 1) = true := by simp
    wp_walk using PySem.wpAny_loadPart' hl
    repeat (first
      | (refine PySem.wpAny_ite_true (decide_eq_true c1) ?_; wp_walk using PySem.wpAny_loadPart' hl)
      | (refine PySem.wpAny_ite_true c1 ?_; wp_walk using PySem.wpAny_loadPart' hl))
    exact ⟨_, rfl, h⟩
theorem bin_mul : OpR X (binaryOp .Mult) (rA X.K N (binP .mul)) := by
  rintro pins s σ H x y v u Q I rx ry ⟨m, S, p, q, r, S', hr, dp, dq, e, k⟩
  cases p with
  | int i =>
    cases (show x = _ from dp)
    cases q with
    | int j =>
      cases (show y = _ from dq)
      obtain ⟨c, rfl, rfl⟩ := if_ok e
      exact L2.op_mul pins s σ H _ _ v u Q I rx ry ⟨i, j, rfl, rfl, c, k.same hr rfl⟩
    | _ => cases e
  | tup ps =>
    cases q with
    | int j =>
      cases (show y = _ from dq)
      obtain ⟨⟨hne, h1, h2, h3⟩, rfl, rfl⟩ := if_ok e
      obtain ⟨a, vs, rfl, hT, d1⟩ := dp
      have l1 := d1.length
      have hne' : vs ≠ [] := fun z => hne (by subst z; exact List.eq_nil_of_length_eq_zero l1)
      by_cases hj : 2 ≤ j
      · exact L2.op_repT pins s σ H _ _ v u Q I rx ry ⟨a, j, vs, rfl, rfl, SqT.of hT, hne', hj, h2, by omega, fun z hz => k.tup hr (d1.rep _) hz⟩
      · obtain rfl : j = 1 := by omega
        have k' : Q (.ref a) H := k.same hr ⟨a, vs, rfl, hT, by
          have q := d1.rep 1
          simp only [List.replicate_one, List.flatten_cons, List.flatten_nil, List.append_nil] at q
          simpa using d1⟩
        cases rx
        obtain ⟨t, rfl⟩ := ry
        obtain ⟨its, rr, ⟨⟨cls, dd, data, sl⟩, ho, hc, nn, hd⟩, hs⟩ := I.tuple (SqT.of hT)
        simp only at hc hd
        subst hc hd
        exact PySem.wpAny_binaryOp_repeat_ref (T := "tuple") (U := "int") (by decide) ⟨_, ho, rfl⟩ (fun s' => PySem.typeIs_int s' 1 t) L2.noFill_tuple_mul PySem.F.fills_int_mul PySem.F.slot_int_rmul L2.repeat_tuple PySem.F.slot_int_index.lookup
          (PySem.call_meets PySem.F.slot_int_rmul (PySem.typeIs_int s 1 t) PySem.F.entry_int_rmul (PySem.F.args_int_rmul_2 _ _) (L2.int_rmul_tuple 1 t a its.toArray nn dd sl)
            ⟨ho, rfl, ⟨_, ho, rfl⟩, PySem.call_meets PySem.F.slot_tuple_mul ⟨_, ho, rfl⟩ PySem.F.entry_tuple_mul (PySem.F.args_tuple_mul_2 _ _) (tuple_mul1 a its.toArray nn dd sl t) ⟨ho, ⟨.ref a, H, I, rfl, k'⟩⟩⟩)
    | _ => cases e
  | loc a =>
    cases q with
    | int j =>
      cases (show y = _ from dq)
      simp only [binP] at e
      split at e
      · rename_i xs ha
        split at e
        · rename_i h
          cases e
          obtain ⟨_, rfl⟩ := dp
          obtain ⟨_, vs, h1, d1⟩ := hr.lst ha
          have l1 := d1.length
          exact L2.op_rep pins s σ H _ _ v u Q I rx ry ⟨m a, j, vs, rfl, rfl, h1, h.1, h.2.1, by rw [SZ_eq, ← l1]; exact h.2.2, fun z hz => k.lst hr (d1.rep _) hz⟩
        · cases e
      · cases e
    | _ => cases e
  | _ => cases q <;> cases e
theorem bin_ok (o : BinO) : OpR X (binaryOp (opB o)) (rA X.K N (binP o)) := by
  cases o with
  | add => exact bin_add
  | sub => exact bin_sub
  | mul => exact bin_mul
  | fdiv => exact bin_fdiv
  | mod => exact bin_mod
  | pow => exact bin_pow
  | shl => exact bin_shl
  | shr => exact bin_shr
  | band =>
    rintro pins s σ H x y v u Q I rx ry ⟨m, S, p, q, r, S', hr, dp, dq, e, k⟩
    cases p <;> cases q <;> cases e
theorem aug_add : OpR X (inplaceOp .Add) (rA X.K N (augP .add)) := by
  rintro pins s σ H x y v u Q I rx ry ⟨m, S, p, q, r, S', hr, dp, dq, e, k⟩
  cases p with
  | int i =>
    cases (show x = _ from dp)
    cases q with
    | int j =>
      cases (show y = _ from dq)
      cases e
      exact L2.iop_add pins s σ H _ _ v u Q I rx ry ⟨i, j, rfl, rfl, k.same hr rfl⟩
    | _ => cases e
  | _ => cases q <;> cases e
theorem aug_sub : OpR X (inplaceOp .Sub) (rA X.K N (augP .sub)) := by
  rintro pins s σ H x y v u Q I rx ry ⟨m, S, p, q, r, S', hr, dp, dq, e, k⟩
  cases p with
  | int i =>
    cases (show x = _ from dp)
    cases q with
    | int j =>
      cases (show y = _ from dq)
      cases e
      exact L2.iop_sub pins s σ H _ _ v u Q I rx ry ⟨i, j, rfl, rfl, k.same hr rfl⟩
    | _ => cases e
  | _ => cases q <;> cases e
theorem aug_ok (o : BinO) : OpR X (inplaceOp (opB o)) (rA X.K N (augP o)) := by
  cases o with
  | add => exact aug_add
  | sub => exact aug_sub
  | _ =>
    rintro pins s σ H x y v u Q I rx ry ⟨m, S, p, q, r, S', hr, dp, dq, e, k⟩
    cases p <;> cases q <;> cases e
end
end Pa
end
section
set_option maxHeartbeats 1000000
/-! Pa, part D: comparisons, dicts. -/
namespace Pa
open PySem (Str PyData Addr Value Obj Shared Expr Stmt Pos model wpAny binaryOp inplaceOp compareOp sizeLine cLine CmpOp Operator)
open L2 (V HO Hp Rd SqL SqT upd upd_same upd_ne VK TE TT TA TS TG TI Ends Cx Inv PE PT PA PS PSs PG PI RelV Vals EP Key kV R2 OpR)

theorem ofO_ok {α : Type} {o : Option α} {r : α} {s s' : S} (h : ofO o s = .ok r s') : o = some r ∧ s' = s := by
  cases o with
  | none => cases h
  | some a => cases h; exact ⟨rfl, rfl⟩
section
variable {K : PySem.W.Frag} {N : Nm} {H H' : Hp} {m m' : Mp} {n n' : Nat} {s s' : S} {Q : VK}
mutual
theorem Den.dp : ∀ (p : P) (v : V), Den K H m n p v → pure? p = true → L2.Dp K H v (pd p)
  | .non, v, h, _ => by cases (show v = _ from h); exact .non
  | .bl b, v, h, _ => by cases (show v = _ from h); exact .bl b
  | .int i, v, h, _ => by cases (show v = _ from h); exact .int i
  | .str x, v, h, _ => by cases (show v = _ from h); exact .str x
  | .tup ps, v, h, e => by
    obtain ⟨a, vs, rfl, q, d⟩ := h
    exact .tup (SqT.of q) (Dens.dp ps vs d e)
  | .rol _, _, _, e => by cases e
  | .loc _, _, _, e => by cases e
theorem Dens.dp : ∀ (ps : List P) (vs : List V), Dens K H m n ps vs → pures? ps = true → L2.DpAll K H vs (pds ps)
  | [], vs, h, _ => by cases (show vs = _ from h); exact .nil
  | p :: ps, vs, h, e => by
    obtain ⟨v, r, rfl, d, t⟩ := h
    have e' : (pure? p && pures? ps) = true := e
    rw [Bool.and_eq_true] at e'
    exact .cons (Den.dp p v d e'.1) (Dens.dp ps r t e'.2)
end
theorem Den.data {p : P} {v : V} {d : PyData} (r : Rel K N H m s) (h : Den K H m s.length p v) (e : dataOf s p = some d) : L2.Dp K H v d := by
  unfold dataOf at e
  split at e
  · rename_i a
    split at e
    · rename_i xs hx
      split at e
      · rename_i hp
        cases e
        obtain ⟨_, rfl⟩ := h
        obtain ⟨_, vs, h1, d1⟩ := r.lst hx
        exact .lst (SqL.of h1) (Dens.dp _ _ d1 hp)
      · cases e
    · cases e
  · split at e
    · rename_i hp
      cases e
      exact Den.dp _ _ h hp
    · cases e
end
section
variable {X : Cx} {N : Nm}
theorem scal_case {K : PySem.W.Frag} {H : Hp} {m : Mp} {n : Nat} {p q : P} {x y : V} (dp : Den K H m n p x) (dq : Den K H m n q y) (hs : (scalP p && scalP q) = true) :
    (L2.scal x y = true ∧ eqS p q = decide (x = y)) ∨ ∃ d e, L2.Dp K H x d ∧ L2.Dp K H y e ∧ PySem.SeqAt.shaped d = true ∧ PySem.SeqAt.shaped e = true ∧ eqS p q = PyData.eqv d e := by
  cases p with
  | non =>
    cases (show x = _ from dp)
    cases q <;> first
      | (exact absurd hs (by decide))
      | (cases (show y = _ from dq); exact .inl ⟨rfl, by simp [eqS]⟩)
      | (exact absurd hs (by simp [scalP]))
  | bl b =>
    cases (show x = _ from dp)
    cases q with
    | int j => cases (show y = _ from dq); exact .inr ⟨_, _, .bl b, .int j, by rfl, by rfl, rfl⟩
    | bl c => cases (show y = _ from dq); exact .inl ⟨rfl, L2.dec_bl.symm⟩
    | non => cases (show y = _ from dq); exact .inl ⟨rfl, by simp [eqS]⟩
    | str z => cases (show y = _ from dq); exact .inl ⟨rfl, by simp [eqS]⟩
    | _ => exact absurd hs (by simp [scalP])
  | int i =>
    cases (show x = _ from dp)
    cases q with
    | bl c => cases (show y = _ from dq); exact .inr ⟨_, _, .int i, .bl c, by rfl, by rfl, rfl⟩
    | int j => cases (show y = _ from dq); exact .inl ⟨rfl, L2.dec_int.symm⟩
    | non => cases (show y = _ from dq); exact .inl ⟨rfl, by simp [eqS]⟩
    | str z => cases (show y = _ from dq); exact .inl ⟨rfl, by simp [eqS]⟩
    | _ => exact absurd hs (by simp [scalP])
  | str w =>
    cases (show x = _ from dp)
    cases q with
    | non => cases (show y = _ from dq); exact .inl ⟨rfl, by simp [eqS]⟩
    | bl c => cases (show y = _ from dq); exact .inl ⟨rfl, by simp [eqS]⟩
    | int j => cases (show y = _ from dq); exact .inl ⟨rfl, by simp [eqS]⟩
    | str z =>
      cases (show y = _ from dq)
      exact .inl ⟨rfl, by simp [eqS]⟩
    | _ => exact absurd hs (by simp [scalP])
  | _ => exact absurd hs (by simp [scalP])
theorem eqD_cases {K : PySem.W.Frag} {H : Hp} {m : Mp} {s : S} {p q : P} {x y : V} {b : Bool} (r : Rel K N H m s) (dp : Den K H m s.length p x) (dq : Den K H m s.length q y) (h : eqD s p q = some b) :
    (L2.scal x y = true ∧ b = decide (x = y)) ∨ ∃ d e, L2.Dp K H x d ∧ L2.Dp K H y e ∧ PySem.SeqAt.shaped d = true ∧ PySem.SeqAt.shaped e = true ∧ b = PyData.eqv d e := by
  unfold eqD at h
  split at h
  · rename_i hs
    cases h
    exact scal_case dp dq hs
  · cases h1 : dataOf s p with
    | none => rw [h1] at h; cases h
    | some d =>
      cases h2 : dataOf s q with
      | none => rw [h1, h2] at h; cases h
      | some e =>
        rw [h1, h2, Option.bind_some, Option.bind_some] at h
        split at h
        · rename_i hs
          rw [Bool.and_eq_true] at hs
          cases h
          exact .inr ⟨d, e, Den.data r dp h1, Den.data r dq h2, hs.1, hs.2, rfl⟩
        · cases h
theorem eqD_run (hu : X.A.units + 64 < cLine) {pins : List (Addr × Obj)} {s : Shared} {σ : L2.St} {H : Hp} {x y : V} {v u : Value} {Q : VK} {m : Mp} {S : S} {p q : P} {b : Bool}
    (I : Inv X pins σ H s) (rx : RelV x v) (ry : RelV y u) (hr : Rel X.K N H m S) (dp : Den X.K H m S.length p x) (dq : Den X.K H m S.length q y) (h : eqD S p q = some b) (k : Q (.bl b) H) : wpAny (model X.prog X.w) X.A (compareOp .Eq v u) (EP X pins σ Q) X.xe s := by
  rcases eqD_cases hr dp dq h with ⟨h1, h2⟩ | ⟨d, e, h1, h2, h3, h4, h5⟩
  · exact L2.op_eq pins s σ H x y v u Q I rx ry ⟨h1, by rw [← h2]; exact k⟩
  · exact L2.op_eqD hu pins s σ H x y v u Q I rx ry ⟨d, e, h1, h2, h3, h4, by rw [← h5]; exact k⟩
theorem neD_run (hu : X.A.units + 64 < cLine) {pins : List (Addr × Obj)} {s : Shared} {σ : L2.St} {H : Hp} {x y : V} {v u : Value} {Q : VK} {m : Mp} {S : S} {p q : P} {b : Bool}
    (I : Inv X pins σ H s) (rx : RelV x v) (ry : RelV y u) (hr : Rel X.K N H m S) (dp : Den X.K H m S.length p x) (dq : Den X.K H m S.length q y) (h : eqD S p q = some b) (k : Q (.bl !b) H) : wpAny (model X.prog X.w) X.A (compareOp .NotEq v u) (EP X pins σ Q) X.xe s := by
  rcases eqD_cases hr dp dq h with ⟨h1, h2⟩ | ⟨d, e, h1, h2, h3, h4, h5⟩
  · exact L2.op_ne pins s σ H x y v u Q I rx ry ⟨h1, by rw [← h2]; exact k⟩
  · exact L2.op_neD hu pins s σ H x y v u Q I rx ry ⟨d, e, h1, h2, h3, h4, by rw [← h5]; exact k⟩
theorem cmp_eq (hu : X.A.units + 64 < cLine) : OpR X (compareOp .Eq) (rA X.K N (cmpP .eq)) := by
  rintro pins s σ H x y v u Q I rx ry ⟨m, S, p, q, r, S', hr, dp, dq, e, k⟩
  obtain ⟨e1, rfl⟩ := ofO_ok e
  obtain ⟨b, e2, rfl⟩ := Option.map_eq_some_iff.mp e1
  have k' : Q (.bl b) H := k.same hr rfl
  unfold eqP at e2
  split at e2
  · rename_i a c
    split at e2
    · rename_i xs ys ha hc
      split at e2
      · rename_i hl
        cases e2
        obtain ⟨_, rfl⟩ := dp
        obtain ⟨_, rfl⟩ := dq
        obtain ⟨_, vs, h1, d1⟩ := hr.lst ha
        obtain ⟨_, ws, h2, d2⟩ := hr.lst hc
        cases rx
        cases ry
        obtain ⟨its, r1, p1, _⟩ := I.list (SqL.of h1)
        obtain ⟨its2, r2, p2, _⟩ := I.list (SqL.of h2)
        refine PySem.SeqAt.eq_list_lengthsAt p1.isList p2.isList ?_ (by omega) ⟨.bl false, H, I, rfl, k'⟩
        rw [List.size_toArray, List.size_toArray, bne_iff_ne, ← r1.length, ← r2.length, ← d1.length, ← d2.length]
        exact hl
      · exact eqD_run hu I rx ry hr dp dq e2 k'
    · cases e2
  · exact eqD_run hu I rx ry hr dp dq e2 k'
theorem cmp_ne (hu : X.A.units + 64 < cLine) : OpR X (compareOp .NotEq) (rA X.K N (cmpP .ne)) := by
  rintro pins s σ H x y v u Q I rx ry ⟨m, S, p, q, r, S', hr, dp, dq, e, k⟩
  obtain ⟨e1, rfl⟩ := ofO_ok e
  obtain ⟨b, e2, rfl⟩ := Option.map_eq_some_iff.mp e1
  exact neD_run hu I rx ry hr dp dq e2 (k.same hr rfl)
theorem cmp_ints {op : CmpOp} {g : P → P → S → R P} {h : Int → Int → Bool} (rule : OpR X (compareOp op) (L2.rI0 fun i j => .bl (h i j))) (hg : ∀ p q s r s', g p q s = .ok r s' → ∃ i j, p = .int i ∧ q = .int j ∧ r = .bl (h i j) ∧ s' = s) : OpR X (compareOp op) (rA X.K N g) := by
  rintro pins s σ H x y v u Q I rx ry ⟨m, S, p, q, r, S', hr, dp, dq, e, k⟩
  obtain ⟨i, j, rfl, rfl, rfl, rfl⟩ := hg _ _ _ _ _ e
  cases (show x = _ from dp)
  cases (show y = _ from dq)
  exact rule pins s σ H _ _ v u Q I rx ry ⟨i, j, rfl, rfl, k.same hr rfl⟩
theorem cmp_lt : OpR X (compareOp .Lt) (rA X.K N (cmpP .lt)) := cmp_ints L2.op_lt fun p q s r s' e => by
  cases p <;> cases q <;> first | (cases e; done) | skip
  rename_i i j
  cases e
  exact ⟨i, j, rfl, rfl, rfl, rfl⟩
theorem cmp_le : OpR X (compareOp .LtE) (rA X.K N (cmpP .le)) := cmp_ints L2.op_le fun p q s r s' e => by
  cases p <;> cases q <;> first | (cases e; done) | skip
  rename_i i j
  cases e
  exact ⟨i, j, rfl, rfl, rfl, rfl⟩
theorem cmp_gt : OpR X (compareOp .Gt) (rA X.K N (cmpP .gt)) := cmp_ints L2.op_gt fun p q s r s' e => by
  cases p <;> cases q <;> first | (cases e; done) | skip
  rename_i i j
  cases e
  exact ⟨i, j, rfl, rfl, rfl, rfl⟩
theorem cmp_ge : OpR X (compareOp .GtE) (rA X.K N (cmpP .ge)) := cmp_ints L2.op_ge fun p q s r s' e => by
  cases p <;> cases q <;> first | (cases e; done) | skip
  rename_i i j
  cases e
  exact ⟨i, j, rfl, rfl, rfl, rfl⟩

/-! ### dicts: keys -/
theorem keyP_inj {p q : P} {k : Key} (h : keyP p = some k) (h2 : keyP q = some k) : p = q := by
  cases p <;> cases h <;> cases q <;> cases h2 <;> rfl
theorem KeysP_inj : ∀ {ps qs : List P} {ks : List Key}, KeysP ps = some ks → KeysP qs = some ks → ps = qs
  | [], [], _, _, _ => rfl
  | [], q :: qs, ks, h, h2 => by
    cases h
    unfold KeysP at h2
    cases e : keyP q with
    | none => rw [e] at h2; cases h2
    | some k =>
      rw [e, Option.bind_some] at h2
      obtain ⟨l, _, z⟩ := Option.map_eq_some_iff.mp h2
      cases z
  | p :: ps, [], ks, h, h2 => by
    cases h2
    unfold KeysP at h
    cases e : keyP p with
    | none => rw [e] at h; cases h
    | some k =>
      rw [e, Option.bind_some] at h
      obtain ⟨l, _, z⟩ := Option.map_eq_some_iff.mp h
      cases z
  | p :: ps, q :: qs, ks, h, h2 => by
    unfold KeysP at h h2
    cases e : keyP p with
    | none => rw [e] at h; cases h
    | some k =>
      cases e2 : keyP q with
      | none => rw [e2] at h2; cases h2
      | some k2 =>
        rw [e, Option.bind_some] at h
        rw [e2, Option.bind_some] at h2
        obtain ⟨l, l1, z⟩ := Option.map_eq_some_iff.mp h
        obtain ⟨l', l2, z2⟩ := Option.map_eq_some_iff.mp h2
        subst z
        injection z2 with z1 z2
        subst z1 z2
        rw [keyP_inj e e2, KeysP_inj l1 l2]
theorem tkeyP_inj {p q : P} {k : List Key} (h : tkeyP p = some k) (h2 : tkeyP q = some k) : p = q := by
  cases p <;> first | (cases h; done) | skip
  cases q <;> first | (cases h2; done) | skip
  rw [KeysP_inj h h2]
theorem flatK_key {p : P} (h : flatK p = true) : ∃ k, keyP p = some k := by
  cases p <;> first | (cases h; done) | exact ⟨_, rfl⟩
theorem keyP_flat {p : P} {k : Key} (h : keyP p = some k) : flatK p = true := by
  cases p <;> first | (cases h; done) | rfl
theorem KeysP_some : ∀ {ps : List P}, ps.all flatK = true → ∃ ks, KeysP ps = some ks
  | [], _ => ⟨[], rfl⟩
  | p :: ps, h => by
    rw [List.all_cons, Bool.and_eq_true] at h
    obtain ⟨k, e⟩ := flatK_key h.1
    obtain ⟨ks, e2⟩ := KeysP_some h.2
    exact ⟨k :: ks, by unfold KeysP; rw [e, Option.bind_some, e2]; rfl⟩
theorem KeysP_all : ∀ {ps : List P} {ks : List Key}, KeysP ps = some ks → ps.all flatK = true
  | [], _, _ => rfl
  | p :: ps, ks, h => by
    unfold KeysP at h
    cases e : keyP p with
    | none => rw [e] at h; cases h
    | some k =>
      rw [e, Option.bind_some] at h
      obtain ⟨l, l1, z⟩ := Option.map_eq_some_iff.mp h
      rw [List.all_cons, keyP_flat e, KeysP_all l1]
      rfl
theorem tupK_key {p : P} (h : tupK p = true) : ∃ k, tkeyP p = some k := by
  cases p <;> first | (cases h; done) | skip
  exact KeysP_some h
theorem tkeyP_tup {p : P} {k : List Key} (h : tkeyP p = some k) : tupK p = true := by
  cases p <;> first | (cases h; done) | skip
  exact KeysP_all h
theorem flat_tup {p : P} (h : flatK p = true) : tupK p = false := by cases p <;> first | (cases h; done) | rfl
section
variable {K : PySem.W.Frag} {H H' : Hp} {m m' : Mp} {n n' : Nat}
theorem Den.key {p : P} {v : V} {k : Key} (h : Den K H m n p v) (e : keyP p = some k) : v = kV k := by
  cases p <;> first | (cases e; done) | skip
  all_goals (cases e; exact h)
theorem Dens.keys : ∀ {ps : List P} {vs : List V} {ks : List Key}, Dens K H m n ps vs → KeysP ps = some ks → vs = ks.map kV
  | [], _, _, h, e => by cases (show _ = [] from h); cases e; rfl
  | p :: ps, vs, ks, h, e => by
    obtain ⟨v, r, rfl, d, t⟩ := h
    unfold KeysP at e
    cases e1 : keyP p with
    | none => rw [e1] at e; cases e
    | some k =>
      rw [e1, Option.bind_some] at e
      obtain ⟨l, l1, rfl⟩ := Option.map_eq_some_iff.mp e
      rw [List.map_cons, Den.key d e1, Dens.keys t l1]
section
variable {κ : Type} [DecidableEq κ] {f : P → Option κ} (inj : ∀ {p q : P} {k : κ}, f p = some k → f q = some k → p = q)
include inj
theorem DensD.get {p : P} {k : κ} (hk : f p = some k) : ∀ {kvs : List (P × P)} {ks : List (κ × V)}, DensD K H m n f kvs ks →
    (dget kvs p = none ∧ L2.valV ks k = none) ∨ ∃ q v, dget kvs p = some q ∧ L2.valV ks k = some v ∧ Den K H m n q v
  | [], ks, h => by cases (show ks = [] from h); exact .inl ⟨rfl, rfl⟩
  | (x, y) :: r, ks, h => by
    obtain ⟨k', v, t, rfl, e, d, t'⟩ := h
    unfold dget
    by_cases hx : x = p
    · subst hx
      rw [hk] at e
      cases e
      rw [if_pos rfl]
      exact .inr ⟨y, v, rfl, L2.valV_pos rfl, d⟩
    · rw [if_neg hx]
      have hne : ¬ k' = k := fun z => hx (inj (by rw [← z]; exact e) hk)
      rw [L2.valV_neg (show ¬ ((k', v) : κ × V).1 = k from hne)]
      exact DensD.get hk t'
theorem DensD.any {p : P} {k : κ} (hk : f p = some k) {kvs : List (P × P)} {ks : List (κ × V)} (h : DensD K H m n f kvs ks) : (dget kvs p).isSome = (L2.valV ks k).isSome := by
  rcases DensD.get inj hk h with ⟨e1, e2⟩ | ⟨q, v, e1, e2, _⟩
  · rw [e1, e2]; rfl
  · rw [e1, e2]; rfl
theorem DensD.put {p q : P} {v : V} {k : κ} (hk : f p = some k) (dq : Den K H m n q v) : ∀ {kvs : List (P × P)} {ks : List (κ × V)}, (ks.map (·.1)).Nodup → DensD K H m n f kvs ks → DensD K H m n f (dput kvs p q) (L2.putK ks k v)
  | [], ks, _, h => by
    cases (show ks = [] from h)
    exact ⟨k, v, [], rfl, hk, dq, rfl⟩
  | (x, y) :: r, ks, nd, h => by
    obtain ⟨k', w, t, rfl, e, d, t'⟩ := h
    rw [List.map_cons, List.nodup_cons] at nd
    unfold dput
    by_cases hx : x = p
    · subst hx
      rw [hk] at e
      cases e
      rw [if_pos rfl]
      have e1 : L2.putK ((k, w) :: t) k v = (k, v) :: t := by
        unfold L2.putK
        rw [List.any_cons, decide_eq_true (show ((k, w) : κ × V).1 = k from rfl), Bool.true_or, if_pos rfl, List.map_cons, if_pos rfl]
        congr 1
        conv => rhs; rw [← List.map_id t]
        refine List.map_congr_left fun z hz => ?_
        rw [if_neg (fun q => nd.1 (List.mem_map.mpr ⟨z, hz, q⟩))]
        rfl
      rw [e1]
      exact ⟨k, v, t, rfl, hk, dq, t'⟩
    · rw [if_neg hx]
      have hne : ¬ k' = k := fun z => hx (inj (by rw [← z]; exact e) hk)
      have e1 : L2.putK ((k', w) :: t) k v = (k', w) :: L2.putK t k v := by
        unfold L2.putK
        rw [List.any_cons, decide_eq_false (show ¬ ((k', w) : κ × V).1 = k from hne), Bool.false_or, List.map_cons, if_neg hne]
        split <;> rfl
      rw [e1]
      exact ⟨k', w, _, rfl, e, d, DensD.put hk dq nd.2 t'⟩
end
theorem DensD.length {κ : Type} {f : P → Option κ} : ∀ {kvs : List (P × P)} {ks : List (κ × V)}, DensD K H m n f kvs ks → kvs.length = ks.length
  | [], ks, h => by cases (show ks = [] from h); rfl
  | (x, y) :: r, ks, h => by
    obtain ⟨k', w, t, rfl, e, d, t'⟩ := h
    rw [List.length_cons, List.length_cons, DensD.length t']
theorem DensD.flat : ∀ {kvs : List (P × P)} {ks : List (Key × V)}, DensD K H m n keyP kvs ks → (kvs.all fun kv => flatK kv.1) = true
  | [], ks, h => rfl
  | (x, y) :: r, ks, h => by
    obtain ⟨k', w, t, rfl, e, d, t'⟩ := h
    rw [List.all_cons, DensD.flat t', keyP_flat e]; rfl
theorem DensD.tups : ∀ {kvs : List (P × P)} {ks : List (List Key × V)}, DensD K H m n tkeyP kvs ks → (kvs.all fun kv => tupK kv.1) = true
  | [], ks, h => rfl
  | (x, y) :: r, ks, h => by
    obtain ⟨k', w, t, rfl, e, d, t'⟩ := h
    rw [List.all_cons, DensD.tups t', tkeyP_tup e]; rfl
theorem both_nil : ∀ {kvs : List (P × P)}, (kvs.all fun kv => flatK kv.1) = true → (kvs.all fun kv => tupK kv.1) = true → kvs = []
  | [], _, _ => rfl
  | (x, y) :: r, h, h2 => by
    rw [List.all_cons, Bool.and_eq_true] at h h2
    have := flat_tup h.1
    rw [h2.1] at this
    cases this
end
end
end Pa
end
section
set_option maxHeartbeats 1000000
/-! Pa, part E: dicts in the heap, subscripts. -/
namespace Pa
open PySem (Str PyData Addr Value Obj Shared Expr Stmt Pos model wpAny binaryOp inplaceOp compareOp sizeLine cLine CmpOp Operator)
open L2 (V HO Hp Rd SqL SqT upd upd_same upd_ne VK TE TT TA TS TG TI Ends Cx Inv PE PT PA PS PSs PG PI RelV Vals EP Key kV R2 OpR)
section
variable {X : Cx} {N : Nm} {pins : List (Addr × Obj)} {s : Shared} {σ : L2.St} {H : Hp} {m : Mp} {S : S}
theorem to_dK {Pg : PySem.Program} {w : PySem.World} {H H' : Hp} {h : PySem.Heap} {a : Addr} (x : L2.ObjOk Pg w H h a (.dT [])) : L2.ObjOk Pg w H' h a (.dK []) ∧ ∃ o, h.get? a = some o := by
  obtain ⟨z, hS, xs, rel, o, es, ep, h1, h2, h3, h4, nd⟩ := x
  cases rel
  have e : es = #[] := by
    apply Array.toList_inj.mp
    rw [h4]; rfl
  subst e
  exact ⟨⟨Nat.zero_le _, hS, [], .nil, o, #[], ep, h1, h2, h3, fun e he => absurd he (by simp), .nil, List.nodup_nil⟩, o, h1⟩
theorem to_dT {Pg : PySem.Program} {w : PySem.World} {H H' : Hp} {h : PySem.Heap} {a : Addr} (x : L2.ObjOk Pg w H h a (.dK [])) : L2.ObjOk Pg w H' h a (.dT []) ∧ ∃ o, h.get? a = some o := by
  obtain ⟨z, hS, vs, rel, o, es, ep, h1, h2, h3, h4, h5, nd⟩ := x
  cases rel
  have e : es = #[] := by
    apply Array.toList_inj.mp
    generalize es.toList = l at h5
    cases h5
    rfl
  subst e
  exact ⟨⟨Nat.zero_le _, hS, [], .nil, o, #[], ep, h1, h2, h3, rfl, List.nodup_nil⟩, o, h1⟩
theorem reform {a : Addr} {u w : HO} (I : Inv X pins σ H s) (h : H a = some u) (mu : L2.Mut (some u)) (x : L2.ObjOk X.prog X.w (upd H a w) s.heap a w) (hex : ∃ o, s.heap.get? a = some o) : Inv X pins σ (upd H a w) s :=
  I.write (x := a) (e := a) (t' := s.toks) (h' := s.heap) (by rw [h]; exact mu) (.inl rfl) (fun b v _ q => q) hex x
theorem dict_form {n : Nat} {lk : Bool} {kvs : List (P × P)} {p : P} {y : V} (I : Inv X pins σ H s) (hr : Rel X.K N H m S) (hn : S[n]? = some (.dct lk kvs)) (dp : Den X.K H m S.length p y) (hk : keyOk lk p kvs = true) :
    ∃ H1, Inv X pins σ H1 s ∧ Rel X.K N H1 m S ∧ Ext S.length H m S.length H1 m ∧
      ((∃ k ks, keyP p = some k ∧ y = kV k ∧ lkO lk (H1 (m n)) (.dK ks) ∧ DensD X.K H1 m S.length keyP kvs ks) ∨
       (∃ k ks b, tkeyP p = some k ∧ y = .ref b ∧ H1 b = some (.tup (k.map kV)) ∧ lkO lk (H1 (m n)) (.dT ks) ∧ DensD X.K H1 m S.length tkeyP kvs ks)) := by
  have hl := (List.getElem?_eq_some_iff.mp hn).1
  unfold keyOk at hk
  rw [Bool.and_eq_true, Bool.or_eq_true, Bool.and_eq_true, Bool.and_eq_true, Bool.or_eq_true] at hk
  obtain ⟨hk, hlk⟩ := hk
  have tupk : ∀ {H1 : Hp} {k : List Key}, Den X.K H1 m S.length p y → tkeyP p = some k → ∃ b, y = .ref b ∧ H1 b = some (.tup (k.map kV)) := fun {H1 k} d e => by
    cases p <;> first | (cases e; done) | skip
    obtain ⟨b, vs, rfl, h1, d1⟩ := d
    exact ⟨b, rfl, by rw [← Dens.keys d1 e]; exact h1⟩
  rcases hr.obj n _ hn with ⟨ks, f, d⟩ | ⟨ks, f, d⟩
  · rcases hk with ⟨h1, h2⟩ | ⟨h1, h2⟩
    · obtain ⟨k, e⟩ := flatK_key h1
      exact ⟨H, I, hr, Ext.refl, .inl ⟨k, ks, e, dp.key e, f, d⟩⟩
    · have e0 : kvs = [] := both_nil d.flat h2
      subst e0
      have elk : lk = false := by rcases hlk with z | z; simpa using z; cases z
      subst elk
      cases (show ks = [] from d)
      have f' : H (m n) = some (.dK []) := f
      obtain ⟨o1, o2⟩ := to_dT (H' := upd H (m n) (.dT [])) (I.hok _ _ f')
      have r1 : Rel X.K N (upd H (m n) (.dT [])) m S := hr.reset hn (.inr ⟨[], upd_same, rfl⟩)
      have x1 : Ext S.length H m S.length (upd H (m n) (.dT [])) m := Ext.set hr hl
      obtain ⟨k, e⟩ := tupK_key h1
      obtain ⟨b, e1, e2⟩ := tupk (hr.den x1 dp) e
      exact ⟨_, reform I f' trivial o1 o2, r1, x1, .inr ⟨k, [], b, e, e1, e2, upd_same, rfl⟩⟩
  · rcases hk with ⟨h1, h2⟩ | ⟨h1, h2⟩
    · have e0 : kvs = [] := both_nil h2 d.tups
      subst e0
      have elk : lk = false := by rcases hlk with z | z; simpa using z; cases z
      subst elk
      cases (show ks = [] from d)
      have f' : H (m n) = some (.dT []) := f
      obtain ⟨o1, o2⟩ := to_dK (H' := upd H (m n) (.dK [])) (I.hok _ _ f')
      have r1 : Rel X.K N (upd H (m n) (.dK [])) m S := hr.reset hn (.inl ⟨[], upd_same, rfl⟩)
      have x1 : Ext S.length H m S.length (upd H (m n) (.dK [])) m := Ext.set hr hl
      obtain ⟨k, e⟩ := flatK_key h1
      exact ⟨_, reform I f' trivial o1 o2, r1, x1, .inl ⟨k, [], e, (hr.den x1 dp).key e, upd_same, rfl⟩⟩
    · obtain ⟨k, e⟩ := tupK_key h1
      obtain ⟨b, e1, e2⟩ := tupk dp e
      exact ⟨H, I, hr, Ext.refl, .inr ⟨k, ks, b, e, e1, e2, f, d⟩⟩
theorem lkO.rd {lk : Bool} {a : Addr} {u : HO} (h : lkO lk (H a) u) : Rd H a u := by
  unfold lkO at h
  split at h
  · exact .inr h
  · exact .inl h
/-- asking a dict for a key -/
theorem dict_get {n : Nat} {lk : Bool} {kvs : List (P × P)} {p : P} {y : V} (I : Inv X pins σ H s) (hr : Rel X.K N H m S) (hn : S[n]? = some (.dct lk kvs)) (dp : Den X.K H m S.length p y) (hk : keyOk lk p kvs = true) :
    ∃ H1 o, Inv X pins σ H1 s ∧ Rel X.K N H1 m S ∧ Ext S.length H m S.length H1 m ∧ L2.DGet H1 (m n) y o ∧
      ((dget kvs p = none ∧ o = none) ∨ ∃ q v, dget kvs p = some q ∧ o = some v ∧ Den X.K H1 m S.length q v) := by
  obtain ⟨H1, I1, r1, x1, h | h⟩ := dict_form I hr hn dp hk
  · obtain ⟨k, ks, e, ey, f, d⟩ := h
    refine ⟨H1, L2.valV ks k, I1, r1, x1, .inl ⟨ks, k, f.rd, ey, rfl⟩, ?_⟩
    exact DensD.get (fun h h2 => keyP_inj h h2) e d
  · obtain ⟨k, ks, b, e, ey, eb, f, d⟩ := h
    refine ⟨H1, L2.valV ks k, I1, r1, x1, .inr ⟨ks, k, b, f.rd, ey, eb, rfl⟩, ?_⟩
    exact DensD.get (fun h h2 => tkeyP_inj h h2) e d
theorem nodupK {a : Addr} {ks : List (Key × V)} (I : Inv X pins σ H s) (f : H a = some (.dK ks)) : (ks.map (·.1)).Nodup := by
  obtain ⟨_, _, vs, rel, o, es, ep, _, _, _, _, _, nd⟩ := I.hok _ _ f
  rw [rel.keys]
  exact nd
theorem pairedT_keys : ∀ {ks : List (List Key × V)} {xs : List (List Key × Addr × Value)} {R : List Key × V → List Key × Addr × Value → Prop}, PySem.Paired R ks xs → (∀ a b, R a b → a.1 = b.1) → ks.map (·.1) = xs.map (·.1)
  | _, _, _, .nil, _ => rfl
  | _, _, _, .cons r t, h => by rw [List.map_cons, List.map_cons, h _ _ r, pairedT_keys t h]
theorem nodupT {a : Addr} {ks : List (List Key × V)} (I : Inv X pins σ H s) (f : H a = some (.dT ks)) : (ks.map (·.1)).Nodup := by
  obtain ⟨_, _, xs, rel, o, es, ep, _, _, _, _, nd⟩ := I.hok _ _ f
  rw [pairedT_keys rel fun a b h => h.1]
  exact nd
/-- putting into a dict -/
theorem dict_put {n : Nat} {kvs : List (P × P)} {p q : P} {y v : V} (I : Inv X pins σ H s) (hr : Rel X.K N H m S) (hn : S[n]? = some (.dct false kvs)) (dp : Den X.K H m S.length p y) (dq : Den X.K H m S.length q v) (hk : keyOk false p kvs = true) (hz : kvs.length < SZ) :
    ∃ H1 H2, Inv X pins σ H1 s ∧ Ext S.length H m S.length H1 m ∧ L2.DPut H1 (m n) y v H2 ∧ Rel X.K N H2 m (S.set n (.dct false (dput kvs p q))) ∧ Ext S.length H m S.length H2 m := by
  have hl := (List.getElem?_eq_some_iff.mp hn).1
  obtain ⟨H1, I1, r1, x1, h | h⟩ := dict_form I hr hn dp hk
  · obtain ⟨k, ks, e, ey, f, d⟩ := h
    have f' : H1 (m n) = some (.dK ks) := f
    have x2 : Ext S.length H1 m S.length (upd H1 (m n) (.dK (L2.putK ks k v))) m := Ext.set r1 hl
    refine ⟨H1, upd H1 (m n) (.dK (L2.putK ks k v)), I1, x1, .inl ⟨ks, k, f', ey, by rw [SZ_eq, ← d.length]; exact hz, rfl⟩, r1.set hl (.inl ⟨_, upd_same, ?_⟩), x1.trans x2⟩
    exact DensD.put (fun h h2 => keyP_inj h h2) e (r1.den x2 (hr.den x1 dq)) (nodupK I1 f') (d.ext x2 r1.ne)
  · obtain ⟨k, ks, b, e, ey, eb, f, d⟩ := h
    have f' : H1 (m n) = some (.dT ks) := f
    have x2 : Ext S.length H1 m S.length (upd H1 (m n) (.dT (L2.putK ks k v))) m := Ext.set r1 hl
    refine ⟨H1, upd H1 (m n) (.dT (L2.putK ks k v)), I1, x1, .inr ⟨ks, k, b, f', ey, eb, by rw [SZ_eq, ← d.length]; exact hz, rfl⟩, r1.set hl (.inr ⟨_, upd_same, ?_⟩), x1.trans x2⟩
    exact DensD.put (fun h h2 => tkeyP_inj h h2) e (r1.den x2 (hr.den x1 dq)) (nodupT I1 f') (d.ext x2 r1.ne)
end
section
variable {X : Cx} {N : Nm}
theorem cmp_in (hu : X.A.units + 1 < cLine) : OpR X (compareOp .In) (rA X.K N (cmpP .inn)) := by
  rintro pins s σ H x y v u Q I rx ry ⟨m, S, p, q, r, S', hr, dp, dq, e, k⟩
  simp only [cmpP] at e
  split at e
  · rename_i n
    split at e
    · rename_i lk kvs hn
      obtain ⟨c, rfl, rfl⟩ := if_ok e
      obtain ⟨_, rfl⟩ := dq
      cases ry
      obtain ⟨H1, o, I1, r1, x1, g, h⟩ := dict_get I hr hn dp c
      refine L2.d_in hu I1 g rx fun s' I' => ⟨.bl o.isSome, H1, I', rfl, ?_⟩
      have e1 : (dget kvs p).isSome = o.isSome := by
        rcases h with ⟨a, b⟩ | ⟨_, _, a, b, _⟩ <;> rw [a, b] <;> rfl
      rw [e1] at k
      exact k _ _ m r1 x1 rfl
    · cases e
  · cases e
theorem cmp_notin (hu : X.A.units + 1 < cLine) : OpR X (compareOp .NotIn) (rA X.K N (cmpP .nin)) := by
  rintro pins s σ H x y v u Q I rx ry ⟨m, S, p, q, r, S', hr, dp, dq, e, k⟩
  simp only [cmpP] at e
  split at e
  · rename_i n
    split at e
    · rename_i lk kvs hn
      obtain ⟨c, rfl, rfl⟩ := if_ok e
      obtain ⟨_, rfl⟩ := dq
      cases ry
      obtain ⟨H1, o, I1, r1, x1, g, h⟩ := dict_get I hr hn dp c
      refine L2.d_notIn hu I1 g rx fun s' I' => ⟨.bl (!o.isSome), H1, I', rfl, ?_⟩
      have e1 : (dget kvs p).isSome = o.isSome := by
        rcases h with ⟨a, b⟩ | ⟨_, _, a, b, _⟩ <;> rw [a, b] <;> rfl
      rw [e1] at k
      exact k _ _ m r1 x1 rfl
    · cases e
  · cases e
def opC : CmpO → CmpOp
  | .eq => .Eq | .ne => .NotEq | .lt => .Lt | .le => .LtE | .gt => .Gt | .ge => .GtE | .inn => .In | .nin => .NotIn
theorem cmp_ok (hu : X.A.units + 64 < cLine) (o : CmpO) : OpR X (compareOp (opC o)) (rA X.K N (cmpP o)) := by
  cases o with
  | eq => exact cmp_eq hu
  | ne => exact cmp_ne hu
  | lt => exact cmp_lt
  | le => exact cmp_le
  | gt => exact cmp_gt
  | ge => exact cmp_ge
  | inn => exact cmp_in (by omega)
  | nin => exact cmp_notin (by omega)
theorem sIx_eq (n d : Nat) (o : Option Int) : sIx n d o = HT.sIx n d o := by cases o <;> rfl
theorem ixN_eq (n : Nat) (i : Int) : ixN n i = L2.ixN n i := rfl
theorem atI_eq {α : Type} (xs : List α) (i : Int) : atI xs i = L2.atI xs i := rfl
theorem Dens.cut {K : PySem.W.Frag} {H : Hp} {m : Mp} {n : Nat} {ps : List P} {vs : List V} (h : Dens K H m n ps vs) (lo hi : Option Int) : Dens K H m n (cut ps lo hi) (L2.cutV vs lo hi) := by
  unfold Pa.cut L2.cutV
  rw [sIx_eq, sIx_eq, h.length]
  exact (h.drop _).take _
theorem Dens.atI {K : PySem.W.Frag} {H : Hp} {m : Mp} {n : Nat} {ps : List P} {vs : List V} {i : Int} {p : P} (h : Dens K H m n ps vs) (e : atI ps i = some p) : ∃ v, L2.atI vs i = some v ∧ Den K H m n p v := by
  unfold Pa.atI at e
  unfold L2.atI
  rw [← h.length]
  rw [ixN_eq] at e
  cases e1 : L2.ixN ps.length i with
  | none => rw [e1] at e; cases e
  | some j =>
    rw [e1, Option.bind_some] at e
    rw [Option.bind_some]
    exact h.get e
/-- a[i] -/
theorem ix_ok (hu : X.A.units + 1 < cLine) : L2.IxR X (rA X.K N ixP) := by
  rintro value slice pins s σ H x y v u Q I rx ry ⟨m, S, p, q, r, S', hr, dp, dq, e, k⟩ hs
  cases p with
  | tup ps =>
    cases q with
    | int i =>
      cases (show y = _ from dq)
      obtain ⟨e1, rfl⟩ := ofO_ok e
      obtain ⟨a, vs, rfl, h1, d1⟩ := dp
      obtain ⟨w, hw, dw⟩ := d1.atI e1
      exact L2.ix_tup value slice pins s σ H _ _ v u Q I rx ry ⟨a, vs, i, w, rfl, rfl, SqT.of h1, hw, k.same hr dw⟩ hs
    | _ => cases e
  | rol ps =>
    cases q with
    | int i =>
      cases (show y = _ from dq)
      obtain ⟨e1, rfl⟩ := ofO_ok e
      obtain ⟨a, vs, rfl, h1, d1⟩ := dp
      obtain ⟨w, hw, dw⟩ := d1.atI e1
      refine L2.ix_list value slice pins s σ H _ _ v u Q I rx ry ⟨a, vs, i, w, rfl, rfl, ?_, hw, k.same hr dw⟩ hs
      rcases h1 with h1 | h1
      · exact .inl (.inr h1)
      · exact .inr h1
    | _ => cases e
  | str z =>
    cases q with
    | int i =>
      cases (show y = _ from dq)
      cases (show x = _ from dp)
      simp only [ixP] at e
      split at e
      · rename_i hz
        obtain ⟨e1, rfl⟩ := ofO_ok e
        obtain ⟨c, e2, rfl⟩ := Option.map_eq_some_iff.mp e1
        exact L2.ix_str value slice pins s σ H _ _ v u Q I rx ry ⟨z, i, c, rfl, rfl, by rw [SZ_eq]; exact hz, e2, k.same hr rfl⟩ hs
      · cases e
    | _ => cases e
  | loc n =>
    simp only [ixP] at e
    split at e
    · rename_i xs hn
      cases q with
      | int i =>
        cases (show y = _ from dq)
        obtain ⟨e1, rfl⟩ := ofO_ok e
        obtain ⟨_, rfl⟩ := dp
        obtain ⟨_, vs, h1, d1⟩ := hr.lst hn
        obtain ⟨w, hw, dw⟩ := d1.atI e1
        exact L2.ix_list value slice pins s σ H _ _ v u Q I rx ry ⟨m n, vs, i, w, rfl, rfl, SqL.of h1, hw, k.same hr dw⟩ hs
      | _ => cases e
    · rename_i lk kvs hn
      split at e
      · rename_i c
        obtain ⟨e1, rfl⟩ := ofO_ok e
        obtain ⟨_, rfl⟩ := dp
        cases rx
        obtain ⟨H1, o, I1, r1, x1, g, h⟩ := dict_get I hr hn dq c
        rcases h with ⟨a, _⟩ | ⟨q', w, a, b, dw⟩
        · rw [a] at e1; cases e1
        · rw [e1] at a
          cases a
          subst b
          refine PyProof.Rows.tail_any (L2.dict_typeIs I1 g) PySem.F.slot_dict_getitem.lookup ?_ hs
          exact L2.d_getItem hu I1 g ry fun w' s' I' rw' => ⟨w, H1, I', rw', k _ _ m r1 x1 dw⟩
      · cases e
    · cases e
  | _ => cases e
end
end Pa
end
section
set_option maxHeartbeats 2000000
/-! Pa, part F: slices, stores, methods, built-in functions. -/
namespace Pa
open PySem (Str PyData Addr Value Obj Shared Expr Stmt Pos model wpAny binaryOp inplaceOp compareOp sizeLine cLine CmpOp Operator Heap sysModules)
open L2 (V HO Hp Rd SqL SqT upd upd_same upd_ne VK TE TT TA TS TG TI Ends Cx Inv PE PT PA PS PSs PG PI RelV Vals EP Key kV R2 OpR)
section
variable {K : PySem.W.Frag} {N : Nm} {H H2 : Hp} {m : Mp} {n : Nat} {s : S}
theorem Ext.grow (g : ∀ b o, H b = some o → H2 b = some o) : Ext n H m n H2 m where
  le := Nat.le_refl _
  map := fun _ _ => rfl
  keep := fun a o h _ => g a o h
  there := fun a h => by
    cases e : H a with
    | none => exact absurd e h
    | some o => rw [g a o e]; simp
  new := fun i h1 h2 => absurd h1 (by omega)
  frz := fun a o u h => g a _ h
theorem Rel.grow (r : Rel K N H m s) (g : ∀ b o, H b = some o → H2 b = some o) : Rel K N H2 m s where
  inj := r.inj
  obj := fun i o h => by
    have hi : i < s.length := (List.getElem?_eq_some_iff.mp h).1
    obtain ⟨w, h1, _⟩ := r.mutb hi
    exact (r.obj i o h).ext (Ext.grow g) r.ne (by rw [g _ _ h1, h1])
theorem lstOf_lst (r : Rel K N H m s) {p : P} {x : V} {ps : List P} (h : lstOf s p = some ps) (d : Den K H m s.length p x) : ∃ a vs, x = .ref a ∧ SqL K H a vs ∧ Dens K H m s.length ps vs := by
  cases p <;> first | (cases h; done) | skip
  · cases h
    obtain ⟨a, vs, rfl, h1, d1⟩ := d
    refine ⟨a, vs, rfl, ?_, d1⟩
    rcases h1 with h1 | h1
    · exact .inl (.inr h1)
    · exact .inr h1
  · rename_i k
    simp only [lstOf] at h
    split at h
    · rename_i xs hx
      cases h
      obtain ⟨_, rfl⟩ := d
      obtain ⟨_, vs, h1, d1⟩ := r.lst hx
      exact ⟨_, vs, rfl, SqL.of h1, d1⟩
    · cases h
theorem seqOf_sq (r : Rel K N H m s) {p : P} {x : V} {ps : List P} (h : seqOf s p = some ps) (d : Den K H m s.length p x) : ∃ a vs, x = .ref a ∧ (SqL K H a vs ∨ SqT K H a vs) ∧ Dens K H m s.length ps vs := by
  cases p <;> first | (cases h; done) | skip
  · cases h
    obtain ⟨a, vs, rfl, h1, d1⟩ := d
    exact ⟨a, vs, rfl, .inr (SqT.of h1), d1⟩
  · cases h
    obtain ⟨a, vs, rfl, h1, d1⟩ := d
    refine ⟨a, vs, rfl, .inl ?_, d1⟩
    rcases h1 with h1 | h1
    · exact .inl (.inr h1)
    · exact .inr h1
  · rename_i k
    simp only [seqOf] at h
    split at h
    · rename_i xs hx
      cases h
      obtain ⟨_, rfl⟩ := d
      obtain ⟨_, vs, h1, d1⟩ := r.lst hx
      exact ⟨_, vs, rfl, .inl (SqL.of h1), d1⟩
    · cases h
end
section
variable {X : Cx} {N : Nm}
/-! ### slices -/
def slA (K : PySem.W.Frag) (N : Nm) : V → Option Int → Option Int → Hp → VK → Prop := fun x lo hi H Q => ∃ m s p r s', Rel K N H m s ∧ Den K H m s.length p x ∧ slP p lo hi s = .ok r s' ∧ Beh K N m H s r s' Q
theorem cut_whole {α : Type} {xs : List α} {lo hi : Option Int} (h : HT.sIx xs.length 0 lo = 0 ∧ HT.sIx xs.length xs.length hi = xs.length) : cut xs lo hi = xs := by
  unfold cut
  rw [sIx_eq, sIx_eq, h.1, h.2, List.drop_zero, Nat.sub_zero]
  exact List.take_length
theorem sl_ok : L2.SlR X (slA X.K N) := by
  rintro pins s σ H x v vl vu lo hi sl Q I rx hs pl pu ⟨m, S, p, r, S', hr, dp, e, k⟩
  cases p with
  | tup ps =>
    cases e
    obtain ⟨a, vs, rfl, h1, d1⟩ := dp
    have l1 := d1.length
    refine L2.sl_tupA pins s σ H _ v vl vu lo hi sl Q I rx hs pl pu ⟨a, vs, rfl, SqT.of h1, fun hw => ?_, fun _ z hz => k.tup hr (d1.cut lo hi) hz⟩
    rw [← l1] at hw
    rw [cut_whole hw] at k
    exact k.same hr ⟨a, vs, rfl, h1, d1⟩
  | rol ps =>
    cases e
    obtain ⟨a, vs, rfl, h1, d1⟩ := dp
    refine L2.sl_list pins s σ H _ v vl vu lo hi sl Q I rx hs pl pu ⟨a, vs, rfl, ?_, fun z hz => k.lst hr (d1.cut lo hi) hz⟩
    rcases h1 with h1 | h1
    · exact .inl (.inr h1)
    · exact .inr h1
  | loc n =>
    simp only [slP] at e
    split at e
    · rename_i xs hn
      cases e
      obtain ⟨_, rfl⟩ := dp
      obtain ⟨_, vs, h1, d1⟩ := hr.lst hn
      exact L2.sl_list pins s σ H _ v vl vu lo hi sl Q I rx hs pl pu ⟨_, vs, rfl, SqL.of h1, fun z hz => k.lst hr (d1.cut lo hi) hz⟩
    · cases e
  | _ => cases e

/-! ### stores -/
def stA (K : PySem.W.Frag) (N : Nm) : V → V → V → Hp → (Hp → Prop) → Prop := fun o i v H Q => ∃ m s p q x s', Rel K N H m s ∧ Den K H m s.length p o ∧ Den K H m s.length q i ∧ Den K H m s.length x v ∧ stIx p q x s = .ok () s' ∧
  ∀ H' m', Rel K N H' m' s' → Ext s.length H m s'.length H' m' → Q H'
theorem st_ok (hu : X.A.units + 1 < cLine) : L2.PSet X (stA X.K N) := by
  rintro pins s σ H o i v ov iv u Q I ro ri rv ⟨m, S, p, q, x, S', hr, dp, dq, dx, e, k⟩
  cases p <;> first | (cases e; done) | skip
  rename_i n
  obtain ⟨_, rfl⟩ := dp
  simp only [stIx] at e
  split at e
  · rename_i kvs hn
    split at e
    · rename_i hc
      cases e
      cases ro
      obtain ⟨H1, H2, I1, x1, g, r2, x2⟩ := dict_put I hr hn dq dx hc.1 hc.2
      exact L2.d_setItem hu I1 g ri rv fun s' I' => ⟨H2, I', k _ m r2 (by rw [List.length_set]; exact x2)⟩
    · cases e
  · simp only [stI] at e
    split at e
    · rename_i xs hn
      split at e
      · rename_i j
        cases (show i = _ from dq)
        split at e
        · rename_i j' hj
          cases e
          obtain ⟨hl, vs, h1, d1⟩ := hr.lst hn
          have x1 : ∀ u, Ext S.length H m S.length (upd H (m n) u) m := fun u => Ext.set hr hl
          refine L2.set_list pins s σ H _ _ v ov iv u Q I ro ri rv ⟨m n, vs, j, j', rfl, rfl, h1, by rw [← d1.length]; exact hj, ?_⟩
          exact k _ m (hr.set hl ⟨_, upd_same, hr.dens (x1 _) (d1.set dx j')⟩) (by rw [List.length_set]; exact x1 _)
        · cases e
      · cases e
    · cases e

/-! ### methods of built-in types -/
def mA1 (K : PySem.W.Frag) (N : Nm) (g : P → P → S → R P) : V → List V → Hp → VK → Prop := fun x xs H Q => ∃ y, xs = [y] ∧ rA K N g x y H Q
def mA0 (K : PySem.W.Frag) (N : Nm) (g : P → S → R P) : V → List V → Hp → VK → Prop := fun x xs H Q => xs = [] ∧ uA K N g x H Q
def mA2 (K : PySem.W.Frag) (N : Nm) (g : P → P → P → S → R P) : V → List V → Hp → VK → Prop := fun x xs H Q => ∃ y z, xs = [y, z] ∧ ∃ m s p q r o s', Rel K N H m s ∧ Den K H m s.length p x ∧ Den K H m s.length q y ∧ Den K H m s.length r z ∧ g p q r s = .ok o s' ∧ Beh K N m H s o s' Q
theorem mt_append : L2.MtR X "list.append" (mA1 X.K N (m1P .append)) := by
  rintro pins s σ H x xs v us Q I rx rxs ⟨y, rfl, m, S, p, q, r, S', hr, dp, dq, e, k⟩
  cases p <;> first | (cases e; done) | skip
  rename_i n
  simp only [m1P] at e
  split at e
  · rename_i ps hn
    obtain ⟨hc, rfl, rfl⟩ := if_ok e
    obtain ⟨_, rfl⟩ := dp
    obtain ⟨hl, vs, h1, d1⟩ := hr.lst hn
    refine L2.mt_append pins s σ H _ _ v us Q I rx rxs ⟨m n, vs, y, rfl, rfl, h1, by rw [SZ_eq, ← d1.length]; exact hc, ?_⟩
    exact k.set hr hl ⟨_, upd_same, hr.dens (Ext.set hr hl) (d1.append (Dens.single dq))⟩ rfl
  · cases e
theorem mt_extend : L2.MtR X "list.extend" (mA1 X.K N (m1P .extend)) := by
  rintro pins s σ H x xs v us Q I rx rxs ⟨y, rfl, m, S, p, q, r, S', hr, dp, dq, e, k⟩
  cases p <;> first | (cases e; done) | skip
  rename_i n
  cases q <;> first | (cases e; done) | skip
  rename_i b
  simp only [m1P] at e
  split at e
  · rename_i ps qs hn hb
    obtain ⟨hc, rfl, rfl⟩ := if_ok e
    obtain ⟨_, rfl⟩ := dp
    obtain ⟨_, rfl⟩ := dq
    obtain ⟨hl, vs, h1, d1⟩ := hr.lst hn
    obtain ⟨_, ws, h2, d2⟩ := hr.lst hb
    refine L2.mt_extend pins s σ H _ _ v us Q I rx rxs ⟨m n, m b, vs, ws, rfl, rfl, h1, h2, by rw [SZ_eq, ← d1.length, ← d2.length]; exact hc, ?_⟩
    exact k.set hr hl ⟨_, upd_same, hr.dens (Ext.set hr hl) (d1.append d2)⟩ rfl
  · cases e
theorem mt_pop : L2.MtR X "list.pop" (mA0 X.K N (m0P .pop)) := by
  rintro pins s σ H x xs v us Q I rx rxs ⟨rfl, m, S, p, r, S', hr, dp, e, k⟩
  cases p <;> first | (cases e; done) | skip
  rename_i n
  simp only [m0P] at e
  split at e
  · rename_i ps hn
    split at e
    · rename_i y hy
      cases e
      obtain ⟨_, rfl⟩ := dp
      obtain ⟨hl, vs, h1, d1⟩ := hr.lst hn
      obtain ⟨w, hw, dw⟩ := d1.get hy
      refine L2.mt_pop pins s σ H _ _ v us Q I rx rxs ⟨m n, vs, w, rfl, rfl, h1, by rw [← d1.length]; exact hw, ?_⟩
      exact k.set hr hl ⟨_, upd_same, hr.dens (Ext.set hr hl) d1.dropLast⟩ dw
    · cases e
  · cases e
theorem mt_get (hu : X.A.units + 1 < cLine) : L2.MtR X "dict.get" (mA2 X.K N (m2P .get)) := by
  rintro pins s σ H x xs v us Q I rx rxs ⟨y, z, rfl, m, S, p, q, o, r, S', hr, dp, dq, dz, e, k⟩
  cases p <;> first | (cases e; done) | skip
  rename_i n
  simp only [m2P] at e
  split at e
  · rename_i lk kvs hn
    obtain ⟨hc, rfl, rfl⟩ := if_ok e
    obtain ⟨_, rfl⟩ := dp
    cases rx
    obtain ⟨u1, u2, rfl, ry, rz⟩ := L2.vals2 rxs
    obtain ⟨H1, o', I1, r1, x1, g, h⟩ := dict_get I hr hn dq hc
    refine L2.d_get2 hu I1 g ry rz fun w' s' I' rw' => ⟨_, H1, I', rw', ?_⟩
    rcases h with ⟨a, b⟩ | ⟨q', w, a, b, dw⟩
    · rw [a] at k
      subst b
      exact k _ _ m r1 x1 (hr.den x1 dz)
    · rw [a] at k
      subst b
      exact k _ _ m r1 x1 dw
  · cases e
theorem storedH_put {H : Hp} {kvs : List (List Key × V)} {xs : List (List Key × Addr × Value)} (r : L2.KT H kvs xs) (k : List Key) : PySem.atKey xs k = none → L2.valV kvs k = none := fun h => by
  have q := r.val k
  rw [h] at q
  cases e : L2.valV kvs k with
  | none => rfl
  | some v => rw [e] at q; cases q
theorem mt_setdefault (hu : X.A.units + 1 < cLine) : L2.MtR X "dict.setdefault" (mA2 X.K N (m2P .setdefault)) := by
  rintro pins s σ H x xs v us Q I rx rxs ⟨y, z, rfl, m, S, p, q, o, r, S', hr, dp, dq, dz, e, k⟩
  cases p <;> first | (cases e; done) | skip
  rename_i n
  simp only [m2P] at e
  split at e
  · rename_i kvs hn
    split at e
    · rename_i hc
      obtain ⟨_, rfl⟩ := dp
      cases rx
      obtain ⟨u1, u2, rfl, ry, rz⟩ := L2.vals2 rxs
      have hl := (List.getElem?_eq_some_iff.mp hn).1
      have hk : keyOk false q kvs = true := by unfold keyOk; rw [hc.1, hc.2.1]; simp
      obtain ⟨H1, I1, r1, x1, h | h⟩ := dict_form I hr hn dq hk
      · obtain ⟨k', ks, e1, _⟩ := h
        have := flat_tup (keyP_flat e1)
        rw [hc.1] at this
        cases this
      · obtain ⟨k', ks, b, e1, rfl, eb, f, d⟩ := h
        have f' : H1 (m n) = some (.dT ks) := f
        cases (show u1 = Value.ref b from ry)
        obtain ⟨z1, hd, xs', rel, dd⟩ := L2.dt_of I1.hok f'
        have lk : ks.length = xs'.length := PySem.Paired.length rel
        have hz : ks.length < sizeLine := by rw [SZ_eq, ← d.length]; exact hc.2.2
        have G := DensD.get (fun h h2 => tkeyP_inj h h2) e1 d
        have val := rel.val k'
        refine PySem.call_setdefault_heap (knd := PySem.tupleKind (L2.mixKind X.prog X.w)) (PySem.tupleKind_room_in1 hu) (L2.key_of I1.hok eb) hd dd (fun pr hp => ?_) (fun hnone h' dd' hs => ?_) (by omega)
        · rw [hp] at val
          rcases G with ⟨_, g2⟩ | ⟨q', w, g1, g2, dw⟩
          · rw [g2] at val; cases val
          · rw [g1] at e
            cases e
            rw [g2] at val
            exact ⟨w, H1, I1.tok _, val, k _ _ m r1 x1 dw⟩
        · rw [hnone] at val
          rcases G with ⟨g1, g2⟩ | ⟨q', w, g1, g2, dw⟩
          · rw [g1] at e
            cases e
            have x2 : Ext S.length H1 m S.length (upd H1 (m n) (.dT (L2.putK ks k' z))) m := Ext.set r1 hl
            have lp : (L2.putK ks k' z).length ≤ sizeLine := by have := L2.length_putK ks k' z; omega
            obtain ⟨q0, es, ep, hq, h2, h3, h4, _, h5⟩ := dd'
            refine ⟨z, upd H1 (m n) (.dT (L2.putK ks k' z)), L2.d_write I1 (by rw [f']; exact True.intro) hs ⟨q0, hq⟩ ⟨lp, hd, _, (rel.put k' eb rz).keeps fun c ys ec => ?_, q0, es, ep, hq, h2, h3, h4, h5⟩, rz, ?_⟩
            · rw [upd_ne (L2.ne_of ec f' (fun z => nomatch z))]
              exact ec
            · refine k _ _ m (r1.set hl (.inr ⟨_, upd_same, ?_⟩)) (by rw [List.length_set]; exact x1.trans x2) (by rw [List.length_set]; exact r1.den x2 (hr.den x1 dz))
              exact DensD.put (fun h h2 => tkeyP_inj h h2) e1 (r1.den x2 (hr.den x1 dz)) (nodupT I1 f') (d.ext x2 r1.ne)
          · rw [g2] at val; cases val
    · cases e
  · cases e
end
end Pa
end
section
set_option maxHeartbeats 2000000
/-! Pa, part G: built-in functions. -/
namespace Pa
open PySem (Str PyData Addr Value Obj Shared Expr Stmt Pos model wpAny binaryOp inplaceOp compareOp sizeLine cLine CmpOp Operator Heap sysModules)
open L2 (V HO Hp Rd SqL SqT upd upd_same upd_ne VK TE TT TA TS TG TI Ends Cx Inv PE PT PA PS PSs PG PI RelV Vals EP Key kV R2 OpR CallR)
/-- a call with one value -/
def cA1 (K : PySem.W.Frag) (N : Nm) (g : P → S → R P) : List V → Hp → VK → Prop := fun xs H Q => ∃ x, xs = [x] ∧ uA K N g x H Q
def cA2 (K : PySem.W.Frag) (N : Nm) (g : P → P → S → R P) : List V → Hp → VK → Prop := fun xs H Q => ∃ x y, xs = [x, y] ∧ rA K N g x y H Q
theorem intsOf_len : ∀ {ps : List P} {ns : List Int}, intsOf ps = some ns → ps.length = ns.length
  | [], _, h => by cases h; rfl
  | p :: ps, ns, h => by
    unfold intsOf at h
    cases e : intOf p with
    | none => rw [e] at h; cases h
    | some i =>
      rw [e, Option.bind_some] at h
      obtain ⟨l, h1, rfl⟩ := Option.map_eq_some_iff.mp h
      rw [List.length_cons, List.length_cons, intsOf_len h1]
theorem foldl_min_le : ∀ (xs : List Int) (a : Int), xs.foldl min a ≤ a ∧ (∀ x ∈ xs, xs.foldl min a ≤ x) ∧ (xs.foldl min a = a ∨ xs.foldl min a ∈ xs)
  | [], a => ⟨Int.le_refl _, fun x h => absurd h (by simp), .inl rfl⟩
  | x :: xs, a => by
    obtain ⟨h1, h2, h3⟩ := foldl_min_le xs (min a x)
    rw [List.foldl_cons]
    refine ⟨by omega, fun y hy => ?_, ?_⟩
    · rcases List.mem_cons.mp hy with rfl | hy
      · omega
      · exact h2 y hy
    · rcases h3 with h3 | h3
      · rw [h3]
        by_cases h : a ≤ x
        · rw [Int.min_eq_left h]; exact .inl rfl
        · rw [Int.min_eq_right (by omega)]; exact .inr (List.mem_cons_self ..)
      · exact .inr (List.mem_cons_of_mem _ h3)
theorem foldl_max_le : ∀ (xs : List Int) (a : Int), a ≤ xs.foldl max a ∧ (∀ x ∈ xs, x ≤ xs.foldl max a) ∧ (xs.foldl max a = a ∨ xs.foldl max a ∈ xs)
  | [], a => ⟨Int.le_refl _, fun x h => absurd h (by simp), .inl rfl⟩
  | x :: xs, a => by
    obtain ⟨h1, h2, h3⟩ := foldl_max_le xs (max a x)
    rw [List.foldl_cons]
    refine ⟨by omega, fun y hy => ?_, ?_⟩
    · rcases List.mem_cons.mp hy with rfl | hy
      · omega
      · exact h2 y hy
    · rcases h3 with h3 | h3
      · rw [h3]
        by_cases h : a ≤ x
        · rw [Int.max_eq_right h]; exact .inr (List.mem_cons_self ..)
        · rw [Int.max_eq_left (by omega)]; exact .inl rfl
      · exact .inr (List.mem_cons_of_mem _ h3)
theorem minI_mem {ns : List Int} {m : Int} (h : minI ns = some m) : m ∈ ns ∧ ∀ x ∈ ns, m ≤ x := by
  cases ns with
  | nil => cases h
  | cons a xs =>
    cases h
    obtain ⟨h1, h2, h3⟩ := foldl_min_le xs a
    refine ⟨?_, fun x hx => ?_⟩
    · rcases h3 with h3 | h3
      · rw [h3]; exact List.mem_cons_self ..
      · exact List.mem_cons_of_mem _ h3
    · rcases List.mem_cons.mp hx with rfl | hx
      · exact h1
      · exact h2 x hx
theorem maxI_mem {ns : List Int} {m : Int} (h : maxI ns = some m) : m ∈ ns ∧ ∀ x ∈ ns, x ≤ m := by
  cases ns with
  | nil => cases h
  | cons a xs =>
    cases h
    obtain ⟨h1, h2, h3⟩ := foldl_max_le xs a
    refine ⟨?_, fun x hx => ?_⟩
    · rcases h3 with h3 | h3
      · rw [h3]; exact List.mem_cons_self ..
      · exact List.mem_cons_of_mem _ h3
    · rcases List.mem_cons.mp hx with rfl | hx
      · exact h1
      · exact h2 x hx
/-! sum of a tuple -/
section
variable {prog : PySem.Program} {w : PySem.World} {A : PySem.Around} {E : Value → Shared → Prop} {s : Shared} {l : Addr} {its : List Value} {ns : List Int} {Q : Value → Shared → Prop}
theorem sum_tup_raw (hh : A.handled = none) (hl : PyProof.Rows.IsTup s.heap l its.toArray) (hi : PyProof.Rows.IntsAre its ns)
    (h : ∀ h' tk t', (∀ b o, s.heap.get? b = some o → h'.get? b = some o) → Q (.int ns.sum t') { s with heap := h', toks := tk }) : wpAny (model prog w) A (PySem.call (.builtin "sum") [.ref l]) Q E s := by
  obtain ⟨xs, e⟩ := hi.allInts.items
  have hn : (PySem.numsOf (PySem.intItems xs).toList) = ns := by rw [← e]; exact hi.numsOf
  rw [PySem.nums_intItems] at hn
  rw [e] at hl
  have hl' : s.heap.IsTuple l (PySem.intItems xs) := hl
  have hlt : l < s.heap.objs.size := hl.lt
  refine PySem.call_sum_walkG (PySem.wpAny_pyIter_tuple hl' ?_)
  refine ⟨s.heap.objs.size, [s.heap.objs.size, l], [s.heap.objs.size], (PySem.intItems xs).size, _, _, PySem.numAt xs, rfl, PySem.Walks.tuple (A := A.in1) hh s.heap.objs.size l (Nat.ne_of_lt hlt) (PySem.intItems xs),
    ⟨⟨_, Heap.get?_push_size _ rfl, rfl, rfl⟩, hl'.push _⟩, fun b hb => ?_, (fun _ _ => PySem.intItems_at), fun h' tk t' hk => ?_⟩
  · have : b = s.heap.objs.size ∨ b = l := by simpa using hb
    show b < (s.heap.push _).objs.size
    rw [Heap.size_push]
    rcases this with rfl | rfl
    · exact Nat.lt_succ_self _
    · exact Nat.lt_succ_of_lt hlt
  · have q := h h' tk t' fun b o e => hk b o (by simp only [List.mem_singleton]; exact Nat.ne_of_lt (Heap.lt_size e)) (Heap.get?_push_of_some _ e)
    rw [PySem.preSum_eq, List.take_of_length_le (by simp [PySem.intItems]), hn]
    exact q
end
section
variable {X : Cx} {N : Nm}
theorem fn_sum (hc : X.calm = true) : CallR X (.builtin "sum") (cA1 X.K N (b1P .sum)) := by
  rintro pins s σ H xs us Q I rx ⟨x, rfl, m, S, p, r, S', hr, dp, e, k⟩
  obtain ⟨e1, rfl⟩ := ofO_ok e
  obtain ⟨ns, e2, rfl⟩ := Option.map_eq_some_iff.mp e1
  cases e3 : seqOf S' p with
  | none => rw [e3] at e2; cases e2
  | some ps =>
    rw [e3, Option.bind_some] at e2
    obtain ⟨a, vs, rfl, h1, d1⟩ := seqOf_sq hr e3 dp
    have ev := d1.ints e2
    subst ev
    rcases h1 with h1 | h1
    · exact L2.cr_sum hc pins s σ H _ us Q I rx ⟨a, ns, rfl, h1, k.same hr rfl⟩
    · obtain ⟨its, rv, hl, _⟩ := I.tuple h1
      rw [L2.Vals.ref1 rx]
      exact sum_tup_raw (I.ok.hd hc) hl rv.ints fun h' tk t' hk => ⟨.int _, H, I.kept hk, ⟨_, rfl⟩, k.same hr rfl⟩
theorem fn_min (hc : X.calm = true) : CallR X (.builtin "min") (cA1 X.K N (b1P .min)) := by
  rintro pins s σ H xs us Q I rx ⟨x, rfl, m, S, p, r, S', hr, dp, e, k⟩
  obtain ⟨e1, rfl⟩ := ofO_ok e
  obtain ⟨mm, e2, rfl⟩ := Option.map_eq_some_iff.mp e1
  cases e3 : lstOf S' p with
  | none => rw [e3] at e2; cases e2
  | some ps =>
    rw [e3, Option.bind_some] at e2
    cases e4 : intsOf ps with
    | none => rw [e4] at e2; cases e2
    | some ns =>
      rw [e4, Option.bind_some] at e2
      obtain ⟨a, vs, rfl, h1, d1⟩ := lstOf_lst hr e3 dp
      have ev := d1.ints e4
      subst ev
      obtain ⟨g1, g2⟩ := minI_mem e2
      refine L2.cr_min hc pins s σ H _ us Q I rx ⟨a, ns, rfl, h1, List.length_pos_of_mem g1, fun y hy hle => ?_⟩
      have : y = mm := Int.le_antisymm (hle mm g1) (g2 y hy)
      subst this
      exact k.same hr rfl
theorem fn_max (hc : X.calm = true) : CallR X (.builtin "max") (cA1 X.K N (b1P .max)) := by
  rintro pins s σ H xs us Q I rx ⟨x, rfl, m, S, p, r, S', hr, dp, e, k⟩
  obtain ⟨e1, rfl⟩ := ofO_ok e
  obtain ⟨mm, e2, rfl⟩ := Option.map_eq_some_iff.mp e1
  cases e3 : lstOf S' p with
  | none => rw [e3] at e2; cases e2
  | some ps =>
    rw [e3, Option.bind_some] at e2
    cases e4 : intsOf ps with
    | none => rw [e4] at e2; cases e2
    | some ns =>
      rw [e4, Option.bind_some] at e2
      obtain ⟨a, vs, rfl, h1, d1⟩ := lstOf_lst hr e3 dp
      have ev := d1.ints e4
      subst ev
      obtain ⟨g1, g2⟩ := maxI_mem e2
      refine L2.cr_max hc pins s σ H _ us Q I rx ⟨a, ns, rfl, h1, List.length_pos_of_mem g1, fun y hy hle => ?_⟩
      have : y = mm := Int.le_antisymm (g2 y hy) (hle mm g1)
      subst this
      exact k.same hr rfl
theorem fn_abs : CallR X (.builtin "abs") (cA1 X.K N (b1P .abs)) := by
  rintro pins s σ H xs us Q I rx ⟨x, rfl, m, S, p, r, S', hr, dp, e, k⟩
  cases p <;> first | (cases e; done) | skip
  cases (show x = _ from dp)
  cases e
  exact L2.call_abs pins s σ H _ us Q I rx ⟨_, rfl, k.same hr rfl⟩
theorem fn_int : CallR X (.type "int") (cA1 X.K N (b1P .int)) := by
  rintro pins s σ H xs us Q I rx ⟨x, rfl, m, S, p, r, S', hr, dp, e, k⟩
  cases p <;> first | (cases e; done) | skip
  · cases (show x = _ from dp)
    cases e
    exact L2.call_int1 pins s σ H _ us Q I rx (.inr ⟨_, rfl, k.same hr rfl⟩)
  · cases (show x = _ from dp)
    cases e
    exact L2.call_int1 pins s σ H _ us Q I rx (.inl ⟨_, rfl, k.same hr rfl⟩)
theorem fn_tuple : CallR X (.type "tuple") (cA1 X.K N (b1P .tuple)) := by
  rintro pins s σ H xs us Q I rx ⟨x, rfl, m, S, p, r, S', hr, dp, e, k⟩
  obtain ⟨e1, rfl⟩ := ofO_ok e
  obtain ⟨ps, e2, rfl⟩ := Option.map_eq_some_iff.mp e1
  cases p <;> first | (cases e2; done) | skip
  · cases e2
    obtain ⟨a, vs, rfl, h1, d1⟩ := dp
    exact L2.call_tuple_of pins s σ H _ us Q I rx ⟨a, vs, rfl, .inr ⟨SqT.of h1, k.same hr ⟨a, vs, rfl, h1, d1⟩⟩⟩
  · obtain ⟨a, vs, rfl, h1, d1⟩ := lstOf_lst hr (show lstOf S' (.rol _) = some ps from e2) dp
    exact L2.call_tuple_of pins s σ H _ us Q I rx ⟨a, vs, rfl, .inl ⟨h1, fun z hz => k.tup hr d1 hz⟩⟩
  · obtain ⟨a, vs, rfl, h1, d1⟩ := lstOf_lst hr (show lstOf S' (.loc _) = some ps from e2) dp
    exact L2.call_tuple_of pins s σ H _ us Q I rx ⟨a, vs, rfl, .inl ⟨h1, fun z hz => k.tup hr d1 hz⟩⟩
theorem Rel.dict {K : PySem.W.Frag} {H : Hp} {m : Mp} {s : S} {i : Nat} {lk : Bool} {kvs : List (P × P)} (r : Rel K N H m s) (h : s[i]? = some (.dct lk kvs)) :
    i < s.length ∧ ((∃ ks : List (Key × V), lkO lk (H (m i)) (.dK ks) ∧ DensD K H m s.length keyP kvs ks) ∨ ∃ ks : List (List Key × V), lkO lk (H (m i)) (.dT ks) ∧ DensD K H m s.length tkeyP kvs ks) :=
  ⟨(List.getElem?_eq_some_iff.mp h).1, r.obj i _ h⟩
theorem fn_len (hc : X.calm = true) : CallR X (.builtin "len") (cA1 X.K N (b1P .len)) := by
  rintro pins s σ H xs us Q I rx ⟨x, rfl, m, S, p, r, S', hr, dp, e, k⟩
  cases p <;> first | (cases e; done) | skip
  · obtain ⟨e1, rfl⟩ := ofO_ok e
    obtain ⟨n, e2, rfl⟩ := Option.map_eq_some_iff.mp e1
    cases (show x = _ from dp)
    simp only [lenP] at e2
    split at e2
    · rename_i hz
      cases e2
      exact L2.call_len_str pins s σ H _ us Q I rx ⟨_, rfl, by rw [SZ_eq]; exact hz, k.same hr rfl⟩
    · cases e2
  · cases e
    obtain ⟨a, vs, rfl, h1, d1⟩ := dp
    exact L2.call_len_seq pins s σ H _ us Q I rx ⟨a, vs, rfl, .inr (SqT.of h1), by rw [← d1.length]; exact k.same hr rfl⟩
  · cases e
    obtain ⟨a, vs, rfl, h1, d1⟩ := lstOf_lst (ps := _) hr rfl dp
    exact L2.call_len_seq pins s σ H _ us Q I rx ⟨a, vs, rfl, .inl h1, by rw [← d1.length]; exact k.same hr rfl⟩
  · rename_i n
    simp only [b1P] at e
    split at e
    · rename_i kvs hn
      cases e
      obtain ⟨_, rfl⟩ := dp
      obtain ⟨_, ⟨ks, f, d⟩ | ⟨ks, f, d⟩⟩ := hr.dict hn
      · have f' : H (m n) = some (.dK ks) := f
        rw [L2.Vals.ref1 rx]
        exact L2.d_len I (.inl f') fun t s' I' => ⟨.int _, H, I', ⟨_, rfl⟩, by rw [← d.length]; exact k.same hr rfl⟩
      · have f' : H (m n) = some (.dT ks) := f
        exact L2.call_len_dT pins s σ H _ us Q I rx ⟨_, ks, rfl, f', by rw [← d.length]; exact k.same hr rfl⟩
    · obtain ⟨e1, rfl⟩ := ofO_ok e
      obtain ⟨n', e2, rfl⟩ := Option.map_eq_some_iff.mp e1
      simp only [lenP] at e2
      split at e2
      · rename_i ys hy
        cases e2
        obtain ⟨_, rfl⟩ := dp
        obtain ⟨_, vs, h1, d1⟩ := hr.lst hy
        exact L2.call_len_seq pins s σ H _ us Q I rx ⟨_, vs, rfl, .inl (SqL.of h1), by rw [← d1.length]; exact k.same hr rfl⟩
      · cases e2
theorem keysD_K {K : PySem.W.Frag} {H : Hp} {m : Mp} {n : Nat} : ∀ {kvs : List (P × P)} {ks : List (Key × V)}, DensD K H m n keyP kvs ks → Dens K H m n (kvs.map (·.1)) (ks.map fun kv => kV kv.1)
  | [], ks, h => by cases (show ks = [] from h); exact rfl
  | (x, y) :: r, ks, h => by
    obtain ⟨k', w, t, rfl, e, d, t'⟩ := h
    refine ⟨_, _, rfl, ?_, keysD_K t'⟩
    cases x <;> first | (cases e; done) | skip
    all_goals (cases e; exact rfl)
theorem keysD_T {K : PySem.W.Frag} {H : Hp} {m : Mp} {n : Nat} : ∀ {kvs : List (P × P)} {ks : List (List Key × V)} {bs : List Addr}, DensD K H m n tkeyP kvs ks → L2.IsKeys H ks bs → Dens K H m n (kvs.map (·.1)) (bs.map V.ref)
  | [], ks, bs, h, h2 => by
    cases (show ks = [] from h)
    cases h2
    exact rfl
  | (x, y) :: r, ks, bs, h, h2 => by
    obtain ⟨k', w, t, rfl, e, d, t'⟩ := h
    cases h2 with
    | cons q1 q2 =>
      refine ⟨_, _, rfl, ?_, keysD_T t' q2⟩
      cases x <;> first | (cases e; done) | skip
      rename_i ps
      refine ⟨_, _, rfl, q1, ?_⟩
      have g : ∀ {ps : List P} {ks : List Key}, KeysP ps = some ks → Dens K H m n ps (ks.map kV) := by
        intro ps
        induction ps with
        | nil => intro ks e; cases e; exact rfl
        | cons p ps ih =>
          intro ks e
          unfold KeysP at e
          cases e1 : keyP p with
          | none => rw [e1] at e; cases e
          | some k =>
            rw [e1, Option.bind_some] at e
            obtain ⟨l, l1, rfl⟩ := Option.map_eq_some_iff.mp e
            refine ⟨_, _, rfl, ?_, ih l1⟩
            cases p <;> first | (cases e1; done) | skip
            all_goals (cases e1; exact rfl)
      exact g e
theorem fn_list (hc : X.calm = true) : CallR X (.type "list") (cA1 X.K N (b1P .list)) := by
  rintro pins s σ H xs us Q I rx ⟨x, rfl, m, S, p, r, S', hr, dp, e, k⟩
  simp only [b1P] at e
  split at e
  · rename_i ps hps
    cases e
    obtain ⟨a, vs, rfl, h1, d1⟩ := seqOf_sq hr hps dp
    exact L2.call_list_of pins s σ H _ us Q I rx ⟨a, vs, rfl, h1, fun z hz => k.lst hr d1 hz⟩
  · cases p <;> first | (cases e; done) | skip
    rename_i n _
    simp only at e
    split at e
    · rename_i kvs hn
      cases e
      obtain ⟨_, rfl⟩ := dp
      obtain ⟨_, ⟨ks, f, d⟩ | ⟨ks, f, d⟩⟩ := hr.dict hn
      · have f' : H (m n) = some (.dK ks) := f
        exact L2.call_list_dK hc pins s σ H _ us Q I rx ⟨_, ks, rfl, f', fun z hz => k.lst hr (keysD_K d) hz⟩
      · have f' : H (m n) = some (.dT ks) := f
        exact L2.call_list_dT hc pins s σ H _ us Q I rx ⟨_, ks, rfl, .inl f', fun z bs hz hb => k.lst hr (keysD_T d hb) hz⟩
    · cases e
theorem fn_max2 (hc : X.calm = true) : CallR X (.builtin "max") (cA2 X.K N (b2P .max)) := by
  rintro pins s σ H xs us Q I rx ⟨x, y, rfl, m, S, p, q, r, S', hr, dp, dq, e, k⟩
  cases p <;> cases q <;> first | (cases e; done) | skip
  cases (show x = _ from dp)
  cases (show y = _ from dq)
  cases e
  exact L2.call_max2 hc pins s σ H _ us Q I rx ⟨_, _, rfl, k.same hr rfl⟩
theorem fn_min2 (hc : X.calm = true) : CallR X (.builtin "min") (cA2 X.K N (b2P .min)) := by
  rintro pins s σ H xs us Q I rx ⟨x, y, rfl, m, S, p, q, r, S', hr, dp, dq, e, k⟩
  cases p <;> cases q <;> first | (cases e; done) | skip
  cases (show x = _ from dp)
  cases (show y = _ from dq)
  cases e
  exact L2.call_min2 hc pins s σ H _ us Q I rx ⟨_, _, rfl, k.same hr rfl⟩
end
end Pa
end
section
set_option maxHeartbeats 2000000
/-! Pa, part H: sorted, dict(pairs), list(d.items()), list(d.keys()), sorted(d.items()), isinstance. -/
namespace Pa
open PySem (Str PyData Addr Value Obj Shared Expr Stmt Pos model wpAny binaryOp inplaceOp compareOp sizeLine cLine CmpOp Operator Heap sysModules DictEntry)
open PySem.W (EachIs)
open L2 (V HO Hp Rd SqL SqT upd upd_same upd_ne VK TE TT TA TS TG TI Ends Cx Inv PE PT PA PS PSs PG PI RelV Vals EP Key kV R2 OpR CallR)
/-- a value of the machine, for an abstract one -/
def DenU (K : PySem.W.Frag) (H : Hp) (m : Mp) (n : Nat) (u : Value) (p : P) : Prop := ∃ x, RelV x u ∧ Den K H m n p x
section
variable {K : PySem.W.Frag} {H : Hp} {m : Mp} {n : Nat}
theorem each_of : ∀ {ps : List P} {vs : List V} {us : List Value}, Dens K H m n ps vs → Vals vs us → EachIs (DenU K H m n) us ps
  | [], vs, us, h, r => by cases (show vs = [] from h); cases r; exact .nil
  | p :: ps, vs, us, h, r => by
    obtain ⟨v, t, rfl, d, h'⟩ := h
    cases r with
    | cons r1 r2 => exact .cons ⟨v, r1, d⟩ (each_of h' r2)
theorem of_each : ∀ {us : List Value} {ps : List P}, EachIs (DenU K H m n) us ps → ∃ vs, Dens K H m n ps vs ∧ Vals vs us
  | _, _, .nil => ⟨[], rfl, .nil⟩
  | _, _, .cons ⟨x, r, d⟩ t => by
    obtain ⟨vs, h1, h2⟩ := of_each t
    exact ⟨x :: vs, ⟨x, vs, rfl, d, h1⟩, .cons r h2⟩
end
section
variable {X : Cx} {N : Nm}
theorem each_reads {pins : List (Addr × Obj)} {s : Shared} {σ : L2.St} {H : Hp} {m : Mp} {n : Nat} (I : Inv X pins σ H s) : ∀ {us : List Value} {ps : List P}, pures? ps = true → EachIs (DenU X.K H m n) us ps → EachIs (fun v b => ∃ as, PySem.Reads s.heap v (pd b) as) us ps
  | _, [], _, h => by cases h; exact .nil
  | _, p :: ps, h, h2 => by
    have e' : (pure? p && pures? ps) = true := h
    rw [Bool.and_eq_true] at e'
    cases h2 with
    | cons q t =>
      obtain ⟨x, r, d⟩ := q
      exact .cons (L2.Dp.reads I _ _ _ (Den.dp _ _ d e'.1) r) (each_reads I e'.2 t)
theorem sortP_some {ps qs : List P} (h : sortP ps = some qs) : pures? ps = true ∧ PySem.W.AllAlike (ps.map pd) ∧ (PySem.W.Sortable (ps.map pd) ∨ ps.map pd = [.tuple []]) ∧ (∀ x ∈ ps, (pd x).depth ≤ 64) ∧ qs = ps.mergeSort (PySem.W.dataLe false pd) := by
  unfold sortP at h
  split at h
  · rename_i c
    cases h
    exact ⟨c.1, c.2.1, c.2.2.1, c.2.2.2, rfl⟩
  · cases h
/-- a new list that stands at a, beyond the heap -/
theorem new_list {pins : List (Addr × Obj)} {s : Shared} {σ : L2.St} {H : Hp} {m : Mp} {S : S} {ps : List P} {ws : List V} {out : List Value} {a : Addr} {h' : Heap} {tk c : Nat} {Q : VK} (I : Inv X pins σ H s) (hr : Rel X.K N H m S) (k : Beh X.K N m H S (.loc S.length) (S ++ [.lst ps]) Q)
    (hk : ∀ b o, s.heap.get? b = some o → h'.get? b = some o) (hp : s.heap.objs.size ≤ a) (ho : h'.get? a = some { cls := .type "list", data := .seq out.toArray c }) (d : Dens X.K H m S.length ps ws) (r : Vals ws out) (hz : ws.length ≤ sizeLine) :
    EP X pins σ Q (.ref a) { s with heap := h', toks := tk } := by
  refine ⟨.ref a, upd H a (.lst ws), I.laid (t' := tk) hk hp ⟨hz, out, c, r, ho⟩, rfl, k.lst hr d (I.hok.fresh hp)⟩
section
open PySem.W PySem.Calls PyProof.Rows
variable {prog : PySem.Program} {w : PySem.World} {A : PySem.Around} {E : Value → Shared → Prop} {s : Shared} {β : Type} {vs : List Value} {bs : List β} {enc : β → PyData} {R : Value → β → Prop}
/-- one empty tuple can be sorted, too -/
theorem sortsAt_unit (e : EachIs (fun v d => ∃ as, PySem.Reads s.heap v d as) vs [.tuple []]) (hu : A.units < cLine) : PySem.W.SortsAt prog w A s (PySem.W.dataKind s.heap [.tuple []]) vs := by
  have hal : PySem.W.AllAlike [.tuple []] := fun d hd d' hd' => by
    rw [List.mem_singleton] at hd hd'
    subst hd; subst hd'
    rfl
  refine ⟨fun v hv => ?_, tuples' false, ?_, fun h2 => ?_⟩
  · obtain ⟨d, hd, as, r⟩ := e.left v hv
    exact ⟨_, dataKind_some hal hd r⟩
  · intro E x y a b Q ha hb hq
    obtain ⟨d, as, hd, ra, rfl⟩ := dataKind_inv ha
    obtain ⟨d', as', hd', rb, rfl⟩ := dataKind_inv hb
    rw [List.mem_singleton] at hd hd'
    subst hd; subst hd'
    have hq' : Q (dataLt (.tuple []) (.tuple [])) s := hq
    rw [dataLt_tuple] at hq'
    cases ra with
    | @tuple l o xs n _ _ h1 h2 h3 h4 =>
      cases rb with
      | @tuple l' o' xs' n' _ _ k1 k2 k3 k4 =>
        have n1 : xs.size = 0 := by simpa using PySem.SeqAt.ReadsAll.length _ _ _ h4
        have n2 : xs'.size = 0 := by simpa using PySem.SeqAt.ReadsAll.length _ _ _ k4
        refine kat_lt h1 h3 k1 k3 (katLex_alike [] [] 0 _ _ _ _ h4 k4 (by simp [alikeAll]) (by simpa [PyData.depthAll] using hu) (fun hb => by cases hb) (by rw [n1, n2]; rfl) hq')
  · have := e.length
    rw [this] at h2
    simp at h2
theorem sorted_dataU {l : Addr} {Q : Value → Shared → Prop} (hl : s.heap.IsList l vs.toArray) (e : EachIs R vs bs) (er : EachIs (fun v b => ∃ as, PySem.Reads s.heap v (enc b) as) vs bs) (hal : PySem.W.AllAlike (bs.map enc)) (hk : PySem.W.Sortable (bs.map enc) ∨ bs.map enc = [.tuple []]) (hL : bs.length ≤ sizeLine)
    (hu : ∀ b, b ∈ bs → A.units + 2 + (enc b).depth < cLine) (h : ∀ out, out.length = bs.length → EachIs R out (bs.mergeSort (PySem.W.dataLe false enc)) → Q (.ref (s.heap.objs.size + 1)) { s with heap := sortedAll s.heap vs (List.toArray out) }) :
    wpAny (model prog w) A (PySem.call (.builtin "sorted") [.ref l]) Q E s := by
  rcases hk with hk | hk
  · exact PySem.W.sorted_data hl e er hal hk hL hu h
  · have er' : EachIs (fun v b => ∃ as, PySem.Reads (sortingHeap (copyHeap s.heap vs) (s.heap.objs.size + 1) vs) v (enc b) as) vs bs := er.mono fun _ _ ⟨as, r⟩ => ⟨as, PyProof.Rows.Reads.keeps (fun _ _ => sorting_copy_old) r⟩
    have ee := each_map (R := fun v d => ∃ as, PySem.Reads (sortingHeap (copyHeap s.heap vs) (s.heap.objs.size + 1) vs) v d as) enc er'
    have hv := sortVals_data (rev := false) e er' hal
    rw [hk] at ee hv
    have hb : ∃ b, b ∈ bs := by
      cases bs with
      | nil => simp at hk
      | cons b r => exact ⟨b, List.mem_cons_self ..⟩
    obtain ⟨b, hb⟩ := hb
    have := hu b hb
    refine sorted_vals hl (sortsAt_unit (s := { s with heap := sortingHeap (copyHeap s.heap vs) (s.heap.objs.size + 1) vs }) ee (by show A.units + 2 < cLine; omega)) (by rw [e.length]; exact hL) (h _ (by rw [sortVals_length false rfl]; exact e.length) hv)
end
theorem fn_sorted (hu : X.A.units + 100 < cLine) : CallR X (.builtin "sorted") (cA1 X.K N (b1P .sorted)) := by
  rintro pins s σ H xs us Q I rx ⟨x, rfl, m, S, p, r, S', hr, dp, e, k⟩
  simp only [b1P] at e
  split at e
  · rename_i qs hqs
    cases e
    cases e3 : lstOf S p with
    | none => rw [e3] at hqs; cases hqs
    | some ps =>
      rw [e3, Option.bind_some] at hqs
      obtain ⟨c1, c2, c3, c4, rfl⟩ := sortP_some hqs
      obtain ⟨a, vs, rfl, h1, d1⟩ := lstOf_lst hr e3 dp
      obtain ⟨its, rv, hl, hz⟩ := I.list h1
      rw [L2.Vals.ref1 rx]
      have E1 := each_of d1 rv
      have lp := d1.length
      refine sorted_dataU (enc := pd) hl.isList E1 (each_reads I c1 E1) c2 c3 (by rw [lp]; exact hz) (fun b hb => by have := c4 b hb; omega) fun out ho eo => ?_
      obtain ⟨ws, dw, rw'⟩ := of_each eo
      obtain ⟨c, hc⟩ := PyProof.Rows.sortedAll_at s.heap its out.toArray
      refine new_list I hr k (fun b o h => PyProof.Rows.sortedAll_old h) (Nat.le_succ _) hc dw rw' ?_
      rw [← dw.length, List.length_mergeSort, lp]
      exact hz
  · cases e

/-! ### dict(pairs) -/
theorem nodup_putK {κ : Type} [DecidableEq κ] {ks : List (κ × V)} {k : κ} {v : V} (h : (ks.map (·.1)).Nodup) : ((L2.putK ks k v).map (·.1)).Nodup := by
  unfold L2.putK
  split
  · have e : (ks.map fun kv => if kv.1 = k then (kv.1, v) else kv).map (·.1) = ks.map (·.1) := by
      rw [List.map_map]
      refine List.map_congr_left fun z _ => ?_
      show (if z.1 = k then (z.1, v) else z).1 = z.1
      split <;> rfl
    rw [e]
    exact h
  · rename_i hn
    rw [List.map_append, List.nodup_append]
    refine ⟨h, by simp, fun x hx y hy => ?_⟩
    simp only [List.map_cons, List.map_nil, List.mem_singleton] at hy
    subst hy
    intro e
    subst e
    refine hn (List.any_eq_true.mpr ?_)
    obtain ⟨z, hz, hz2⟩ := List.mem_map.mp hx
    exact ⟨z, hz, decide_eq_true hz2⟩
structure PRec where
  T : Addr
  ks : List Key
  b : Addr
  y : V
  u : Value
theorem pairs_ex {pins : List (Addr × Obj)} {s : Shared} {σ : L2.St} {H : Hp} {m : Mp} {n : Nat} (I : Inv X pins σ H s) : ∀ {ps : List P} {vs : List V} {kvs : List (P × P)}, Dens X.K H m n ps vs → pairsOf ps = some kvs → (kvs.all fun kv => tupK kv.1) = true →
    ∃ rs : List PRec, vs = rs.map (fun r => V.ref r.T) ∧ DensD X.K H m n tkeyP kvs (rs.map fun r => (r.ks, r.y)) ∧ ∀ r ∈ rs, PyProof.Rows.IsTup s.heap r.T #[.ref r.b, r.u] ∧ H r.b = some (.tup (r.ks.map kV)) ∧ RelV r.y r.u
  | [], vs, kvs, h, e, _ => by
    cases (show vs = [] from h)
    cases e
    exact ⟨[], rfl, rfl, fun r hr => absurd hr (by simp)⟩
  | p :: ps, vs, kvs, h, e, hk => by
    obtain ⟨v, t, rfl, d, h'⟩ := h
    unfold pairsOf at e
    split at e
    · rename_i z; cases z
    · rename_i a c ps' hps
      cases hps
      obtain ⟨l, l1, rfl⟩ := Option.map_eq_some_iff.mp e
      rw [List.all_cons, Bool.and_eq_true] at hk
      obtain ⟨rs, e1, e2, e3⟩ := pairs_ex I h' l1 hk.2
      obtain ⟨T, ws, rfl, hT, dw⟩ := d
      obtain ⟨x, t1, rfl, dx, dw⟩ := dw
      obtain ⟨y, t2, rfl, dy, dw⟩ := dw
      cases (show t2 = [] from dw)
      obtain ⟨ks, hks⟩ := tupK_key hk.1
      cases a <;> first | (cases hks; done) | skip
      obtain ⟨b, zs, rfl, hb, dz⟩ := dx
      have ez := Dens.keys dz hks
      subst ez
      obtain ⟨its, r, ht, _⟩ := I.tuple (SqT.of hT)
      obtain ⟨u1, u2, rfl, ru1, ru2⟩ := L2.vals2 r
      cases (show u1 = Value.ref b from ru1)
      refine ⟨⟨T, ks, b, y, u2⟩ :: rs, by rw [List.map_cons, ← e1], ⟨ks, y, _, rfl, hks, dy, e2⟩, fun r hr => ?_⟩
      rcases List.mem_cons.mp hr with rfl | hr
      · exact ⟨ht, hb, ru2⟩
      · exact e3 r hr
    · cases e
theorem merge_rel {K : PySem.W.Frag} {H : Hp} {m : Mp} {n : Nat} : ∀ {kvs : List (P × P)} {ks : List (List Key × V)} {acc : List (P × P)} {ak : List (List Key × V)}, DensD K H m n tkeyP kvs ks → DensD K H m n tkeyP acc ak → (ak.map (·.1)).Nodup →
    DensD K H m n tkeyP (mergeP acc kvs) (ks.foldl (fun a p => L2.putK a p.1 p.2) ak)
  | [], ks, acc, ak, h, h2, _ => by cases (show ks = [] from h); exact h2
  | (x, y) :: r, ks, acc, ak, h, h2, nd => by
    obtain ⟨k, v, t, rfl, e, d, t'⟩ := h
    exact merge_rel (kvs := r) (ks := t) (acc := dput acc x y) t' (DensD.put (fun h h2 => tkeyP_inj h h2) e d nd h2) (nodup_putK nd)
theorem kt_merge {H : Hp} : ∀ {rs : List PRec} {acc : List (List Key × V)} {xs : List (List Key × Addr × Value)}, (∀ r ∈ rs, H r.b = some (.tup (r.ks.map kV)) ∧ RelV r.y r.u) → L2.KT H acc xs →
    L2.KT H ((rs.map fun r => (r.ks, r.y)).foldl (fun a p => L2.putK a p.1 p.2) acc) (PySem.storedAllH xs (rs.map fun r => (r.ks, r.b, r.u)))
  | [], _, _, _, h => h
  | r :: rs, acc, xs, hr, h => by
    obtain ⟨h1, h2⟩ := hr r (List.mem_cons_self ..)
    exact kt_merge (rs := rs) (fun q hq => hr q (List.mem_cons_of_mem _ hq)) (h.put r.ks h1 h2)
theorem len_merge {ks : List (List Key × V)} : ∀ {acc : List (List Key × V)}, (ks.foldl (fun a p => L2.putK a p.1 p.2) acc).length ≤ acc.length + ks.length := by
  induction ks with
  | nil => intro acc; exact Nat.le_refl _
  | cons p ks ih =>
    intro acc
    have h1 := ih (acc := L2.putK acc p.1 p.2)
    have h2 := L2.length_putK acc p.1 p.2
    rw [List.foldl_cons, List.length_cons]
    omega
theorem fn_dict (hc : X.calm = true) (hu : X.A.units + 100 < cLine) : CallR X (.type "dict") (cA1 X.K N (b1P .dict)) := by
  rintro pins s σ H xs us Q I rx ⟨x, rfl, m, S, p, r, S', hr, dp, e, k⟩
  simp only [b1P] at e
  split at e
  · rename_i kvs hkv
    split at e
    · rename_i htup
      cases e
      cases e3 : lstOf S p with
      | none => rw [e3] at hkv; cases hkv
      | some ps =>
        rw [e3, Option.bind_some] at hkv
        obtain ⟨a, vs, rfl, h1, d1⟩ := lstOf_lst hr e3 dp
        obtain ⟨its, rv, hl, hz⟩ := I.list h1
        rw [L2.Vals.ref1 rx]
        obtain ⟨rs, rfl, e2, e3'⟩ := pairs_ex I d1 hkv htup
        have hits : its = rs.map fun r => Value.ref r.T := by
          have g : ∀ (rs : List PRec) (its : List Value), Vals (rs.map fun r => V.ref r.T) its → its = rs.map fun r => Value.ref r.T := by
            intro rs
            induction rs with
            | nil => intro its h; cases h; rfl
            | cons r rs ih =>
              intro its h
              cases h with
              | cons q1 q2 =>
                cases q1
                rw [List.map_cons, ih _ q2]
          exact g rs its rv
        subst hits
        have lrs : rs.length ≤ sizeLine := by simpa using hz
        let Ts : Nat → Addr := fun j => ((rs[j]?).map (·.T)).getD 0
        have okA : PySem.PlainSeq "list" s.heap a (rs.map fun r => Value.ref r.T).toArray := by
          obtain ⟨o, n, ho, hcl, hd, hdat⟩ := hl
          exact ⟨o, n, ho, hcl, hd, hdat⟩
        have okB : PySem.PairItems s.heap (rs.map fun r => Value.ref r.T).toArray Ts (rs.map fun r => (Value.ref r.b, r.u)) := by
          refine ⟨by simp, fun j kk v hj => ?_⟩
          rw [List.getElem?_map] at hj
          obtain ⟨r, hr1, hr2⟩ := Option.map_eq_some_iff.mp hj
          cases hr2
          have hT : Ts j = r.T := by show ((rs[j]?).map (·.T)).getD 0 = r.T; rw [hr1]; rfl
          rw [hT]
          refine ⟨by simp [hr1], .inl ?_⟩
          exact (e3' r (List.mem_of_getElem? hr1)).1
        have keyis : ∀ (h' : Heap), (∀ b o vs n, s.heap.get? b = some o → o.data = .seq vs n → h'.get? b = some o) → ∀ x ∈ (rs.map fun r => (r.ks, r.b, r.u)), (PySem.tupleKind (L2.mixKind X.prog X.w)).is h' x.1 x.2.1 := fun h' hk x hx => by
          obtain ⟨r, hr1, rfl⟩ := List.mem_map.mp hx
          exact (PySem.tupleKind_stays (knd := L2.mixKind X.prog X.w)).stays hk (L2.key_of I.hok (e3' r hr1).2.1)
        refine PySem.call_dict_pairsH (knd := PySem.tupleKind (L2.mixKind X.prog X.w)) (ps := rs.map fun r => (r.ks, r.b, r.u)) (PySem.PairArg.list a _ Ts (rs.map fun r => (Value.ref r.b, r.u))) (I.ok.hd hc)
          (show X.A.units + 2 < cLine by omega) ⟨okA, okB⟩ ⟨by simp, fun i key v hrel => ?_⟩ (fun h' hk x hx => keyis h' (fun b o vs n ho hd => hk b o (Nat.ne_of_lt (Heap.lt_size ho)) (fun z => nomatch z) ho) x hx) (by simpa using lrs) fun h' tk dd hk => ?_
        · have hrel' : (rs.map fun r => (Value.ref r.b, r.u))[i]? = some (key, v) := hrel
          rw [List.getElem?_map] at hrel'
          obtain ⟨r, hr1, hr2⟩ := Option.map_eq_some_iff.mp hrel'
          cases hr2
          exact ⟨r.ks, r.b, by simp [hr1], rfl⟩
        · have hk' : ∀ b o, s.heap.get? b = some o → h'.get? b = some o := fun b o ho => hk b o (fun z => nomatch z) ho
          obtain ⟨q0, es, ep, hq, h2, h3, h4, _, h5⟩ := dd
          have hn : H s.heap.objs.size = none := I.hok.fresh (Nat.le_refl _)
          have hKT := kt_merge (H := H) (acc := []) (xs := []) (fun r hr1 => (e3' r hr1).2) .nil
          have lm := len_merge (ks := rs.map fun r => (r.ks, r.y)) (acc := [])
          refine ⟨.ref s.heap.objs.size, upd H s.heap.objs.size (.dT ((rs.map fun r => (r.ks, r.y)).foldl (fun a p => L2.putK a p.1 p.2) [])), I.laid (t' := tk) hk' (Nat.le_refl _) ⟨?_, ?_, _, ?_, q0, es, ep, hq, h2, h3, h4, h5⟩, rfl, ?_⟩
          · simp only [List.length_nil, List.length_map, Nat.zero_add] at lm
            omega
          · exact beq_eq_false_iff_ne.mpr (Nat.ne_of_gt (L2.Inv.big I))
          · exact hKT.keeps fun c ys ec => by rw [upd_ne (L2.ne_of_none ec hn)]; exact ec
          · exact k.push hr hn (.inr ⟨_, upd_same, (merge_rel e2 (acc := []) rfl (by simp)).ext (Ext.push hr hn) hr.ne⟩)
    · cases e
  · cases e
end
end Pa
end
section
set_option maxHeartbeats 2000000
/-! Pa, part I: what a dict holds, its items and keys as lists; isinstance. -/
namespace Pa
open PySem (Str PyData Addr Value Obj Shared Expr Stmt Pos model wpAny binaryOp inplaceOp compareOp sizeLine cLine CmpOp Operator Heap sysModules DictEntry)
open PySem.W (EachIs)
open L2 (V HO Hp Rd SqL SqT upd upd_same upd_ne VK TE TT TA TS TG TI Ends Cx Inv PE PT PA PS PSs PG PI RelV Vals EP Key kV R2 OpR CallR)
/-- the entries of a dict are these pairs -/
def Ents (K : PySem.W.Frag) (H : Hp) (m : Mp) (n : Nat) (kvs : List (P × P)) (es : Array DictEntry) : Prop :=
  es.size = kvs.length ∧ ∀ (i : Nat) (hi : i < es.size), ∃ p q x y, kvs[i]? = some (p, q) ∧ RelV x es[i].key ∧ RelV y es[i].val ∧ Den K H m n p x ∧ Den K H m n q y
section
variable {K : PySem.W.Frag} {H : Hp} {m : Mp} {n : Nat}
theorem DensD.at {κ : Type} {f : P → Option κ} : ∀ {kvs : List (P × P)} {ks : List (κ × V)} {i : Nat} {k : κ} {v : V}, DensD K H m n f kvs ks → ks[i]? = some (k, v) → ∃ p q, kvs[i]? = some (p, q) ∧ f p = some k ∧ Den K H m n q v
  | [], ks, i, k, v, h, e => by cases (show ks = [] from h); simp at e
  | (x, y) :: r, ks, i, k, v, h, e => by
    obtain ⟨k', w, t, rfl, e1, d, t'⟩ := h
    cases i with
    | zero => cases e; exact ⟨x, y, rfl, e1, d⟩
    | succ i => exact DensD.at (i := i) t' e
theorem keyP_den {p : P} {k : Key} (e : keyP p = some k) : Den K H m n p (kV k) := by
  cases p <;> first | (cases e; done) | skip
  all_goals (cases e; exact rfl)
theorem KeysP_den : ∀ {ps : List P} {ks : List Key}, KeysP ps = some ks → Dens K H m n ps (ks.map kV)
  | [], ks, e => by cases e; exact rfl
  | p :: ps, ks, e => by
    unfold KeysP at e
    cases e1 : keyP p with
    | none => rw [e1] at e; cases e
    | some k =>
      rw [e1, Option.bind_some] at e
      obtain ⟨l, l1, rfl⟩ := Option.map_eq_some_iff.mp e
      exact ⟨_, _, rfl, keyP_den e1, KeysP_den l1⟩
theorem tkeyP_den {p : P} {k : List Key} {b : Addr} (e : tkeyP p = some k) (hb : H b = some (.tup (k.map kV))) : Den K H m n p (.ref b) := by
  cases p <;> first | (cases e; done) | skip
  exact ⟨b, _, rfl, hb, KeysP_den e⟩
end
section
variable {X : Cx} {N : Nm} {pins : List (Addr × Obj)} {s : Shared} {σ : L2.St} {H : Hp} {m : Mp} {S : S}
theorem ents_of {i : Nat} {lk : Bool} {kvs : List (P × P)} (I : Inv X pins σ H s) (hr : Rel X.K N H m S) (hn : S[i]? = some (.dct lk kvs)) :
    ∃ es ep, s.heap.DictRaw (m i) es ep ∧ (m i == sysModules) = false ∧ es.size ≤ sizeLine ∧ Ents X.K H m S.length kvs es := by
  rcases hr.dict hn with ⟨_, ⟨ks, f, d⟩ | ⟨ks, f, d⟩⟩
  · obtain ⟨z, hd, vs, rel, dd⟩ := L2.dk_rd I.hok f.rd
    obtain ⟨es, ep, h1, h2, h3⟩ := dd.raw
    have l1 := rel.length
    refine ⟨es, ep, h1, hd, by omega, by rw [h2, ← l1, d.length], fun j hj => ?_⟩
    have hjk : j < ks.length := by omega
    obtain ⟨⟨k, v⟩, hkv⟩ : ∃ p, ks[j]? = some p := ⟨ks[j], List.getElem?_eq_getElem hjk⟩
    obtain ⟨u, hu, ru⟩ := L2.kv_get rel hkv
    obtain ⟨h4, h5⟩ := h3 j hj k u hu
    obtain ⟨p, q, e1, e2, dq⟩ := d.at hkv
    refine ⟨p, q, kV k, v, e1, L2.relV_key (show L2.keyIs k _ = true from h4), by rw [h5]; exact ru, keyP_den e2, dq⟩
  · obtain ⟨z, hd, xs, rel, dd⟩ := L2.dt_rd I.hok f.rd
    obtain ⟨es, ep, h1, h2, h3⟩ := dd.raw
    have l1 : ks.length = xs.length := PySem.Paired.length rel
    refine ⟨es, ep, h1, hd, by omega, by rw [h2, ← l1, d.length], fun j hj => ?_⟩
    obtain ⟨y, g1, g2, g3, g4⟩ := h3 j hj
    have hjk : j < ks.length := by omega
    obtain ⟨⟨k, v⟩, hkv⟩ : ∃ p, ks[j]? = some p := ⟨ks[j], List.getElem?_eq_getElem hjk⟩
    obtain ⟨y', hy', r1, r2, r3⟩ := L2.paired_get rel hkv
    rw [g1] at hy'
    cases hy'
    obtain ⟨p, q, e1, e2, dq⟩ := d.at hkv
    refine ⟨p, q, .ref y.2.1, v, e1, by rw [g2]; exact rfl, by rw [g3]; exact r3, tkeyP_den e2 r2, dq⟩

/-! ### the views -/
def rView (K : PySem.W.Frag) (N : Nm) (o : Addr → Addr → HO) : V → List V → Hp → VK → Prop := fun x xs H Q => xs = [] ∧ ∃ m S n kvs, x = .ref (m n) ∧ Rel K N H m S ∧ S[n]? = some (.dct false kvs) ∧ ∀ p, H p = none → Q (.ref p) (upd H p (o p (m n)))
theorem mt_items : L2.MtR X "dict.items" (rView X.K N L2.DX.itemsO) := by
  rintro pins s σ H x xs v us Q I rx rxs ⟨rfl, m, S, n, kvs, rfl, hr, hn, k⟩
  cases rx
  cases rxs
  obtain ⟨es, ep, h1, hd, _, _⟩ := ents_of I hr hn
  refine DT.callItems (es := es) (ep := ep) hd h1 ?_
  have hf : H s.heap.objs.size = none := I.hok.fresh (Nat.le_refl _)
  exact ⟨.ref s.heap.objs.size, _, I.laid (t' := s.toks) (fun b u e => Heap.get?_push_of_some _ e) (Nat.le_refl _) (L2.DX.itemsO_ok (Heap.get?_push_size _ rfl)), rfl, k _ hf⟩
def keysO (p d : Addr) : HO := .ext fun h => PySem.W.KdlKeysView h p d
theorem keysO_ok {Pg : PySem.Program} {w : PySem.World} {H : Hp} {h : Heap} {p d : Addr} (e : h.get? p = some { cls := .type "dict_keys", data := .fields #[.ref d] }) : L2.ObjOk Pg w H h p (keysO p d) :=
  ⟨⟨_, e, rfl, rfl⟩, ⟨_, e⟩, fun h1 h2 x k => let ⟨o, ho, r⟩ := x; ⟨o, k o ho, r⟩⟩
theorem mt_keys : L2.MtR X "dict.keys" (rView X.K N keysO) := by
  rintro pins s σ H x xs v us Q I rx rxs ⟨rfl, m, S, n, kvs, rfl, hr, hn, k⟩
  cases rx
  cases rxs
  obtain ⟨es, ep, h1, hd, _, _⟩ := ents_of I hr hn
  have hf : H s.heap.objs.size = none := I.hok.fresh (Nat.le_refl _)
  refine PySem.call_meetsIn PySem.F.slot_dict_keys h1.typeIs PySem.F.entry_dict_keys (PySem.F.args_dict_keys_1 _) (PySem.meets_dict_keys_raw (m n) hd) ⟨⟨es, ep, h1⟩, ?_⟩
  exact ⟨.ref s.heap.objs.size, _, I.laid (t' := s.toks) (fun b u e => Heap.get?_push_of_some _ e) (Nat.le_refl _) (keysO_ok (Heap.get?_push_size _ rfl)), rfl, k _ hf⟩
/-- things that were laid, tracked one by one -/
theorem take_all {H0 : Hp} {h' : Heap} {tk : Nat} {P : Addr → List V → Prop} (I0 : Inv X pins σ H0 s) : ∀ (L : List Addr) (H1 : Hp), Inv X pins σ H1 { s with heap := h', toks := tk } → L.Nodup →
    (∀ a ∈ L, s.heap.objs.size ≤ a ∧ H1 a = none ∧ ∃ vs, P a vs ∧ ∀ H2, L2.ObjOk X.prog X.w H2 h' a (.tup vs)) →
    ∃ H2, Inv X pins σ H2 { s with heap := h', toks := tk } ∧ (∀ b o, H1 b = some o → H2 b = some o) ∧ (∀ b, b ∉ L → H2 b = H1 b) ∧ ∀ a ∈ L, ∃ vs, P a vs ∧ H2 a = some (.tup vs)
  | [], H1, I1, _, _ => ⟨H1, I1, fun _ _ e => e, fun _ _ => rfl, fun _ h => nomatch h⟩
  | a :: L, H1, I1, hn, h => by
    obtain ⟨hb, hnone, vs, hP, ok⟩ := h a (List.mem_cons_self ..)
    have I2 : Inv X pins σ (upd H1 a (.tup vs)) { s with heap := h', toks := tk } := I1.take (h' := h') (t' := tk) (fun b ob _ e => e) (I0.fpOk hb hnone) (ok _)
    rw [List.nodup_cons] at hn
    obtain ⟨H2, I3, g, off, q⟩ := take_all I0 L (upd H1 a (.tup vs)) I2 hn.2 fun c hc => by
      obtain ⟨c1, c2, c3⟩ := h c (List.mem_cons_of_mem _ hc)
      exact ⟨c1, by rw [upd_ne (fun z => hn.1 (by rw [← z]; exact hc))]; exact c2, c3⟩
    refine ⟨H2, I3, fun b o e => g b o (by rw [upd_ne (L2.ne_of_none e hnone)]; exact e), fun b hb2 => ?_, fun c hc => ?_⟩
    · rw [List.mem_cons, not_or] at hb2
      rw [off b hb2.2, upd_ne hb2.1]
    · rcases List.mem_cons.mp hc with rfl | hc
      · exact ⟨vs, hP, g _ _ upd_same⟩
      · exact q c hc
/-- the items as tuples that were laid: all tracked -/
theorem take_items {kvs : List (P × P)} {es : Array DictEntry} {as : List Addr} {h' : Heap} {tk : Nat} (I : Inv X pins σ H s) (hr : Rel X.K N H m S) (E : Ents X.K H m S.length kvs es)
    (hk : ∀ b o, s.heap.get? b = some o → h'.get? b = some o) (hl : as.length = es.size) (rise : as.Pairwise (· < ·)) (above : ∀ a ∈ as, s.heap.objs.size ≤ a)
    (prs : ∀ (j : Nat) (a : Addr), as[j]? = some a → ∃ hj : j < es.size, h'.get? a = some { cls := .type "tuple", data := .seq #[es[j].key, es[j].val] }) :
    ∃ H2, Inv X pins σ H2 { s with heap := h', toks := tk } ∧ (∀ b o, H b = some o → H2 b = some o) ∧ (∀ b, b ∉ as → H2 b = H b) ∧ Dens X.K H2 m S.length (kvs.map fun kv => .tup [kv.1, kv.2]) (as.map V.ref) := by
  have nd : as.Nodup := List.Pairwise.imp (fun {a b} (h : a < b) => Nat.ne_of_lt h) rise
  have I1 : Inv X pins σ H { s with heap := h', toks := tk } := I.kept hk
  obtain ⟨H2, I2, g, off, q⟩ := take_all (P := fun a vs => ∃ j p q x y, as[j]? = some a ∧ kvs[j]? = some (p, q) ∧ vs = [x, y] ∧ Den X.K H m S.length p x ∧ Den X.K H m S.length q y) I as H I1 nd fun a ha => by
    obtain ⟨j, hj⟩ := List.getElem?_of_mem ha
    obtain ⟨hj2, ho⟩ := prs j a hj
    obtain ⟨p, q, x, y, e1, r1, r2, d1, d2⟩ := E.2 j hj2
    exact ⟨above a ha, I.hok.fresh (above a ha), [x, y], ⟨j, p, q, x, y, hj, e1, rfl, d1, d2⟩, fun H2 => ⟨by show 2 ≤ sizeLine; decide, [es[j].key, es[j].val], .cons r1 (.cons r2 .nil), ⟨_, ho, rfl, _, rfl⟩⟩⟩
  refine ⟨H2, I2, g, off, ?_⟩
  have x1 : Ext S.length H m S.length H2 m := Ext.grow g
  have lk : kvs.length = as.length := by rw [hl, E.1]
  have G : ∀ (k : Nat), k ≤ as.length → Dens X.K H2 m S.length ((kvs.map fun kv => P.tup [kv.1, kv.2]).drop (as.length - k)) ((as.map V.ref).drop (as.length - k)) := by
    intro k
    induction k with
    | zero =>
      intro _
      rw [Nat.sub_zero, List.drop_eq_nil_of_le (by simp [lk]), List.drop_eq_nil_of_le (by simp)]
      exact rfl
    | succ k ih =>
      intro hk'
      have hj : as.length - (k + 1) < as.length := by omega
      have e1 : (as.map V.ref).drop (as.length - (k + 1)) = V.ref as[as.length - (k + 1)] :: (as.map V.ref).drop (as.length - k) := by
        rw [List.drop_eq_getElem_cons (by simp; omega), List.getElem_map]
        congr 2
        omega
      have hj2 : as.length - (k + 1) < kvs.length := by omega
      have e2 : (kvs.map fun kv => P.tup [kv.1, kv.2]).drop (as.length - (k + 1)) = P.tup [kvs[as.length - (k + 1)].1, kvs[as.length - (k + 1)].2] :: (kvs.map fun kv => P.tup [kv.1, kv.2]).drop (as.length - k) := by
        rw [List.drop_eq_getElem_cons (by simp; omega), List.getElem_map]
        congr 2
        omega
      rw [e1, e2]
      refine ⟨_, _, rfl, ?_, ih (by omega)⟩
      obtain ⟨vs, ⟨j, p, q', x, y, h1, h2, rfl, d1, d2⟩, h3⟩ := q _ (List.getElem_mem hj)
      have hjj : as.length - (k + 1) = j := (List.getElem?_inj hj nd).mp (by rw [h1, List.getElem?_eq_getElem hj])
      subst hjj
      rw [List.getElem?_eq_getElem hj2] at h2
      have h2' := Option.some.inj h2
      rw [h2']
      exact ⟨_, _, rfl, h3, ⟨x, _, rfl, hr.den x1 d1, y, _, rfl, hr.den x1 d2, rfl⟩⟩
  have := G as.length (Nat.le_refl _)
  rw [Nat.sub_self, List.drop_zero, List.drop_zero] at this
  exact this
theorem Beh.grow {K : PySem.W.Frag} {p : P} {s' : Pa.S} {Q : VK} {H2 : Hp} (k : Beh K N m H S p s' Q) (g : ∀ b o, H b = some o → H2 b = some o) : Beh K N m H2 S p s' Q :=
  fun v H' m' r x d => k v H' m' r ((Ext.grow g).trans x) d
theorem vals_refs : ∀ as : List Addr, Vals (as.map V.ref) (as.map Value.ref)
  | [] => .nil
  | a :: as => .cons rfl (vals_refs as)
/-- a list of the items of a dict, laid at D -/
theorem items_end {kvs : List (P × P)} {es : Array DictEntry} {as : List Addr} {h' : Heap} {tk c : Nat} {D : Addr} {Q : VK} (I : Inv X pins σ H s) (hr : Rel X.K N H m S) (E : Ents X.K H m S.length kvs es)
    (k : Beh X.K N m H S (.loc S.length) (S ++ [.lst (kvs.map fun kv => .tup [kv.1, kv.2])]) Q) (hz : es.size ≤ sizeLine)
    (hk : ∀ b o, s.heap.get? b = some o → h'.get? b = some o) (hl : as.length = es.size) (rise : as.Pairwise (· < ·)) (above : ∀ a ∈ as, s.heap.objs.size ≤ a)
    (prs : ∀ (j : Nat) (a : Addr), as[j]? = some a → ∃ hj : j < es.size, h'.get? a = some { cls := .type "tuple", data := .seq #[es[j].key, es[j].val] })
    (hD : s.heap.objs.size ≤ D) (hDn : D ∉ as) (ho : h'.get? D = some { cls := .type "list", data := .seq (as.map Value.ref).toArray c }) : EP X pins σ Q (.ref D) { s with heap := h', toks := tk } := by
  obtain ⟨H2, I2, g, off, d2⟩ := take_items (tk := tk) I hr E hk hl rise above prs
  have hf : H2 D = none := by rw [off D hDn]; exact I.hok.fresh hD
  refine ⟨.ref D, upd H2 D (.lst (as.map V.ref)), I2.take (h' := h') (t' := tk) (fun b ob _ e => e) (I.fpOk hD hf) ⟨by rw [List.length_map, hl]; exact hz, as.map Value.ref, c, vals_refs as, ho⟩, rfl, ?_⟩
  exact (k.grow g).lst (hr.grow g) d2 hf
theorem list_items (hc : X.calm = true) : CallR X (.type "list") (fun xs H Q => ∃ p m S n kvs, xs = [.ref p] ∧ H p = some (L2.DX.itemsO p (m n)) ∧ Rel X.K N H m S ∧ S[n]? = some (.dct false kvs) ∧ Beh X.K N m H S (.loc S.length) (S ++ [.lst (kvs.map fun kv => .tup [kv.1, kv.2])]) Q) := by
  rintro pins s σ H xs us Q I rx ⟨p, m, S, n, kvs, rfl, hp, hr, hn, k⟩
  rw [L2.Vals.ref1 rx]
  obtain ⟨es, ep, h1, hd, hz, E⟩ := ents_of I hr hn
  have hv : s.heap.IsItemsView p (m n) := (I.hok _ _ hp).1
  refine PySem.W.dil_call (I.ok.hd hc) hv h1 hz fun h' tk acc c as hk hD hl G hacc => ?_
  have ea : acc = (as.map Value.ref).toArray := by rw [← hacc, Array.toArray_toList]
  subst ea
  exact items_end I hr E k hz hk hl G.rise (fun a ha => Nat.le_of_lt (G.above a ha)) G.pairs (Nat.le_refl _) (fun z => Nat.lt_irrefl _ (G.above _ z)) hD
theorem list_keys (hc : X.calm = true) : CallR X (.type "list") (fun xs H Q => ∃ p m S n kvs, xs = [.ref p] ∧ H p = some (keysO p (m n)) ∧ Rel X.K N H m S ∧ S[n]? = some (.dct false kvs) ∧ Beh X.K N m H S (.loc S.length) (S ++ [.lst (kvs.map (·.1))]) Q) := by
  rintro pins s σ H xs us Q I rx ⟨p, m, S, n, kvs, rfl, hp, hr, hn, k⟩
  rw [L2.Vals.ref1 rx]
  obtain ⟨es, ep, h1, hd, hz, E⟩ := ents_of I hr hn
  have hv : PySem.W.KdlKeysView s.heap p (m n) := (I.hok _ _ hp).1
  refine PySem.W.kdl_call (PySem.KdlSrc.rawKeys (es := es) (ep := ep)) (I.ok.hd hc) ⟨hv, h1⟩ hz fun h' tk acc c hk hD hit => ?_
  have G : ∃ ws, Dens X.K H m S.length (kvs.map (·.1)) ws ∧ Vals ws acc.toList := by
    have ha : acc.toList = es.toList.map (·.key) := by
      apply List.ext_getElem?
      intro j
      rw [List.getElem?_map, Array.getElem?_toList, Array.getElem?_toList]
      by_cases hj : j < es.size
      · have hj0 : j < acc.size := by rw [hit.1]; exact hj
        obtain ⟨hj', hv2⟩ := hit.2 j acc[j] (Array.getElem?_eq_getElem hj0)
        rw [Array.getElem?_eq_getElem hj0, hv2, Array.getElem?_eq_getElem hj]
        rfl
      · rw [Array.getElem?_eq_none (by rw [hit.1]; omega), Array.getElem?_eq_none (by omega)]
        rfl
    rw [ha]
    have G2 : ∀ (k : Nat), k ≤ es.size → ∃ ws, Dens X.K H m S.length ((kvs.map (·.1)).drop (es.size - k)) ws ∧ Vals ws ((es.toList.map (·.key)).drop (es.size - k)) := by
      intro k
      induction k with
      | zero =>
        intro _
        rw [Nat.sub_zero, List.drop_eq_nil_of_le (by simp [E.1]), List.drop_eq_nil_of_le (by simp)]
        exact ⟨[], rfl, .nil⟩
      | succ k ih =>
        intro hk'
        obtain ⟨ws, h1, h2⟩ := ih (by omega)
        have hj : es.size - (k + 1) < es.size := by omega
        obtain ⟨p, q, x, y, e1, r1, r2, d1, d2⟩ := E.2 _ hj
        have hj2 : es.size - (k + 1) < kvs.length := by rw [← E.1]; omega
        have e2 : (kvs.map (·.1)).drop (es.size - (k + 1)) = p :: (kvs.map (·.1)).drop (es.size - k) := by
          rw [List.drop_eq_getElem_cons (by simp; omega), List.getElem_map]
          rw [List.getElem?_eq_getElem hj2] at e1
          rw [Option.some.inj e1]
          congr 2
          omega
        have e3 : (es.toList.map (·.key)).drop (es.size - (k + 1)) = es[es.size - (k + 1)].key :: (es.toList.map (·.key)).drop (es.size - k) := by
          rw [List.drop_eq_getElem_cons (by simp; omega), List.getElem_map, Array.getElem_toList]
          congr 2
          omega
        rw [e2, e3]
        exact ⟨x :: ws, ⟨x, ws, rfl, d1, h1⟩, .cons r1 h2⟩
    have := G2 es.size (Nat.le_refl _)
    rw [Nat.sub_self, List.drop_zero, List.drop_zero] at this
    exact this
  obtain ⟨ws, dw, rw'⟩ := G
  refine new_list (out := acc.toList) I hr k hk (Nat.le_refl _) (by rw [Array.toArray_toList]; exact hD) dw rw' ?_
  rw [← dw.length, List.length_map, ← E.1]
  exact hz
/-- pure data holds no lists -/
theorem reads0 {H : Hp} {m : Mp} {n : Nat} (I : Inv X pins σ H s) : ∀ (p : P) (x : V) (u : Value), Den X.K H m n p x → pure? p = true → RelV x u → PySem.Reads s.heap u (pd p) []
  | .non, x, u, d, _, r => by cases (show x = _ from d); cases r; exact .none
  | .bl b, x, u, d, _, r => by cases (show x = _ from d); cases r; exact .bool b
  | .int i, x, u, d, _, r => by cases (show x = _ from d); obtain ⟨t, rfl⟩ := r; exact .int i t
  | .str z, x, u, d, _, r => by cases (show x = _ from d); obtain ⟨t, rfl⟩ := r; exact .str z t
  | .tup ps, x, u, d, e, r => by
    obtain ⟨a, vs, rfl, hT, d1⟩ := d
    cases r
    obtain ⟨its, rv, ⟨o, ho, hc, k, hd⟩, _⟩ := I.tuple (SqT.of hT)
    refine .tuple ho hc hd ?_
    have G : ∀ (ps : List P) (vs : List V) (us : List Value), (∀ p ∈ ps, ∀ x u, Den X.K H m n p x → pure? p = true → RelV x u → PySem.Reads s.heap u (pd p) []) → Dens X.K H m n ps vs → pures? ps = true → Vals vs us → PySem.ReadsAll s.heap us (pds ps) [] := by
      intro ps
      induction ps with
      | nil => intro vs us _ h _ r; cases (show vs = [] from h); cases r; exact .nil
      | cons p ps ih =>
        intro vs us hh h e r
        obtain ⟨v, t, rfl, d, t'⟩ := h
        have e' : (pure? p && pures? ps) = true := e
        rw [Bool.and_eq_true] at e'
        cases r with
        | cons r1 r2 =>
          have q1 := hh p (List.mem_cons_self ..) _ _ d e'.1 r1
          have q2 := ih _ _ (fun q hq => hh q (List.mem_cons_of_mem _ hq)) t' e'.2 r2
          exact .cons (as := []) (bs := []) q1 q2
    exact G ps vs its (fun p hp => reads0 I p) d1 e rv
  | .rol _, _, _, _, e, _ => by cases e
  | .loc _, _, _, _, e, _ => by cases e
termination_by p => sizeOf p
theorem each_reads0 {H : Hp} {m : Mp} {n : Nat} {a : Addr} (I : Inv X pins σ H s) : ∀ {us : List Value} {ps : List P}, pures? ps = true → EachIs (DenU X.K H m n) us ps → EachIs (fun v b => ∃ as, PySem.Reads s.heap v (pd b) as ∧ a ∉ as) us ps
  | _, [], _, h => by cases h; exact .nil
  | _, p :: ps, h, h2 => by
    have e' : (pure? p && pures? ps) = true := h
    rw [Bool.and_eq_true] at e'
    cases h2 with
    | cons q t =>
      obtain ⟨x, r, d⟩ := q
      exact .cons ⟨[], reads0 I _ _ _ d e'.1 r, by simp⟩ (each_reads0 I e'.2 t)
theorem sorted_items (hc : X.calm = true) (hu : X.A.units + 100 < cLine) : CallR X (.builtin "sorted") (fun xs H Q => ∃ p m S n kvs qs, xs = [.ref p] ∧ H p = some (L2.DX.itemsO p (m n)) ∧ Rel X.K N H m S ∧ S[n]? = some (.dct false kvs) ∧ sortP (kvs.map fun kv => .tup [kv.1, kv.2]) = some qs ∧ Beh X.K N m H S (.loc S.length) (S ++ [.lst qs]) Q) := by
  rintro pins s σ H xs us Q I rx ⟨p, m, S, n, kvs, qs, rfl, hp, hr, hn, hq, k⟩
  rw [L2.Vals.ref1 rx]
  obtain ⟨es, ep, h1, hd, hz, E⟩ := ents_of I hr hn
  have hv : s.heap.IsItemsView p (m n) := (I.hok _ _ hp).1
  obtain ⟨c1, c2, c3, c4, rfl⟩ := sortP_some hq
  replace c3 : PySem.W.Sortable ((kvs.map fun kv => P.tup [kv.1, kv.2]).map pd) := by
    rcases c3 with z | z
    · exact z
    · cases kvs with
      | nil => simp at z
      | cons a r => simp [pd, pds] at z
  refine DT.sortedI (es := es) (ep := ep) (I.ok.hd hc) hv h1 hz fun h' tk as hk hlt hl G => ?_
  have prs : ∀ (j : Nat) (a : Addr), as[j]? = some a → ∃ hj : j < es.size, h'.get? a = some { cls := .type "tuple", data := .seq #[es[j].key, es[j].val] } := fun j a hj => by
    obtain ⟨e, he, ho⟩ := G.pairs j a hj
    obtain ⟨hj', e1⟩ := Array.getElem?_eq_some_iff.mp he
    subst e1
    exact ⟨hj', ho⟩
  obtain ⟨H2, I2, g, off, d2⟩ := take_items (tk := tk) I hr E hk hl G.rise (fun a ha => Nat.le_of_lt (G.above a ha)) prs
  have hD0 : (h'.push { cls := .type "list", data := .seq (as.map Value.ref).toArray }).get? h'.objs.size = some (PyProof.Rows.seqObj "list" (as.map Value.ref).toArray 0) := Heap.get?_push_size _ rfl
  have hk2 : ∀ b o, h'.get? b = some o → (h'.push { cls := .type "list", data := .seq (as.map Value.ref).toArray }).get? b = some o := fun b o e => Heap.get?_push_of_some _ e
  have I3 : Inv X pins σ H2 { s with heap := h'.push { cls := .type "list", data := .seq (as.map Value.ref).toArray }, toks := tk } := I2.kept (t' := tk) hk2
  have E1 : EachIs (DenU X.K H2 m S.length) (as.map Value.ref) (kvs.map fun kv => .tup [kv.1, kv.2]) := each_of d2 (vals_refs as)
  refine PySem.W.list_sort_data (enc := pd) hD0 E1 (each_reads0 I3 c1 E1) c2 c3 (by rw [List.length_map, ← E.1]; exact hz) (fun b hb => by
    have := c4 b hb
    show X.A.units + 1 + 1 + _ < _
    omega) fun out ho eo => ?_
  obtain ⟨ws, dw, rw'⟩ := of_each eo
  have hf : H2 h'.objs.size = none := I2.hok.fresh (Nat.le_refl _)
  obtain ⟨c, hc2⟩ := PyProof.Rows.sortedHeap_at (out := out.toArray) hD0
  have sz2 : h'.objs.size < (h'.push { cls := .type "list", data := .seq (as.map Value.ref).toArray }).objs.size := by rw [Heap.size_push]; exact Nat.lt_succ_self _
  refine ⟨.ref h'.objs.size, upd H2 h'.objs.size (.lst ws), I3.take (t' := tk) (fun b ob hb e => ?_) (I2.fpOk (Nat.le_refl _) hf) ⟨?_, out, c, rw', hc2⟩, rfl, (k.grow g).lst (hr.grow g) dw hf⟩
  · rw [PyProof.Rows.sortedHeap_old hb (Heap.lt_size e)]
    exact e
  · rw [← dw.length, List.length_mergeSort, List.length_map, ← E.1]
    exact hz
end
/-! ### isinstance -/
def tyN : Ty → String
  | .tup => "tuple" | .lst => "list" | .bool => "bool" | .int => "int" | .str => "str" | .dict => "dict"
section
variable {X : Cx} {N : Nm}
theorem fn_isi (t : Ty) : CallR X (.builtin "isinstance") (fun xs H Q => ∃ x m S p b, xs = [x, .ty (tyN t)] ∧ Rel X.K N H m S ∧ Den X.K H m S.length p x ∧ isiP t p S = some b ∧ Q (.bl b) H) := by
  rintro pins s σ H xs us Q I rx ⟨x, m, S, p, b, rfl, hr, dp, e, k⟩
  have fin : ∀ (a : String), L2.TyX X.K H x (.type a) → L2.kitB a (tyN t) = some b → wpAny (model X.prog X.w) X.A (PySem.call (.builtin "isinstance") us) (EP X pins σ Q) X.xe s := fun a hx hb =>
    L2.call_isi pins s σ H _ us Q I rx ⟨x, .ty (tyN t), .type a, .type (tyN t), b, rfl, .ty _, hx, L2.kit_ty hb, k⟩
  cases p with
  | non =>
    cases (show x = _ from dp)
    refine fin "NoneType" (.base .non) ?_
    cases e
    cases t <;> decide +kernel
  | bl c =>
    cases (show x = _ from dp)
    refine fin "bool" (.base (.bl c)) ?_
    cases t <;> cases e <;> decide +kernel
  | int i =>
    cases (show x = _ from dp)
    refine fin "int" (.base (.int i)) ?_
    cases t <;> cases e <;> decide +kernel
  | str z =>
    cases (show x = _ from dp)
    refine fin "str" (.base (.str z)) ?_
    cases t <;> cases e <;> decide +kernel
  | tup ps =>
    obtain ⟨a, vs, rfl, h1, d1⟩ := dp
    refine fin "tuple" (.base (.tup h1)) ?_
    cases t <;> cases e <;> decide +kernel
  | rol ps =>
    obtain ⟨a, vs, rfl, h1, d1⟩ := dp
    have hx : L2.TyX X.K H (.ref a) (.type "list") := by
      rcases h1 with ⟨o, h1⟩ | ⟨o, its, n, h1, h2, _⟩
      · exact .base (.frz h1)
      · exact .kList h1 h2
    refine fin "list" hx ?_
    cases t <;> cases e <;> decide +kernel
  | loc n =>
    simp only [isiP] at e
    obtain ⟨_, rfl⟩ := dp
    split at e
    · rename_i xs hn
      obtain ⟨_, vs, h1, _⟩ := hr.lst hn
      refine fin "list" (.base (.lst h1)) ?_
      cases t <;> cases e <;> decide +kernel
    · rename_i kvs hn
      have hx : L2.TyX X.K H (.ref (m n)) (.type "dict") := by
        obtain ⟨_, ⟨ks, f, d⟩ | ⟨ks, f, d⟩⟩ := hr.dict hn
        · exact .base (.dK (show H (m n) = some (.dK ks) from f))
        · exact .base (.dT (show H (m n) = some (.dT ks) from f))
      refine fin "dict" hx ?_
      cases t <;> cases e <;> decide +kernel
    · cases e
end
end Pa
end
/-! Pa, part J: what is walked: enumerate over tuples, the items of a dict of any form. -/
namespace Pa
open PySem (Str PyData Addr Value Obj Shared Expr Stmt Pos model wpAny sizeLine cLine Heap sysModules DictEntry Program World Around pyNext pyIter)
open L2 (V HO Hp Rd SqL SqT upd upd_same upd_ne VK TE TT TA TS TG TI Ends Cx Inv PE PT PA PS PSs PG PI RelV Vals EP Key kV R2 OpR CallR It FpOk Turn ObjOk PIE)

/-! ### enumerate over a tuple -/
set_option maxHeartbeats 1000000 in
theorem meets_enum1 {v : Value} {o : Obj} {H : Heap → Prop} (B : PySem.Begins v o H) :
    PySem.Meets (PySem.Builtin.«enumerate.__new__» ⟨[.type "enumerate", v], []⟩) (fun _ R s => H s.heap ∧
      R (.ok (.ret (.ref (s.heap.push o).objs.size))) { s with heap := (s.heap.push o).push { cls := .type "enumerate", data := .fields #[.none, .bool false, .ref s.heap.objs.size, PySem.rawInt 0, .none, .none] } }) :=
  .of_wp fun prog w A R s h => by
    obtain ⟨hp, g, d, tk, os⟩ := s; obtain ⟨h1, h⟩ := h
    have hsub := PySem.sub_enumerate
    have q1 : ∀ {A' : Around} {E : Value → Shared → Prop} {Q : Value → Shared → Prop}, Q (.ref hp.objs.size) ⟨hp.push o, g, d, tk, os⟩ → wpAny (model prog w) A' (pyIter v) Q E ⟨hp, g, d, tk, os⟩ :=
      fun q => B.iter prog w _ _ ⟨hp, g, d, tk, os⟩ _ h1 q
    wp_walk using q1
    refine PySem.wpAny_stack_any fun st => PySem.wpAny_pure ?_
    split
    · rename_i c _ _ _ _ _
      cases (c == Value.type "enumerate")
      · wp_walk using q1
        exact ⟨_, rfl, h⟩
      · wp_walk using q1
        exact ⟨_, rfl, h⟩
    · wp_walk using q1
      exact ⟨_, rfl, h⟩
theorem enum_begins1 {prog : Program} {w : World} {A : Around} {E : Value → Shared → Prop} {s : Shared} {v : Value} {o : Obj} {H : Heap → Prop} {Q : Value → Shared → Prop} (B : PySem.Begins v o H) (h1 : H s.heap)
    (h : ∀ h', PySem.IsEnum h' (s.heap.objs.size + 1) s.heap.objs.size 0 .none → h'.get? s.heap.objs.size = some o → h'.objs.size = s.heap.objs.size + 2 →
      (∀ b o, s.heap.get? b = some o → h'.get? b = some o) → Q (.ref (s.heap.objs.size + 1)) { s with heap := h' }) :
    wpAny (model prog w) A (PySem.call (.type "enumerate") [v]) Q E s := by
  refine PySem.callType_new PySem.F.called_enumerate (by decide) (PySem.F.typeCall_enumerate_1 _) (PySem.F.newCall_enumerate_1 _) (fun obj => PySem.F.args_object_init_2 obj _) PySem.F.entry_enumerate_new
    (meets_enum1 B) ⟨h1, ?_⟩
  have hz : (s.heap.push o).objs.size = s.heap.objs.size + 1 := Heap.size_push ..
  show _ ∧ _
  rw [hz]
  have he : PySem.IsEnum ((s.heap.push o).push { cls := .type "enumerate", data := .fields #[.none, .bool false, .ref s.heap.objs.size, PySem.rawInt 0, .none, .none] }) (s.heap.objs.size + 1) s.heap.objs.size 0 .none := by
    have := Heap.get?_push_size (s.heap.push o) (o := { cls := .type "enumerate", data := .fields #[.none, .bool false, .ref s.heap.objs.size, PySem.rawInt 0, .none, .none] }) rfl
    rw [hz] at this; exact this
  refine ⟨⟨_, he, rfl⟩, h _ he (Heap.get?_push_of_some _ (Heap.get?_push_size _ B.free)) (by rw [Heap.size_push, hz]) fun b o x => Heap.get?_push_of_some _ (Heap.get?_push_of_some _ x)⟩

/-- the tuple at a, its items in new pairs with their places -/
def IteT (K : PySem.W.Frag) (a : Addr) : L2.It :=
  ⟨fun i H => ∃ (xs : List V) (x : V), SqT K H a xs ∧ xs[i]? = some x, fun i H v H' => ∃ T x, v = .ref T ∧ H T = none ∧ H' = upd H T (.tup [.int (i : Nat), x]) ∧ ∀ xs, SqT K H a xs → xs[i]? = some x, fun i H => ∃ xs : List V, SqT K H a xs ∧ xs.length ≤ i⟩
theorem isTup_isTuple {h : Heap} {a : Addr} {its : Array Value} (x : PyProof.Rows.IsTup h a its) : h.IsTuple a its := x
theorem turn_enumT {P : Program} {w : World} {K : PySem.W.Frag} {elts : List Expr} {kk : Nat} {tpos : Pos} (a e it : Addr) :
    Turn P w K (.Tuple elts kk tpos) (IteT K a) [e, it] e (fun i h => (∃ old, PySem.IsEnum h e it ((i : Nat) : Int) old) ∧ h.IsTupleIter it a i ∧ e ≠ it ∧ a ≠ it ∧ e ≠ a) where
  mem := by simp
  obj := fun i h st b hb => by
    obtain ⟨⟨old, he⟩, ⟨o, ho, hc, hd⟩, _⟩ := st
    have e' : b = e ∨ b = it := by simpa using hb
    rcases e' with z | z
    · rw [z]; exact ⟨_, he, fun v q => nomatch q⟩
    · rw [z]; exact ⟨o, ho, fun v q => by rw [hd] at q; cases q⟩
  keep := fun i h h' st k => let ⟨⟨old, he⟩, hi, hne⟩ := st; ⟨⟨old, k e (by simp) _ he⟩, hi.at fun o q => k it (by simp) o q, hne⟩
  item := by
    intro X hP hw hK hc i pins s σ H E I hf st hg
    subst hP hw hK
    obtain ⟨⟨old, he⟩, hit, hne, hai, hea⟩ := st
    obtain ⟨xs, x, hq, hx⟩ := hg
    obtain ⟨its, rv, p, hz⟩ := I.tuple hq
    obtain ⟨u, hu, ru⟩ := rv.get hx
    have hel : e < s.heap.objs.size := Heap.lt_size he
    have hil : it < s.heap.objs.size := by obtain ⟨_, q, _⟩ := hit; exact Heap.lt_size q
    have hi : i < its.toArray.size := by
      have := (List.getElem?_eq_some_iff.mp hu).1
      simpa using this
    refine PySem.wpAny_pyNext_enum_itemD (PySem.Draws.tuple (A := X.A.in1) (I.ok.hd hc) it a hai its.toArray) he ⟨hit, isTup_isTuple p⟩ hi hne (by simp [hne, hea]) fun y h' tk hy ho hs' hT hsz hk => ?_
    have ey : y = u := by
      have q : its.toArray[i]? = some u := by simpa using hu
      rw [q] at hy; exact (Option.some.inj hy).symm
    subst ey
    refine ⟨_, rfl, PySem.wpAny_letOwnedTupleGo_enum (s := { s with heap := h', toks := tk + 1 }) ho fun h'' he' sb => ?_⟩
    have hT2 : h''.get? s.heap.objs.size = some { cls := .type "tuple", data := .seq #[.int i tk, y] } := (sb.2 _ (Nat.ne_of_gt hel)).trans hT
    have new : ObjOk X.prog X.w (upd H s.heap.objs.size (.tup [.int (i : Nat), x])) h'' s.heap.objs.size (.tup [.int (i : Nat), x]) :=
      ⟨by show 2 ≤ sizeLine; decide, [.int i tk, y], .cons ⟨_, rfl⟩ (.cons ru .nil), ⟨_, hT2, rfl, _, rfl⟩⟩
    have I1 : Inv X pins σ (upd H s.heap.objs.size (.tup [.int (i : Nat), x])) { s with heap := h'', toks := tk + 1 } :=
      I.turnedNew (ch := [e, it]) (fun b ob hb q => (sb.2 b (fun z => hb (by simp [z]))).trans (hk b ob (fun z => hb (by simp [z])) (fun z => hb (by simp [z])) q)) hf (Nat.le_refl _) new
    refine ⟨.ref s.heap.objs.size, _, I1, rfl, ⟨_, x, rfl, I.hok.fresh (Nat.le_refl _), rfl, fun ys hy => by rw [I.tuple_inj hy hq]; exact hx⟩, ⟨⟨y, ?_⟩, hs'.1.at fun o q => (sb.2 it (Ne.symm hne)).trans q, hne, hai, hea⟩, fun b hb => ?_⟩
    · have e1 : ((i + 1 : Nat) : Int) = (i : Int) + 1 := by omega
      rw [e1]; exact he'
    · have hb' : b < s.heap.objs.size := by
        have e' : b = e ∨ b = it := by simpa using hb
        rcases e' with z | z
        · rw [z]; exact hel
        · rw [z]; exact hil
      rw [upd_ne (Nat.ne_of_lt hb')]
      exact (hf b hb).1
  done := by
    intro X hP hw hK hc i pins s σ H E I hf st hg
    subst hP hw hK
    obtain ⟨⟨old, he⟩, hit, hne, hai, hea⟩ := st
    obtain ⟨xs, hq, hx⟩ := hg
    obtain ⟨its, rv, p, hz⟩ := I.tuple hq
    obtain ⟨f0, f1, f2, f3, f4, f5⟩ := hf it (by simp)
    have hl := rv.length
    have D0 := PySem.Draws.tuple (prog := X.prog) (w := X.w) (A := X.A.in1) (I.ok.hd hc) it a hai its.toArray
    have D : PySem.Draws X.prog X.w X.A.in1 it [it, a] i (fun _ _ => False) (fun j h => j = i ∧ h.IsTupleIter it a i ∧ h.IsTuple a its.toArray) :=
      { live := fun _ h st => D0.live i h ⟨st.2.1, st.2.2⟩
        frame := fun _ h h' st k => ⟨st.1, D0.frame i h h' ⟨st.2.1, st.2.2⟩ k⟩
        item := fun j s Q E hj st _ => absurd st.1 (by omega)
        done := fun s Q E st hE => PySem.wpAny_nextOf_tuple_end (I.ok.hd hc) st.2.1 st.2.2 (by simp; omega) hE }
    exact PySem.wpAny_pyNext_enum_endD D he ⟨rfl, hit, isTup_isTuple p⟩ fun h' eb => ⟨rfl, I.turned (t' := s.toks) (fun b o hb q => eb b o hb q) f0 f1 f3 f4 f5⟩
  self := fun A i s Q E st h => let ⟨⟨_, he⟩, _⟩ := st; PySem.wpAny_pyIter_enum he h
def iEnumT (K : PySem.W.Frag) (ta : TA) : TI := fun σ H R => ta σ H fun vs H1 => ∃ a xs, vs = [.ref a] ∧ SqT K H1 a xs ∧ R (IteT K a) H1
theorem pi_enumT {X : Cx} {e : Expr} {ta : TA} {p pos tpos : Pos} {elts : List Expr} {kk : Nat} (hg : L2.Gl X "enumerate") (hm : X.mg "enumerate" = none) (ha : PA X [e] ta) (hs : PySem.starEach [e] X.env = [(false, PySem.eval e X.env)] := by rfl) :
    PI X (.Tuple elts kk tpos) (.Call (.Name "enumerate" p) [e] [] pos) (iEnumT X.K ta) := by
  refine ⟨fun pins s σ H R I h => ?_⟩
  refine PyProof.Rows.Call_ (L2.ld_blt I hg hm PyProof.Rows.boot_enumerate (PyProof.Rows.callWith_type1 (L2.thn (ha.run pos pins s σ H _ I h) fun us s1 ⟨vs, H1, I1, r1, q1⟩ => ?_) hs rfl))
  obtain ⟨a, xs, ex, hq, q⟩ := q1
  subst ex
  cases r1 with
  | cons r rr =>
    cases rr
    cases r
    obtain ⟨its, rv, p', hz⟩ := I1.tuple hq
    have hal : a < s1.heap.objs.size := by obtain ⟨o, ho, _⟩ := p'; exact Heap.lt_size ho
    refine enum_begins1 (PySem.begins_tuple a its.toArray) (isTup_isTuple p') fun h' he hit hsz hk => PySem.wpAny_pyIter_enum he ?_
    have I2 : Inv X pins σ H1 { s1 with heap := h' } := I1.kept (t' := s1.toks) hk
    refine ⟨s1.heap.objs.size + 1, [s1.heap.objs.size + 1, s1.heap.objs.size], _, _, H1, rfl, I2, turn_enumT a (s1.heap.objs.size + 1) s1.heap.objs.size, ⟨⟨.none, he⟩, ⟨_, hit, rfl, rfl⟩, Nat.succ_ne_self _, Nat.ne_of_lt hal, Ne.symm (Nat.ne_of_lt (Nat.lt_succ_of_lt hal))⟩, fun b hb => ?_, q⟩
    have e' : b = s1.heap.objs.size + 1 ∨ b = s1.heap.objs.size := by simpa using hb
    have hle : s1.heap.objs.size ≤ b := by
      rcases e' with z | z
      · rw [z]; exact Nat.le_add_right _ _
      · rw [z]; exact Nat.le_refl _
    exact I1.fpOk hle (I1.hok.fresh hle)

/-! ### the items of a locked dict -/
def EntV (H : Hp) (u : HO) (i : Nat) (a b : V) : Prop := match u with
  | .dK kvs => ∃ k, kvs[i]? = some (k, b) ∧ a = kV k
  | .dT kvs => ∃ (k : List Key) (q : Addr), kvs[i]? = some (k, b) ∧ a = .ref q ∧ H q = some (.tup (k.map kV))
  | _ => False
def lenD : HO → Nat
  | .dK kvs => kvs.length
  | .dT kvs => kvs.length
  | _ => 0
def IsD (u : HO) : Prop := match u with
  | .dK _ => True
  | .dT _ => True
  | _ => False
section
variable {X : Cx} {pins : List (Addr × Obj)} {s : Shared} {σ : L2.St} {H : Hp}
theorem frz_raw {d : Addr} {o : Obj} {u : HO} (I : Inv X pins σ H s) (h : H d = some (.frz o u)) (hu : IsD u) :
    (d == sysModules) = false ∧ s.heap.get? d = some o ∧ o.ExactDict ∧ ∃ es ep, o.data = .dict es ep ∧ es.size = lenD u ∧ es.size ≤ sizeLine ∧ ∀ (i : Nat) (hi : i < es.size), ∃ a b, EntV H u i a b ∧ RelV a es[i].key ∧ RelV b es[i].val := by
  have ho : s.heap.get? d = some o := (I.hok d _ h).1
  cases u <;> first | exact hu.elim | skip
  · rename_i ks
    obtain ⟨z, hd, vs, rel, dd⟩ := L2.dk_rd I.hok (.inr ⟨o, h⟩)
    obtain ⟨es, ep, ⟨o', h1, hx, hdt⟩, h2, h3⟩ := dd.raw
    rw [ho] at h1; cases h1
    have l1 := rel.length
    refine ⟨hd, ho, hx, es, ep, hdt, by show es.size = ks.length; omega, by omega, fun j hj => ?_⟩
    have hjk : j < ks.length := by omega
    obtain ⟨⟨k, v⟩, hkv⟩ : ∃ p, ks[j]? = some p := ⟨ks[j], List.getElem?_eq_getElem hjk⟩
    obtain ⟨y, hy, ry⟩ := L2.kv_get rel hkv
    obtain ⟨h4, h5⟩ := h3 j hj k y hy
    exact ⟨kV k, v, ⟨k, hkv, rfl⟩, L2.relV_key (show L2.keyIs k _ = true from h4), by rw [h5]; exact ry⟩
  · rename_i ks
    obtain ⟨z, hd, xs, rel, dd⟩ := L2.dt_rd I.hok (.inr ⟨o, h⟩)
    obtain ⟨es, ep, ⟨o', h1, hx, hdt⟩, h2, h3⟩ := dd.raw
    rw [ho] at h1; cases h1
    have l1 : ks.length = xs.length := PySem.Paired.length rel
    refine ⟨hd, ho, hx, es, ep, hdt, by show es.size = ks.length; omega, by omega, fun j hj => ?_⟩
    obtain ⟨y, g1, g2, g3, g4⟩ := h3 j hj
    have hjk : j < ks.length := by omega
    obtain ⟨⟨k, v⟩, hkv⟩ : ∃ p, ks[j]? = some p := ⟨ks[j], List.getElem?_eq_getElem hjk⟩
    obtain ⟨y', hy', r1, r2, r3⟩ := L2.paired_get rel hkv
    rw [g1] at hy'
    cases hy'
    exact ⟨.ref y.2.1, v, ⟨k, _, hkv, rfl, r2⟩, by rw [g2]; exact rfl, by rw [g3]; exact r3⟩
end
def ItI (d : Addr) (o : Obj) (u : HO) : L2.It :=
  ⟨fun i H => H d = some (.frz o u) ∧ i < lenD u, fun i H x H' => ∃ T a b, x = .ref T ∧ EntV H u i a b ∧ H T = none ∧ H' = upd H T (.tup [a, b]), fun i H => H d = some (.frz o u) ∧ lenD u ≤ i⟩
theorem turn_its {P : Program} {w : World} {K : PySem.W.Frag} {elts : List Expr} {kk : Nat} {tpos : Pos} {d : Addr} {o : Obj} {u : HO} {es : Array DictEntry} {ep : Nat} (it : Addr) (hu : IsD u) (hod : o.data = .dict es ep) :
    Turn P w K (.Tuple elts kk tpos) (ItI d o u) [it] it (fun i h => ∃ ok ov, PySem.IsItemIter h it d i es.size ep ok ov) where
  mem := by simp
  obj := fun i h st b hb => by
    have e : b = it := by simpa using hb
    subst e
    obtain ⟨ok, ov, e⟩ := st
    exact ⟨_, e, fun v z => nomatch z⟩
  keep := fun i h h' st k => let ⟨ok, ov, e⟩ := st; ⟨ok, ov, k it (by simp) _ e⟩
  item := by
    intro X hP hw hK hc i pins s σ H E I hf st hg
    subst hP hw hK
    obtain ⟨hd, hi⟩ := hg
    obtain ⟨hs, hgd, hx, es', ep', hdt, hsz, hz, ent⟩ := frz_raw I hd hu
    obtain ⟨rfl, rfl⟩ := L2.dict_ep hod hdt
    obtain ⟨ok, ov, he⟩ := st
    have hi' : i < es'.size := by omega
    have hlt : it < s.heap.objs.size := Heap.lt_size he
    obtain ⟨a, b, hab, ra, rb⟩ := ent i hi'
    refine DT.nextI he ⟨o, hgd, hx, hdt⟩ hi' fun h' ho hT hsz' hk => ?_
    refine ⟨_, rfl, PySem.wpAny_letOwnedTupleGo_items (s := { s with heap := h' }) ho fun h'' he' sb => ?_⟩
    have hT2 : h''.get? s.heap.objs.size = some { cls := .type "tuple", data := .seq #[es'[i].key, es'[i].val] } := (sb.2 _ (Nat.ne_of_gt hlt)).trans hT
    have new : ObjOk X.prog X.w (upd H s.heap.objs.size (.tup [a, b])) h'' s.heap.objs.size (.tup [a, b]) :=
      ⟨by show 2 ≤ sizeLine; decide, [es'[i].key, es'[i].val], .cons ra (.cons rb .nil), ⟨_, hT2, rfl, _, rfl⟩⟩
    have I1 : Inv X pins σ (upd H s.heap.objs.size (.tup [a, b])) { s with heap := h'' } :=
      I.turnedNew (t' := s.toks) (ch := [it]) (fun b ob hb e => (sb.2 b (by simpa using hb)).trans (hk b ob (by simpa using hb) e)) hf (Nat.le_refl _) new
    refine ⟨.ref s.heap.objs.size, _, I1, rfl, ⟨_, a, b, rfl, hab, I.hok.fresh (Nat.le_refl _), rfl⟩, ⟨_, _, he'⟩, fun b hb => ?_⟩
    have e : b = it := by simpa using hb
    rw [e, upd_ne (Nat.ne_of_lt hlt)]
    exact (hf it (by simp)).1
  done := by
    intro X hP hw hK hc i pins s σ H E I hf st hg
    subst hP hw hK
    obtain ⟨hd, hi⟩ := hg
    obtain ⟨f0, f1, f2, f3, f4, f5⟩ := hf it (by simp)
    obtain ⟨hs, hgd, hx, es', ep', hdt, hsz, hz, ent⟩ := frz_raw I hd hu
    obtain ⟨rfl, rfl⟩ := L2.dict_ep hod hdt
    obtain ⟨ok, ov, he⟩ := st
    exact DT.endI (I.ok.hd hc) he ⟨o, hgd, hx, hdt⟩ (by omega) fun h' eb => ⟨rfl, I.turned (t' := s.toks) (fun b ob hb e => eb b ob hb e) f0 f1 f3 f4 f5⟩
  self := fun A i s Q E st h => let ⟨_, _, e⟩ := st; PySem.W.kcp_self e h
def iIts (td : TE) : TI := fun σ H R => td σ H fun x H1 => ∃ d o u, x = .ref d ∧ H1 d = some (.frz o u) ∧ IsD u ∧ R (ItI d o u) H1
theorem pi_its {X : Cx} {e : Expr} {td : TE} {apos cpos : Pos} {elts : List Expr} {kk : Nat} {tpos : Pos} (he : PE X e td) (hbase : PySem.attributeBase e "items" X.env (PySem.eval e X.env) = PySem.eval e X.env) (hline : (apos.endLine == cpos.line) = true) :
    PI X (.Tuple elts kk tpos) (.Call (.Attribute e "items" apos) [] [] cpos) (iIts td) := by
  refine ⟨fun pins s σ H R I h => ?_⟩
  refine PySem.wpAny_Call_method (T := "dict") (id := "dict.items") hbase rfl hline PySem.F.plainAttrs_dict PySem.F.slot_dict_items PySem.F.type_dict_items (L2.thn (he.run pins s σ H _ I h) fun v s1 ⟨x, H1, I1, rx, d, o, u, ex, hd, hu, q⟩ => ?_)
  subst ex
  obtain rfl : v = Value.ref d := rx
  obtain ⟨hs, hgd, hx, es, ep, hdt, hsz, hz, ent⟩ := frz_raw I1 hd hu
  have hraw : DT.Raw s1.heap d es ep := ⟨o, hgd, hx, hdt⟩
  refine ⟨hraw.typeIs, fun a ea => by cases ea; exact ⟨o, hgd, hx.2.1⟩, ?_⟩
  have I2 : Inv X pins σ H1 { s1 with heap := s1.heap.push { cls := .type "dict_items", data := .fields #[.ref d] } } := I1.kept (t' := s1.toks) fun b ob q => Heap.get?_push_of_some _ q
  have fin : wpAny (model X.prog X.w) X.A (pyIter (.ref s1.heap.objs.size)) (PIE X pins σ (.Tuple elts kk tpos) R) X.xe { s1 with heap := s1.heap.push { cls := .type "dict_items", data := .fields #[.ref d] } } := by
    refine DT.iterI (d := d) (es := es) (ep := ep) ⟨_, Heap.get?_push_size _ rfl, rfl, rfl⟩ (hraw.push _) (L2.pi_one (tk := s1.toks) I2 _ (turn_its _ hu hdt) ⟨.none, .none, ?_⟩ q)
    exact Heap.get?_push_size _ rfl
  show wpAny _ _ (PySem.callWith cpos (.builtin "dict.items") [.ref d] [] []) _ X.xe s1
  exact PySem.method_meetsIn PySem.F.slot_dict_items PySem.F.entry_dict_items rfl (PySem.evalArgs_none ⟨rfl, hraw.typeIs, PySem.F.args_dict_items_1 _, _, DT.meetsItems hs, hraw, fin⟩)
end Pa
/-! Pa, part K: what is walked, loops, comprehensions: the readings. -/
namespace Pa
open PySem (Str PyData Addr Value Obj Shared Expr Stmt Pos model wpAny sizeLine cLine Heap sysModules)
open L2 (V HO Hp Rd SqL SqT upd upd_same upd_ne VK TE TT TA TS TG TGs TI Ends Cx Inv PE PT PA PS PSs PG PGs PI RelV Vals EP Key kV R2 OpR CallR)

/-- what the meaning of a value, and of what is walked, leans on -/
structure Kx (n : Nat) (H : Hp) (m : Mp) (n' : Nat) (H' : Hp) (m' : Mp) : Prop extends Wx n H m n' H' m' where
  frz : ∀ a o u, H a = some (.frz o u) → H' a = some (.frz o u)
theorem Kx.refl {n : Nat} {H : Hp} {m : Mp} : Kx n H m n H m := ⟨⟨Nat.le_refl _, fun _ _ => rfl, fun _ _ h _ => h⟩, fun _ _ _ h => h⟩
theorem Kx.trans {n n' n2 : Nat} {H H' H2 : Hp} {m m' m2 : Mp} (a : Kx n H m n' H' m') (b : Kx n' H' m' n2 H2 m2) : Kx n H m n2 H2 m2 :=
  ⟨⟨Nat.le_trans a.le b.le, fun i h => (b.map i (Nat.lt_of_lt_of_le h a.le)).trans (a.map i h), fun x u h hu => b.keep x u (a.keep x u h hu) hu⟩, fun x o u h => b.frz x o u (a.frz x o u h)⟩
theorem Ext.kx {K : PySem.W.Frag} {N : Nm} {n' : Nat} {H H' : Hp} {m m' : Mp} {s : S} (x : Ext s.length H m n' H' m') (r : Rel K N H m s) : Kx s.length H m n' H' m' := ⟨x.wx r.ne, x.frz⟩
section
variable (K : PySem.W.Frag) (N : Nm)
structure Runs (J : L2.It) (s0 : S) (H0 : Hp) (m0 : Mp) (w : Walk) : Prop where
  turn : ∀ (i : Nat) (s : S) (H : Hp) (m : Mp), Kx s0.length H0 m0 s.length H m → Rel K N H m s → w.2 s →
    (w.1.length ≤ i ∧ J.stop i H) ∨ ∃ x, w.1[i]? = some x ∧ J.go i H ∧ ∀ v H', J.yld i H v H' → (∀ b o, H b = some o → H' b = some o) ∧ Den K H' m s.length x v
def tI (f : Loc → S → R Walk) : TI := fun σ H R => ∃ m l s w s', At K N σ H m l s ∧ f l s = .ok w s' ∧
  ∀ J H' m', Rel K N H' m' s' → Ext s.length H m s'.length H' m' → Runs K N J s' H' m' w → R J H'
def SrcL (s0 : S) (H0 : Hp) (m0 : Mp) (g : S → Prop) (xs : List P) (a : Addr) : Prop := ∀ s H m, Kx s0.length H0 m0 s.length H m → Rel K N H m s → g s → ∃ vs, SqL K H a vs ∧ Dens K H m s.length xs vs
def SrcT (s0 : S) (H0 : Hp) (m0 : Mp) (g : S → Prop) (xs : List P) (a : Addr) : Prop := ∀ s H m, Kx s0.length H0 m0 s.length H m → Rel K N H m s → g s → ∃ vs, SqT K H a vs ∧ Dens K H m s.length xs vs
end
theorem enumP_get : ∀ (xs : List P) (k i : Nat), (enumP k xs)[i]? = (xs[i]?).map fun x => P.tup [.int (k + i : Nat), x]
  | [], _, _ => rfl
  | x :: xs, k, 0 => rfl
  | x :: xs, k, i + 1 => by
    show (enumP (k + 1) xs)[i]? = _
    rw [enumP_get xs (k + 1) i]
    have e : k + 1 + i = k + (i + 1) := by omega
    rw [e]; rfl
theorem enumP_len : ∀ (xs : List P) (k : Nat), (enumP k xs).length = xs.length
  | [], _ => rfl
  | x :: xs, k => by show (enumP (k + 1) xs).length + 1 = _; rw [enumP_len xs]; rfl
theorem rngP_len : ∀ (n : Nat) (lo : Int), (rngP lo n).length = n
  | 0, _ => rfl
  | n + 1, lo => by show (rngP (lo + 1) n).length + 1 = _; rw [rngP_len n]
theorem rngP_get : ∀ (n : Nat) (lo : Int) (i : Nat), i < n → (rngP lo n)[i]? = some (.int (lo + i))
  | 0, _, _, h => by omega
  | n + 1, lo, 0, _ => by show some (P.int lo) = _; simp
  | n + 1, lo, i + 1, h => by
    show (rngP (lo + 1) n)[i]? = _
    rw [rngP_get n (lo + 1) i (by omega)]
    have e : lo + 1 + (i : Int) = lo + ((i + 1 : Nat) : Int) := by omega
    rw [e]
section
variable {K : PySem.W.Frag} {N : Nm} {s0 s : S} {H0 H : Hp} {m0 m : Mp} {g : S → Prop} {xs ys : List P} {a b : Addr}
theorem stays_self (p : P) (s : S) : stays p s s := by cases p <;> first | rfl | exact trivial
theorem src_lst (r : Rel K N H0 m0 s0) {p : P} {v : V} (d : Den K H0 m0 s0.length p v) (h : lstOf s0 p = some xs) : ∃ a, v = .ref a ∧ SrcL K N s0 H0 m0 (stays p s0) xs a := by
  cases p <;> first | (cases h; done) | skip
  · cases h
    obtain ⟨a, vs, e, q, d⟩ := d
    refine ⟨a, e, fun s H m x r' _ => ⟨vs, ?_, Dens.mono x.toWx _ _ d⟩⟩
    rcases q with ⟨o, q⟩ | q
    · exact .inl (.inr ⟨o, x.frz _ _ _ q⟩)
    · exact .inr q
  · rename_i n
    obtain ⟨hn, e⟩ := d
    refine ⟨m0 n, e, fun s H m x r' g => ?_⟩
    have g' : s[n]? = s0[n]? := g
    dsimp only [lstOf] at h
    split at h
    · rename_i ps e2
      cases h
      rw [e2] at g'
      obtain ⟨_, vs, h1, h2⟩ := r'.lst g'
      rw [x.map n hn] at h1
      exact ⟨vs, SqL.of h1, h2⟩
    · cases h
theorem src_tup (r : Rel K N H0 m0 s0) {v : V} (d : Den K H0 m0 s0.length (.tup xs) v) : ∃ a, v = .ref a ∧ SrcT K N s0 H0 m0 g xs a := by
  obtain ⟨a, vs, e, q, d⟩ := d
  exact ⟨a, e, fun s H m x r' _ => ⟨vs, SqT.of (x.keep _ _ q (fun z => z)), Dens.mono x.toWx _ _ d⟩⟩
theorem runs_L (h : SrcL K N s0 H0 m0 g xs a) : Runs K N (L2.Itl K a) s0 H0 m0 (xs, g) := ⟨fun i s H m x r gs => by
  obtain ⟨vs, q, d⟩ := h s H m x r gs
  by_cases hi : i < xs.length
  · obtain ⟨v, e1, e2⟩ := d.get (List.getElem?_eq_getElem hi)
    exact .inr ⟨_, List.getElem?_eq_getElem hi, ⟨vs, v, q, e1⟩, fun w H' ⟨e, k⟩ => by subst e; exact ⟨fun _ _ z => z, by have := k vs q; rw [e1] at this; cases this; exact e2⟩⟩
  · exact .inl ⟨Nat.le_of_not_lt hi, ⟨vs, q, by rw [← d.length]; exact Nat.le_of_not_lt hi⟩⟩⟩
theorem runs_T (h : SrcT K N s0 H0 m0 g xs a) : Runs K N (L2.Itt K a) s0 H0 m0 (xs, g) := ⟨fun i s H m x r gs => by
  obtain ⟨vs, q, d⟩ := h s H m x r gs
  by_cases hi : i < xs.length
  · obtain ⟨v, e1, e2⟩ := d.get (List.getElem?_eq_getElem hi)
    exact .inr ⟨_, List.getElem?_eq_getElem hi, ⟨vs, v, q, e1⟩, fun w H' ⟨e, k⟩ => by subst e; exact ⟨fun _ _ z => z, by have := k vs q; rw [e1] at this; cases this; exact e2⟩⟩
  · exact .inl ⟨Nat.le_of_not_lt hi, ⟨vs, q, by rw [← d.length]; exact Nat.le_of_not_lt hi⟩⟩⟩
theorem runs_rng (lo : Int) (n : Nat) : Runs K N (L2.Itr lo n) s0 H0 m0 (rngP lo n, fun _ => True) := ⟨fun i s H m x r gs => by
  by_cases hi : i < n
  · exact .inr ⟨_, rngP_get n lo i hi, hi, fun w H' ⟨e, k⟩ => by subst e; subst k; exact ⟨fun _ _ z => z, rfl⟩⟩
  · exact .inl ⟨by show (rngP lo n).length ≤ i; rw [rngP_len]; omega, Nat.le_of_not_lt hi⟩⟩
theorem grow_upd {T : Addr} {u : HO} (hT : H T = none) : ∀ b o, H b = some o → upd H T u b = some o := fun b o e => by rw [upd_ne (L2.ne_of_none e hT)]; exact e
theorem pair_den {T : Addr} {p q : P} {v w : V} (hT : H T = none) (r : Rel K N H m s) (d1 : Den K H m s.length p v) (d2 : Den K H m s.length q w) : Den K (upd H T (.tup [v, w])) m s.length (.tup [p, q]) (.ref T) :=
  ⟨T, [v, w], rfl, upd_same, (Dens.cons (r.den (Ext.fresh hT) d1) (Dens.single (r.den (Ext.fresh hT) d2)))⟩
theorem runs_E (h : SrcL K N s0 H0 m0 g xs a) : Runs K N (L2.Ite K a) s0 H0 m0 (enumP 0 xs, g) := ⟨fun i s H m x r gs => by
  obtain ⟨vs, q, d⟩ := h s H m x r gs
  by_cases hi : i < xs.length
  · obtain ⟨v, e1, e2⟩ := d.get (List.getElem?_eq_getElem hi)
    refine .inr ⟨_, by rw [enumP_get, List.getElem?_eq_getElem hi, Nat.zero_add]; rfl, ⟨vs, v, q, e1⟩, fun w H' ⟨T, y, ew, hT, eH, k⟩ => ?_⟩
    subst ew eH
    have ey := k vs q
    rw [e1] at ey; cases ey
    exact ⟨grow_upd hT, pair_den hT r rfl e2⟩
  · exact .inl ⟨by show (enumP 0 xs).length ≤ i; rw [enumP_len]; omega, ⟨vs, q, by rw [← d.length]; exact Nat.le_of_not_lt hi⟩⟩⟩
theorem runs_ET (h : SrcT K N s0 H0 m0 g xs a) : Runs K N (IteT K a) s0 H0 m0 (enumP 0 xs, g) := ⟨fun i s H m x r gs => by
  obtain ⟨vs, q, d⟩ := h s H m x r gs
  by_cases hi : i < xs.length
  · obtain ⟨v, e1, e2⟩ := d.get (List.getElem?_eq_getElem hi)
    refine .inr ⟨_, by rw [enumP_get, List.getElem?_eq_getElem hi, Nat.zero_add]; rfl, ⟨vs, v, q, e1⟩, fun w H' ⟨T, y, ew, hT, eH, k⟩ => ?_⟩
    subst ew eH
    have ey := k vs q
    rw [e1] at ey; cases ey
    exact ⟨grow_upd hT, pair_den hT r rfl e2⟩
  · exact .inl ⟨by show (enumP 0 xs).length ≤ i; rw [enumP_len]; omega, ⟨vs, q, by rw [← d.length]; exact Nat.le_of_not_lt hi⟩⟩⟩
theorem zipP_get {i : Nat} {x y : P} (h1 : xs[i]? = some x) (h2 : ys[i]? = some y) : (zipP xs ys)[i]? = some (.tup [x, y]) := by
  unfold zipP; rw [List.getElem?_zipWith, h1, h2]
theorem zipP_len : (zipP xs ys).length = min xs.length ys.length := by unfold zipP; simp
theorem runs_Z {g2 : S → Prop} (h : SrcL K N s0 H0 m0 g xs a) (h2 : SrcL K N s0 H0 m0 g2 ys b) : Runs K N (L2.Itz K a b) s0 H0 m0 (zipP xs ys, fun s => g s ∧ g2 s) := ⟨fun i s H m x r gs => by
  obtain ⟨vs, q, d⟩ := h s H m x r gs.1
  obtain ⟨ws, q', d'⟩ := h2 s H m x r gs.2
  by_cases hi : i < xs.length ∧ i < ys.length
  · obtain ⟨v, e1, e2⟩ := d.get (List.getElem?_eq_getElem hi.1)
    obtain ⟨w, e3, e4⟩ := d'.get (List.getElem?_eq_getElem hi.2)
    refine .inr ⟨_, zipP_get (List.getElem?_eq_getElem hi.1) (List.getElem?_eq_getElem hi.2), ⟨vs, ws, v, w, q, q', e1, e3⟩, fun z H' ⟨T, y, y', ew, hT, eH, k, k'⟩ => ?_⟩
    subst ew eH
    have ey := k vs q
    have ey' := k' ws q'
    rw [e1] at ey; cases ey
    rw [e3] at ey'; cases ey'
    exact ⟨grow_upd hT, pair_den hT r e2 e4⟩
  · have l1 := d.length
    have l2 := d'.length
    exact .inl ⟨by show (zipP xs ys).length ≤ i; rw [zipP_len]; omega, ⟨vs, ws, q, q', by omega⟩⟩⟩
theorem runs_ZT {g2 : S → Prop} (h : SrcT K N s0 H0 m0 g xs a) (h2 : SrcT K N s0 H0 m0 g2 ys b) : Runs K N (RZ.ItzT K a b) s0 H0 m0 (zipP xs ys, fun s => g s ∧ g2 s) := ⟨fun i s H m x r gs => by
  obtain ⟨vs, q, d⟩ := h s H m x r gs.1
  obtain ⟨ws, q', d'⟩ := h2 s H m x r gs.2
  by_cases hi : i < xs.length ∧ i < ys.length
  · obtain ⟨v, e1, e2⟩ := d.get (List.getElem?_eq_getElem hi.1)
    obtain ⟨w, e3, e4⟩ := d'.get (List.getElem?_eq_getElem hi.2)
    refine .inr ⟨_, zipP_get (List.getElem?_eq_getElem hi.1) (List.getElem?_eq_getElem hi.2), ⟨vs, ws, v, w, q, q', e1, e3⟩, fun z H' ⟨T, y, y', ew, hT, eH, k, k'⟩ => ?_⟩
    subst ew eH
    have ey := k vs q
    have ey' := k' ws q'
    rw [e1] at ey; cases ey
    rw [e3] at ey'; cases ey'
    exact ⟨grow_upd hT, pair_den hT r e2 e4⟩
  · have l1 := d.length
    have l2 := d'.length
    exact .inl ⟨by show (zipP xs ys).length ≤ i; rw [zipP_len]; omega, ⟨vs, ws, q, q', by omega⟩⟩⟩
theorem runs_V (h : SrcL K N s0 H0 m0 g xs a) : Runs K N (L2.Itv K a xs.length) s0 H0 m0 (xs.reverse, g) := ⟨fun i s H m x r gs => by
  obtain ⟨vs, q, d⟩ := h s H m x r gs
  by_cases hi : i < xs.length
  · have hj : xs.length - 1 - i < xs.length := by omega
    obtain ⟨v, e1, e2⟩ := d.get (List.getElem?_eq_getElem hj)
    refine .inr ⟨_, by rw [List.getElem?_reverse hi]; exact List.getElem?_eq_getElem hj, ⟨hi, vs, v, q, e1⟩, fun w H' ⟨e, k⟩ => ?_⟩
    subst e
    have := k vs q
    rw [e1] at this; cases this
    exact ⟨fun _ _ z => z, e2⟩
  · exact .inl ⟨by show xs.reverse.length ≤ i; rw [List.length_reverse]; omega, Nat.le_of_not_lt hi⟩⟩
/-- the locked dict -/
theorem locked_rel {n : Nat} {kvs : List (P × P)} {o : Obj} {u : HO} (r : Rel K N H m s) (h : locked n kvs s) (e : H (m n) = some (.frz o u)) :
    (∃ ks, u = .dK ks ∧ DensD K H m s.length keyP kvs ks) ∨ ∃ ks, u = .dT ks ∧ DensD K H m s.length tkeyP kvs ks := by
  rcases r.obj n _ h with ⟨ks, ⟨o', f⟩, d⟩ | ⟨ks, ⟨o', f⟩, d⟩
  · rw [e] at f; cases f; exact .inl ⟨ks, rfl, d⟩
  · rw [e] at f; cases f; exact .inr ⟨ks, rfl, d⟩
theorem ent_den {u : HO} {kvs : List (P × P)} {n i : Nat} {x y : V} (h : (∃ ks, u = .dK ks ∧ DensD K H m n keyP kvs ks) ∨ ∃ ks, u = .dT ks ∧ DensD K H m n tkeyP kvs ks) (e : EntV H u i x y) :
    ∃ p q, kvs[i]? = some (p, q) ∧ Den K H m n p x ∧ Den K H m n q y := by
  rcases h with ⟨ks, rfl, d⟩ | ⟨ks, rfl, d⟩
  · obtain ⟨k, e1, rfl⟩ := e
    obtain ⟨p, q, e2, e3, e4⟩ := d.at e1
    exact ⟨p, q, e2, keyP_den e3, e4⟩
  · obtain ⟨k, q, e1, rfl, hq⟩ := e
    obtain ⟨p, q', e2, e3, e4⟩ := d.at e1
    exact ⟨p, q', e2, tkeyP_den e3 hq, e4⟩
theorem lenD_of {u : HO} {kvs : List (P × P)} {n : Nat} (h : (∃ ks, u = .dK ks ∧ DensD K H m n keyP kvs ks) ∨ ∃ ks, u = .dT ks ∧ DensD K H m n tkeyP kvs ks) : lenD u = kvs.length := by
  rcases h with ⟨ks, rfl, d⟩ | ⟨ks, rfl, d⟩ <;> exact d.length.symm
theorem runs_I {n : Nat} {kvs : List (P × P)} {o : Obj} {u : HO} (hn : n < s0.length) (hl : lenD u = kvs.length) (e : H0 (m0 n) = some (.frz o u)) : Runs K N (ItI (m0 n) o u) s0 H0 m0 (walkD true kvs, locked n kvs) := ⟨fun i s H m x r gs => by
  have e1 : H (m0 n) = some (.frz o u) := x.frz _ _ _ e
  have gs' := locked_rel r gs (by rw [x.map n hn]; exact e1)
  by_cases hi : i < kvs.length
  · have ek : kvs[i]? = some kvs[i] := List.getElem?_eq_getElem hi
    refine .inr ⟨.tup [kvs[i].1, kvs[i].2], by show (kvs.map _)[i]? = _; rw [List.getElem?_map, ek]; rfl, ⟨e1, by omega⟩, fun w H' ⟨T, a, b, ew, hab, hT, eH⟩ => ?_⟩
    subst ew eH
    obtain ⟨p, q, e3, d1, d2⟩ := ent_den gs' hab
    rw [ek] at e3
    have e4 := Option.some.inj e3
    rw [e4]
    exact ⟨grow_upd hT, pair_den hT r d1 d2⟩
  · exact .inl ⟨by show (kvs.map _).length ≤ i; rw [List.length_map]; omega, e1, by omega⟩⟩
theorem runs_K {n : Nat} {kvs : List (P × P)} {o : Obj} {ks : List (Key × V)} (hn : n < s0.length) (hl : ks.length = kvs.length) (e : H0 (m0 n) = some (.frz o (.dK ks))) : Runs K N (L2.Itk (m0 n) o ks) s0 H0 m0 (walkD false kvs, locked n kvs) := ⟨fun i s H m x r gs => by
  have e1 : H (m0 n) = some (.frz o (.dK ks)) := x.frz _ _ _ e
  have gs' := locked_rel r gs (by rw [x.map n hn]; exact e1)
  by_cases hi : i < kvs.length
  · have ek : kvs[i]? = some kvs[i] := List.getElem?_eq_getElem hi
    refine .inr ⟨kvs[i].1, by show (kvs.map _)[i]? = _; rw [List.getElem?_map, ek]; rfl, ⟨e1, by omega⟩, fun w H' ⟨eH, k, v, e5, e6⟩ => ?_⟩
    subst eH
    obtain ⟨p, q, e3, d1, d2⟩ := ent_den gs' (show EntV _ (.dK ks) i w v from ⟨k, e5, e6⟩)
    rw [ek] at e3
    have e4 := Option.some.inj e3
    rw [e4]
    exact ⟨fun _ _ z => z, d1⟩
  · exact .inl ⟨by show (kvs.map _).length ≤ i; rw [List.length_map]; omega, e1, by omega⟩⟩
theorem runs_KT {n : Nat} {kvs : List (P × P)} {o : Obj} {ks : List (List Key × V)} (hn : n < s0.length) (hl : ks.length = kvs.length) (e : H0 (m0 n) = some (.frz o (.dT ks))) : Runs K N (L2.Itkt (m0 n) o ks) s0 H0 m0 (walkD false kvs, locked n kvs) := ⟨fun i s H m x r gs => by
  have e1 : H (m0 n) = some (.frz o (.dT ks)) := x.frz _ _ _ e
  have gs' := locked_rel r gs (by rw [x.map n hn]; exact e1)
  by_cases hi : i < kvs.length
  · have ek : kvs[i]? = some kvs[i] := List.getElem?_eq_getElem hi
    refine .inr ⟨kvs[i].1, by show (kvs.map _)[i]? = _; rw [List.getElem?_map, ek]; rfl, ⟨e1, by omega⟩, fun w H' ⟨eH, k, v, q, e5, e6, e7⟩ => ?_⟩
    subst eH
    obtain ⟨p, q, e3, d1, d2⟩ := ent_den gs' (show EntV _ (.dT ks) i w v from ⟨k, q, e5, e6, e7⟩)
    rw [ek] at e3
    have e4 := Option.some.inj e3
    rw [e4]
    exact ⟨fun _ _ z => z, d1⟩
  · exact .inl ⟨by show (kvs.map _).length ≤ i; rw [List.length_map]; omega, e1, by omega⟩⟩
end

/-! ### the rules -/
section
variable {X : Cx} {N : Nm} {tg e : Expr}
theorem PI.or {t u : TI} (h1 : PI X tg e t) (h2 : PI X tg e u) : PI X tg e (fun σ H R => t σ H R ∨ u σ H R) := ⟨fun pins s σ H R I h => h.elim (h1.run pins s σ H R I) (h2.run pins s σ H R I)⟩
theorem tA_step {K : PySem.W.Frag} {σ : L2.St} {H : Hp} {f : Loc → S → R P} {Q : VK} {m : Mp} {l : Loc} {s s' : S} {p : P} (h : At K N σ H m l s) (e : f l s = .ok p s')
    (k : ∀ v H' m', At K N σ H' m' l s' → Ext s.length H m s'.length H' m' → Den K H' m' s'.length p v → Q v H') : tA K N f σ H Q :=
  ⟨m, l, s, p, s', h, e, fun v H' m' r x d => k v H' m' (h.step r x) x d⟩
variable (G : Env)
theorem wi_ex {a : Ex} (h : PE X e (tA X.K N (ev G a))) : PI X tg e (tI X.K N (evI G (.ex a))) := by
  refine PI.imp (PI.or (L2.pi_list h) (L2.pi_tup h)) fun σ H R ⟨m, l, s, w, s', at0, e, k⟩ => ?_
  obtain ⟨p, s1, e1, e2⟩ := bind_eq_ok e
  try dsimp only at e2
  split at e2
  · rename_i xs hq
    cases e2
    by_cases hp : ∃ ys, p = .tup ys
    · obtain ⟨ys, rfl⟩ := hp
      cases hq
      refine .inr (tA_step at0 e1 fun v H' m' at1 x d => ?_)
      obtain ⟨a, ea, sr⟩ := src_tup (g := stays (.tup xs) s') at1.rel d
      obtain ⟨vs, q, _⟩ := sr _ _ _ Kx.refl at1.rel (stays_self _ _)
      exact ⟨a, ea, ⟨vs, q⟩, k _ _ m' at1.rel x (runs_T sr)⟩
    · have hq' : lstOf s' p = some xs := by
        cases p <;> first | (cases hq; done) | exact hq | exact absurd ⟨_, rfl⟩ hp
      refine .inl (tA_step at0 e1 fun v H' m' at1 x d => ?_)
      obtain ⟨a, ea, sr⟩ := src_lst at1.rel d hq'
      obtain ⟨vs, q, _⟩ := sr _ _ _ Kx.refl at1.rel (stays_self _ _)
      exact ⟨a, ea, ⟨vs, q⟩, k _ _ m' at1.rel x (runs_L sr)⟩
  · cases e2
theorem wi_r1 {a : Ex} {pp pos : Pos} (hg : L2.Gl X "range") (hm : X.mg "range" = none) (hs : PySem.starEach [e] X.env = [(false, PySem.eval e X.env)]) (h : PE X e (tA X.K N (ev G a))) :
    PI X tg (.Call (.Name "range" pp) [e] [] pos) (tI X.K N (evI G (.rng1 a))) := by
  refine PI.imp (L2.pi_range1 hg hm (L2.pa_cons h L2.pa_nil hs) hs) fun σ H R ⟨m, l, s, w, s', at0, e, k⟩ => ?_
  obtain ⟨p, s1, e1, e2⟩ := bind_eq_ok e
  cases p <;> dsimp only at e2 <;> first | (cases e2; done) | skip
  rename_i j
  split at e2
  · rename_i hj
    cases e2
    refine tA_step at0 e1 fun v H' m' at1 x d => ?_
    cases d
    exact ⟨j, rfl, hj.1, hj.2, k _ _ m' at1.rel x (runs_rng 0 j.toNat)⟩
  · cases e2
theorem wi_r2 {a b : Ex} {e2 : Expr} {pp pos : Pos} (hg : L2.Gl X "range") (hm : X.mg "range" = none) (hs : PySem.starEach [e, e2] X.env = [(false, PySem.eval e X.env), (false, PySem.eval e2 X.env)]) (hs2 : PySem.starEach [e2] X.env = [(false, PySem.eval e2 X.env)])
    (h : PE X e (tA X.K N (ev G a))) (h2 : PE X e2 (tA X.K N (ev G b))) :
    PI X tg (.Call (.Name "range" pp) [e, e2] [] pos) (tI X.K N (evI G (.rng2 a b))) := by
  refine PI.imp (L2.pi_range2 hg hm (L2.pa_cons h (L2.pa_cons h2 L2.pa_nil hs2) (by rw [hs, hs2])) hs hs2) fun σ H R ⟨m, l, s, w, s', at0, e, k⟩ => ?_
  obtain ⟨p, s1, e1, e2⟩ := bind_eq_ok e
  obtain ⟨q, s2, e2b, e3⟩ := bind_eq_ok e2
  clear e2
  have e2 := e2b
  clear e2b
  cases p <;> cases q <;> dsimp only at e3 <;> first | (cases e3; done) | skip
  rename_i i j
  split at e3
  · rename_i hj
    cases e3
    refine tA_step at0 e1 fun v H' m' at1 x d => ?_
    refine tA_step at1 e2 fun v2 H2 m2 at2 x2 d2 => ?_
    cases d
    cases d2
    exact ⟨i, j, rfl, ⟨hj.1.1, hj.1.2, hj.2.1, hj.2.2⟩, k _ _ m2 at2.rel (x.trans x2) (runs_rng i _)⟩
  · cases e3
theorem src_both {K : PySem.W.Frag} {s0 : S} {H0 : Hp} {m0 : Mp} {p : P} {v : V} {xs : List P} (r : Rel K N H0 m0 s0) (d : Den K H0 m0 s0.length p v) (h : seqOf s0 p = some xs) :
    ∃ a, v = .ref a ∧ (SrcL K N s0 H0 m0 (stays p s0) xs a ∨ SrcT K N s0 H0 m0 (stays p s0) xs a) := by
  by_cases hp : ∃ ys, p = .tup ys
  · obtain ⟨ys, rfl⟩ := hp
    cases h
    obtain ⟨a, ea, sr⟩ := src_tup (N := N) (g := stays (.tup xs) s0) r d
    exact ⟨a, ea, .inr sr⟩
  · have hq' : lstOf s0 p = some xs := by
      cases p <;> first | (cases h; done) | exact h | exact absurd ⟨_, rfl⟩ hp
    obtain ⟨a, ea, sr⟩ := src_lst r d hq'
    exact ⟨a, ea, .inl sr⟩
theorem wi_enum {a : Ex} {pp pos tpos : Pos} {elts : List Expr} {kk : Nat} (hg : L2.Gl X "enumerate") (hm : X.mg "enumerate" = none) (hs : PySem.starEach [e] X.env = [(false, PySem.eval e X.env)]) (h : PE X e (tA X.K N (ev G a))) :
    PI X (.Tuple elts kk tpos) (.Call (.Name "enumerate" pp) [e] [] pos) (tI X.K N (evI G (.enum a))) := by
  refine PI.imp (PI.or (L2.pi_enum hg hm (L2.pa_cons h L2.pa_nil hs) hs) (pi_enumT hg hm (L2.pa_cons h L2.pa_nil hs) hs)) fun σ H R ⟨m, l, s, w, s', at0, e, k⟩ => ?_
  obtain ⟨p, s1, e1, e2⟩ := bind_eq_ok e
  try dsimp only at e2
  split at e2
  · rename_i xs hq
    cases e2
    by_cases hp : ∃ ys, p = .tup ys
    · obtain ⟨ys, rfl⟩ := hp
      cases hq
      refine .inr (tA_step at0 e1 fun v H' m' at1 x d => ?_)
      obtain ⟨a, ea, sr⟩ := src_tup (g := stays (.tup xs) s') at1.rel d
      obtain ⟨vs, q, _⟩ := sr _ _ _ Kx.refl at1.rel (stays_self _ _)
      exact ⟨a, vs, by rw [ea], q, k _ _ m' at1.rel x (runs_ET sr)⟩
    · have hq' : lstOf s' p = some xs := by
        cases p <;> first | (cases hq; done) | exact hq | exact absurd ⟨_, rfl⟩ hp
      refine .inl (tA_step at0 e1 fun v H' m' at1 x d => ?_)
      obtain ⟨a, ea, sr⟩ := src_lst at1.rel d hq'
      obtain ⟨vs, q, _⟩ := sr _ _ _ Kx.refl at1.rel (stays_self _ _)
      exact ⟨a, vs, by rw [ea], q, k _ _ m' at1.rel x (runs_E sr)⟩
  · cases e2
theorem wi_zip {a b : Ex} {e2 : Expr} {pp pos tpos : Pos} {elts : List Expr} {kk : Nat} (hg : L2.Gl X "zip") (hm : X.mg "zip" = none) (hs : PySem.starEach [e, e2] X.env = (false, PySem.eval e X.env) :: PySem.starEach [e2] X.env) (hs2 : PySem.starEach [e2] X.env = [(false, PySem.eval e2 X.env)])
    (h : PE X e (tA X.K N (ev G a))) (h2 : PE X e2 (tA X.K N (ev G b))) :
    PI X (.Tuple elts kk tpos) (.Call (.Name "zip" pp) [e, e2] [] pos) (tI X.K N (evI G (.zip a b))) := by
  refine PI.imp (RZ.pi_zipA hg hm (L2.pa_cons h (L2.pa_cons h2 L2.pa_nil hs2) hs) hs (by rw [hs2]; rfl)) fun σ H R ⟨m, l, s, w, s', at0, e, k⟩ => ?_
  obtain ⟨p, s1, e1, e2⟩ := bind_eq_ok e
  obtain ⟨q, s2, e2b, e3⟩ := bind_eq_ok e2
  try dsimp only at e3
  split at e3
  · rename_i xy hz
    cases e3
    refine tA_step at0 e1 fun v H' m' at1 x d => ?_
    refine tA_step at1 e2b fun v2 H2 m2 at2 x2 d2 => ?_
    have d1 := at1.rel.den x2 d
    by_cases hp : ∃ ys zs, p = .tup ys ∧ q = .tup zs
    · obtain ⟨ys, zs, rfl, rfl⟩ := hp
      cases hz
      obtain ⟨a, ea, sr⟩ := src_tup (N := N) (g := stays (.tup ys) s') at2.rel d1
      obtain ⟨b, eb, sr2⟩ := src_tup (N := N) (g := stays (.tup zs) s') at2.rel d2
      obtain ⟨vs, q1, _⟩ := sr _ _ _ Kx.refl at2.rel (stays_self _ _)
      obtain ⟨ws, q2, _⟩ := sr2 _ _ _ Kx.refl at2.rel (stays_self _ _)
      exact ⟨a, b, vs, ws, by rw [ea, eb], .inr ⟨q1, q2, k _ _ m2 at2.rel (x.trans x2) (runs_ZT sr sr2)⟩⟩
    · have hz' : ((lstOf s' p).bind fun xs => (lstOf s' q).map fun ys => (xs, ys)) = some xy := by
        unfold zipOf at hz
        split at hz
        · exact absurd ⟨_, _, rfl, rfl⟩ hp
        · exact hz
      cases h1 : lstOf s' p with
      | none => rw [h1] at hz'; cases hz'
      | some xs =>
        cases h2 : lstOf s' q with
        | none => rw [h1, h2] at hz'; cases hz'
        | some ys =>
          rw [h1, h2] at hz'
          cases hz'
          obtain ⟨a, ea, sr⟩ := src_lst at2.rel d1 h1
          obtain ⟨b, eb, sr2⟩ := src_lst at2.rel d2 h2
          obtain ⟨vs, q1, _⟩ := sr _ _ _ Kx.refl at2.rel (stays_self _ _)
          obtain ⟨ws, q2, _⟩ := sr2 _ _ _ Kx.refl at2.rel (stays_self _ _)
          exact ⟨a, b, vs, ws, by rw [ea, eb], .inl ⟨q1, q2, k _ _ m2 at2.rel (x.trans x2) (runs_Z sr sr2)⟩⟩
  · cases e3
theorem wi_rev {a : Ex} {pp pos : Pos} (hg : L2.Gl X "reversed") (hm : X.mg "reversed" = none) (hs : PySem.starEach [e] X.env = (false, PySem.eval e X.env) :: PySem.starEach [] X.env) (h : PE X e (tA X.K N (ev G a))) :
    PI X tg (.Call (.Name "reversed" pp) [e] [] pos) (tI X.K N (evI G (.rev a))) := by
  refine PI.imp (RT.pi_revA hg hm h hs) fun σ H R ⟨m, l, s, w, s', at0, e, k⟩ => ?_
  obtain ⟨p, s1, e1, e2⟩ := bind_eq_ok e
  try dsimp only at e2
  split at e2
  · rename_i xs hq
    cases e2
    refine tA_step at0 e1 fun v H' m' at1 x d => ?_
    obtain ⟨a, ea, sr⟩ := src_lst at1.rel d hq
    obtain ⟨vs, q, ds⟩ := sr _ _ _ Kx.refl at1.rel (stays_self _ _)
    refine ⟨a, vs, ea, .inl ⟨q, k _ _ m' at1.rel x ?_⟩⟩
    rw [← ds.length]
    exact runs_V sr
  · cases e2
end
end Pa
/-! Pa, part L: loops and comprehensions, on the readings. -/
namespace Pa
open PySem (Str PyData Addr Value Obj Shared Expr Stmt Pos model wpAny sizeLine cLine Heap sysModules)
open L2 (V HO Hp Rd SqL SqT upd upd_same upd_ne VK TE TT TA TS TG TGs TI Ends Cx Inv PE PT PA PS PSs PG PGs PI RelV Vals EP Key kV R2 OpR CallR)

def Same (is : List Nat) (σ σ' : L2.St) : Prop := σ'.length = σ.length ∧ ∀ i, i ∉ is → σ'[i]? = σ[i]?
section
variable (K : PySem.W.Frag) (N : Nm)
def FlK (D : Ends) (m : Mp) (H : Hp) (s : S) (fl : Fl) (s' : S) : Prop := match fl with
  | .nx l => ∀ σ' H' m', At K N σ' H' m' l s' → Ext s.length H m s'.length H' m' → D.nx σ' H'
  | .brk l => ∀ σ' H' m', At K N σ' H' m' l s' → Ext s.length H m s'.length H' m' → D.bk σ' H'
  | .cnt l => ∀ σ' H' m', At K N σ' H' m' l s' → Ext s.length H m s'.length H' m' → D.ct σ' H'
  | .ret p => ∀ v H' m', Rel K N H' m' s' → Ext s.length H m s'.length H' m' → Den K H' m' s'.length p v → D.rt v H'
def tF (f : Loc → S → R Fl) : TS := fun D σ H => ∃ m l s fl s', At K N σ H m l s ∧ f l s = .ok fl s' ∧ FlK K N D m H s fl s'
def tG (f : P → Loc → Option Loc) (is : List Nat) : TG := fun v σ H Q => ∃ m l s p l', At K N σ H m l s ∧ Den K H m s.length p v ∧ f p l = some l' ∧ ∀ σ', LRel K H m s.length l' σ' → Same is σ σ' → Q σ' H
end
section
variable {K : PySem.W.Frag} {N : Nm} {D : Ends} {m m1 : Mp} {H H1 : Hp} {s s1 s' : S} {fl : Fl} {σ : L2.St} {n n' : Nat}
theorem FlK.step (k : FlK K N D m H s fl s') (x : Ext s.length H m s1.length H1 m1) : FlK K N D m1 H1 s1 fl s' := by
  cases fl with
  | nx l => exact fun σ' H' m' a y => k σ' H' m' a (x.trans y)
  | brk l => exact fun σ' H' m' a y => k σ' H' m' a (x.trans y)
  | cnt l => exact fun σ' H' m' a y => k σ' H' m' a (x.trans y)
  | ret p => exact fun v H' m' a y d => k v H' m' a (x.trans y) d
theorem LRel.mono {l : Loc} (h : LRel K H m n l σ) (x : Wx n H m n' H1 m1) : LRel K H1 m1 n' l σ :=
  ⟨h.1, fun i p e => let ⟨v, e', d⟩ := h.2 i p e; ⟨v, e', Den.mono x _ _ d⟩⟩
theorem At.grow {l : Loc} (h : At K N σ H m l s) (g : ∀ b o, H b = some o → H1 b = some o) : At K N σ H1 m l s := h.step (h.rel.grow g) (Ext.grow g)
theorem forL_ok {g : S → Prop} {f : P → Loc → S → R Fl} {xs : List P} {l : Loc} (e : forL g f xs l s = .ok fl s') : g s := by
  cases xs with
  | nil => unfold forL at e; split at e
           · assumption
           · cases e
  | cons y ys => unfold forL at e; split at e
                 · assumption
                 · cases e
theorem drop_nil {α : Type} {xs : List α} {i : Nat} (h : xs.length ≤ i) : xs.drop i = [] := List.drop_eq_nil_of_le h
theorem drop_at {α : Type} {xs : List α} {i : Nat} {x : α} (h : xs[i]? = some x) : xs.drop i = x :: xs.drop (i + 1) ∧ i < xs.length := by
  obtain ⟨hl, e⟩ := List.getElem?_eq_some_iff.mp h
  exact ⟨by rw [List.drop_eq_getElem_cons hl, e], hl⟩
theorem for_tF {fI : Loc → S → R Walk} {bt : P → Loc → Option Loc} {fb : Loc → S → R Fl} {is : List Nat}
    (h : tF K N (fun l s => (fI l s).bind fun w s => forL w.2 (fun x l s => (ofO (bt x l) s).bind fun l s => fb l s) w.1 l s) D σ H) :
    L2.tFor (tI K N fI) (tG K N bt is) (tF K N fb) D σ H := by
  obtain ⟨m, l, s, fl, s', at0, e, k⟩ := h
  obtain ⟨w, s1, e1, e2⟩ := bind_eq_ok e
  refine ⟨m, l, s, w, s1, at0, e1, fun J H1 m1 r1 x1 run => ?_⟩
  refine ⟨fun i n σ H => n = w.1.length - i ∧ ∃ m l s, At K N σ H m l s ∧ Kx s1.length H1 m1 s.length H m ∧ ∃ fl s', forL w.2 (fun x l s => (ofO (bt x l) s).bind fun l s => fb l s) (w.1.drop i) l s = .ok fl s' ∧ FlK K N D m H s fl s',
    ⟨_, rfl, m1, l, s1, at0.step r1 x1, Kx.refl, fl, s', e2, k.step x1⟩, ?_⟩
  clear e e1 e2 k at0
  rintro i n σ H ⟨rfl, m, l, s, at0, x, fl, s', e, k⟩
  rcases run.turn i s H m x at0.rel (forL_ok e) with ⟨hle, st⟩ | ⟨y, hy, go, yl⟩
  · left
    rw [drop_nil hle] at e
    unfold forL at e
    split at e
    · cases e
      exact ⟨st, k σ H m at0 Ext.refl⟩
    · cases e
  · right
    obtain ⟨hd, hl⟩ := drop_at hy
    rw [hd] at e
    unfold forL at e
    split at e
    · obtain ⟨fl2, s2, e3, e4⟩ := bind_eq_ok e
      obtain ⟨l2, s3, e5, e6⟩ := bind_eq_ok e3
      obtain ⟨e5', rfl⟩ := ofO_ok e5
      clear e5
      have e5 := e5'
      refine ⟨go, fun σ' H' => ∃ m l s, At K N σ' H' m l s ∧ Kx s1.length H1 m1 s.length H' m ∧ ∃ fl s', forL w.2 (fun x l s => (ofO (bt x l) s).bind fun l s => fb l s) (w.1.drop (i + 1)) l s = .ok fl s' ∧ FlK K N D m H' s fl s', ?_, fun v H2 hv => ?_⟩
      · rintro σ' H' h
        exact ⟨_, by omega, rfl, h⟩
      · obtain ⟨g2, d2⟩ := yl v H2 hv
        have at2 := at0.grow g2
        refine ⟨m, l, s3, y, l2, at2, d2, e5, fun σ' lr _ => ⟨m, l2, s3, fl2, s2, ⟨at2.rel, lr⟩, e6, ?_⟩⟩
        have k2 := k.step (Ext.grow g2)
        cases fl2 with
        | nx l3 => exact fun σ4 H4 m4 a4 x4 => ⟨m4, l3, s2, a4, (x.trans ((Ext.grow g2).kx at0.rel)).trans (x4.kx at2.rel), fl, s', e4, k2.step x4⟩
        | cnt l3 => exact fun σ4 H4 m4 a4 x4 => ⟨m4, l3, s2, a4, (x.trans ((Ext.grow g2).kx at0.rel)).trans (x4.kx at2.rel), fl, s', e4, k2.step x4⟩
        | brk l3 => cases e4; exact fun σ4 H4 m4 a4 x4 => k2 σ4 H4 m4 a4 x4
        | ret p => cases e4; exact fun v4 H4 m4 a4 x4 d4 => k2 v4 H4 m4 a4 x4 d4
    · cases e
theorem whl_some {c : Loc → S → R Bool} {b : Loc → S → R Fl} {l : Loc} (e : whl c b l s = .ok fl s') : ∃ n, whlN c b n l s = .ok fl s' := by
  unfold whl at e
  split at e
  · exact ⟨_, e⟩
  · cases e
theorem while_tF {fc : Loc → S → R Bool} {fb : Loc → S → R Fl} (h : tF K N (fun l s => whl fc fb l s) D σ H) : L2.tWhile (tAT K N fc) (tF K N fb) D σ H := by
  obtain ⟨m, l, s, fl, s', at0, e, k⟩ := h
  obtain ⟨n, e⟩ := whl_some e
  refine ⟨fun n σ H => ∃ m l s fl s', At K N σ H m l s ∧ whlN fc fb n l s = .ok fl s' ∧ FlK K N D m H s fl s', ⟨n, m, l, s, fl, s', at0, e, k⟩, ?_⟩
  clear at0 e k
  rintro n σ H ⟨m, l, s, fl, s', at0, e, k⟩
  cases n with
  | zero => cases e
  | succ n =>
    obtain ⟨b, s1, e1, e2⟩ := bind_eq_ok e
    refine ⟨m, l, s, b, s1, at0, e1, fun H1 m1 r1 x1 => ?_⟩
    have at1 := at0.step r1 x1
    have k1 := k.step x1
    cases b with
    | false =>
      rw [if_neg (by simp)] at e2
      cases e2
      simp only [Bool.false_eq_true, if_false]
      exact k1 σ H1 m1 at1 Ext.refl
    | true =>
      rw [if_pos rfl] at e2
      simp only [if_true]
      obtain ⟨fl2, s2, e3, e4⟩ := bind_eq_ok e2
      refine ⟨fun σ' H' => ∃ m l s fl s', At K N σ' H' m l s ∧ whlN fc fb n l s = .ok fl s' ∧ FlK K N D m H' s fl s', fun σ' H' h => ⟨n, Nat.lt_succ_self n, h⟩, m1, l, s1, fl2, s2, at1, e3, ?_⟩
      cases fl2 with
      | nx l3 => exact fun σ4 H4 m4 a4 x4 => ⟨m4, l3, s2, fl, s', a4, e4, k1.step x4⟩
      | cnt l3 => exact fun σ4 H4 m4 a4 x4 => ⟨m4, l3, s2, fl, s', a4, e4, k1.step x4⟩
      | brk l3 => cases e4; exact fun σ4 H4 m4 a4 x4 => k1 σ4 H4 m4 a4 x4
      | ret p => cases e4; exact fun v4 H4 m4 a4 x4 d4 => k1 v4 H4 m4 a4 x4 d4
end

/-! ### wiping -/
theorem wipe_len (σ : L2.St) : ∀ vs : List Nat, (L2.wipe σ vs).length = σ.length
  | [] => rfl
  | v :: vs => by show ((L2.wipe σ vs).set v none).length = _; rw [List.length_set, wipe_len σ vs]
theorem wipe_get (σ : L2.St) (i : Nat) : ∀ vs : List Nat, (L2.wipe σ vs)[i]? = if i ∈ vs ∧ i < σ.length then some none else σ[i]?
  | [] => by simp [L2.wipe]
  | v :: vs => by
    show ((L2.wipe σ vs).set v none)[i]? = _
    by_cases h : v = i
    · subst h
      by_cases hl : v < σ.length
      · rw [List.getElem?_set_self (by rw [wipe_len]; exact hl), if_pos ⟨by simp, hl⟩]
      · rw [if_neg (by simp [hl])]
        rw [List.getElem?_eq_none (by rw [List.length_set, wipe_len]; omega), List.getElem?_eq_none (by omega)]
    · rw [List.getElem?_set_ne h, wipe_get σ i vs]
      by_cases hm : i ∈ vs ∧ i < σ.length
      · rw [if_pos hm, if_pos ⟨by simp [hm.1], hm.2⟩]
      · rw [if_neg hm, if_neg]
        rintro ⟨h1, h2⟩
        rcases List.mem_cons.mp h1 with z | z
        · exact h z.symm
        · exact hm ⟨z, h2⟩
theorem wipe_same {vs is : List Nat} {σ σ2 : L2.St} (h : Same is (L2.wipe σ vs) σ2) (hs : ∀ i ∈ is, i ∈ vs) : L2.wipe σ2 vs = L2.wipe σ vs := by
  apply List.ext_getElem?
  intro i
  have hl : σ2.length = σ.length := by rw [h.1, wipe_len]
  rw [wipe_get, wipe_get, hl]
  by_cases hm : i ∈ vs ∧ i < σ.length
  · rw [if_pos hm, if_pos hm]
  · rw [if_neg hm, if_neg hm]
    by_cases hi : i ∈ is
    · have : σ.length ≤ i := by
        have := hs i hi
        by_cases z : i < σ.length
        · exact absurd ⟨this, z⟩ hm
        · omega
      rw [List.getElem?_eq_none (by omega), List.getElem?_eq_none this]
    · rw [h.2 i hi, wipe_get, if_neg hm]

/-! ### a thing at D that the store does not name -/
section
variable {K : PySem.W.Frag} {N : Nm} {m m1 m' : Mp} {H H1 H' : Hp} {s s1 s' : S} {n n' : Nat} {D : Addr}
theorem side_wx {u w : HO} (hD : H D = some u) (hu : Mutb u) : Wx n H m n (upd H D w) m :=
  ⟨Nat.le_refl _, fun _ _ => rfl, fun a o h ho => by
    by_cases e : a = D
    · subst e; rw [hD] at h; cases h; exact absurd hu ho
    · rw [upd_ne e]; exact h⟩
theorem Rel.side {u w : HO} (r : Rel K N H m s) (hD : H D = some u) (hu : Mutb u) (hm : ∀ j, j < s.length → m j ≠ D) : Rel K N (upd H D w) m s where
  inj := r.inj
  obj := fun i o h => (r.obj i o h).mono (side_wx hD hu) (upd_ne (hm i (List.getElem?_eq_some_iff.mp h).1))
theorem side_kx {u w : HO} (hD : H D = some u) (hu : Mutb u) (hf : ∀ o x, u ≠ .frz o x) : Kx n H m n (upd H D w) m :=
  ⟨side_wx hD hu, fun a o x h => by
    by_cases e : a = D
    · subst e; rw [hD] at h; cases h; exact absurd rfl (hf o x)
    · rw [upd_ne e]; exact h⟩
theorem Ext.side {w : HO} (x : Ext n H m n' H' m') (hD : H D = none) : Ext n H m n' (upd H' D w) m' where
  le := x.le
  map := x.map
  keep := fun a o h hn => by rw [upd_ne (L2.ne_of_none h hD)]; exact x.keep a o h hn
  there := fun a h => by
    by_cases e : a = D
    · subst e; exact absurd hD h
    · rw [upd_ne e]; exact x.there a h
  new := x.new
  frz := fun a o u h => by rw [upd_ne (L2.ne_of_none h hD)]; exact x.frz a o u h
theorem Ext.out {u : HO} (x : Ext n H m n' H' m') (hD : H D = some u) (h : ∀ j, j < n → m j ≠ D) : ∀ j, j < n' → m' j ≠ D := fun j hj e => by
  by_cases hl : j < n
  · exact h j hl ((x.map j hl).symm.trans e)
  · have q := x.new j (Nat.le_of_not_lt hl) hj
    rw [e, hD] at q; cases q
/-- the new list is named at last -/
theorem Rel.named {ps : List P} {vs : List V} (r : Rel K N H m s) (hD : H D = some (.lst vs)) (d : Dens K H m s.length ps vs) (hm : ∀ j, j < s.length → m j ≠ D) : Rel K N H (mpush m s.length D) (s ++ [.lst ps]) := by
  have wx : Wx s.length H m (s.length + 1) H (mpush m s.length D) := ⟨Nat.le_succ _, fun i h => mpush_lt h, fun _ _ h _ => h⟩
  constructor
  · intro i j hi hj e
    rw [List.length_append, List.length_singleton] at hi hj
    by_cases h1 : i < s.length <;> by_cases h2 : j < s.length
    · rw [mpush_lt h1, mpush_lt h2] at e; exact r.inj i j h1 h2 e
    · have e2 : j = s.length := by omega
      subst e2
      rw [mpush_lt h1, mpush_at] at e
      exact absurd e (hm i h1)
    · have e2 : i = s.length := by omega
      subst e2
      rw [mpush_lt h2, mpush_at] at e
      exact absurd e.symm (hm j h2)
    · omega
  · intro i o h
    rw [List.length_append, List.length_singleton]
    have hi := (List.getElem?_eq_some_iff.mp h).1
    rw [List.length_append, List.length_singleton] at hi
    by_cases h1 : i < s.length
    · rw [List.getElem?_append_left h1] at h
      rw [mpush_lt h1]
      exact (r.obj i o h).mono wx rfl
    · have e : i = s.length := by omega
      subst e
      rw [List.getElem?_append_right (Nat.le_refl _), Nat.sub_self] at h
      cases h
      rw [mpush_at]
      exact ⟨vs, hD, Dens.mono wx _ _ d⟩
end

/-! ### comprehensions -/
section
variable {K : PySem.W.Frag} {N : Nm}
/-- within a comprehension whose list is made at D: the store was s0 ahead of it, the walk began at s1 -/
structure LcSt (K : PySem.W.Frag) (N : Nm) (D : Addr) (l : Loc) (σ : L2.St) (s0 : S) (H0 : Hp) (m0 : Mp) (s1 : S) (H1 : Hp) (m1 : Mp) (H : Hp) (m : Mp) (s : S) (acc : List P) : Prop where
  at_ : At K N σ H m l s
  ext : Ext s0.length H0 m0 s.length H m
  kx : Kx s1.length H1 m1 s.length H m
  lst : ∃ ws, H D = some (.lst ws) ∧ Dens K H m s.length acc ws
  out : ∀ j, j < s.length → m j ≠ D
section
variable {D : Addr} {l : Loc} {σ : L2.St} {s0 s1 s s' : S} {H0 H1 H H' : Hp} {m0 m1 m m' : Mp} {acc : List P}
theorem LcSt.step (c : LcSt K N D l σ s0 H0 m0 s1 H1 m1 H m s acc) (r : Rel K N H' m' s') (x : Ext s.length H m s'.length H' m') : LcSt K N D l σ s0 H0 m0 s1 H1 m1 H' m' s' acc where
  at_ := c.at_.step r x
  ext := c.ext.trans x
  kx := c.kx.trans (x.kx c.at_.rel)
  lst := let ⟨ws, h, d⟩ := c.lst; ⟨ws, x.keep _ _ h c.out, c.at_.rel.dens x d⟩
  out := let ⟨ws, h, d⟩ := c.lst; x.out h c.out
theorem LcSt.grow (c : LcSt K N D l σ s0 H0 m0 s1 H1 m1 H m s acc) (g : ∀ b o, H b = some o → H' b = some o) : LcSt K N D l σ s0 H0 m0 s1 H1 m1 H' m s acc := c.step (c.at_.rel.grow g) (Ext.grow g)
theorem LcSt.add {p : P} {v : V} (c : LcSt K N D l σ s0 H0 m0 s1 H1 m1 H m s acc) (hD : H0 D = none) (d : Den K H m s.length p v) (hl : acc.length < SZ) :
    ∃ ws, H D = some (.lst ws) ∧ ws.length < sizeLine ∧ LcSt K N D l σ s0 H0 m0 s1 H1 m1 (upd H D (.lst (ws ++ [v]))) m s (acc ++ [p]) := by
  obtain ⟨ws, h, ds⟩ := c.lst
  have wx : Wx s.length H m s.length (upd H D (.lst (ws ++ [v]))) m := side_wx h trivial
  refine ⟨ws, h, by rw [SZ_eq, ← ds.length]; exact hl, ⟨c.at_.rel.side h trivial c.out, c.at_.loc.mono wx⟩, c.ext.side hD, c.kx.trans (side_kx h trivial (fun _ _ z => nomatch z)), ⟨_, upd_same, Dens.mono wx _ _ (ds.append (Dens.single d))⟩, c.out⟩
/-- the walk changes, the rest stays -/
theorem LcSt.rebase (c : LcSt K N D l σ s0 H0 m0 s1 H1 m1 H m s acc) : LcSt K N D l σ s0 H0 m0 s H m H m s acc := ⟨c.at_, c.ext, Kx.refl, c.lst, c.out⟩
theorem LcSt.local {l2 : Loc} {σ2 : L2.St} (c : LcSt K N D l σ s0 H0 m0 s1 H1 m1 H m s acc) (h : LRel K H m s.length l2 σ2) : LcSt K N D l2 σ2 s0 H0 m0 s1 H1 m1 H m s acc := ⟨⟨c.at_.rel, h⟩, c.ext, c.kx, c.lst, c.out⟩
theorem LcSt.re {s1' : S} {H1' : Hp} {m1' : Mp} (c : LcSt K N D l σ s0 H0 m0 s1 H1 m1 H m s acc) (k : Kx s1'.length H1' m1' s.length H m) : LcSt K N D l σ s0 H0 m0 s1' H1' m1' H m s acc := ⟨c.at_, c.ext, k, c.lst, c.out⟩
end
theorem lcL_ok {g : S → Prop} {f : P → S → R (Option P)} {xs acc out : List P} {s s' : S} (e : lcL g f xs acc s = .ok out s') : g s := by
  cases xs with
  | nil => unfold lcL at e; split at e
           · assumption
           · cases e
  | cons y ys => unfold lcL at e; split at e
                 · assumption
                 · cases e
/-- one element: the target, the tests, the value -/
def elt (bt : P → Loc → Option Loc) (own : List Nat) (l : Loc) (fc : Loc → S → R Bool) (fe : Loc → S → R P) : P → S → R (Option P) :=
  fun x s => (ofO (bt x (wipe l own)) s).bind fun l2 s => (fc l2 s).bind fun k s => if k = true then (fe l2 s).bind fun p s => .ok (some p) s else .ok none s
theorem lc_walk {J : L2.It} {w : Walk} {bt : P → Loc → Option Loc} {is own : List Nat} {l : Loc} {σ : L2.St} {fc : Loc → S → R Bool} {fe : Loc → S → R P} {D : Addr} {Qd : Hp → Prop}
    {s0 s1 s s' : S} {H0 H1 H : Hp} {m0 m1 m : Mp} {acc out : List P} (hs : ∀ i ∈ is, i ∈ own) (hD : H0 D = none) (run : Runs K N J s1 H1 m1 w) (c : LcSt K N D l σ s0 H0 m0 s1 H1 m1 H m s acc)
    (e : lcL w.2 (elt bt own l fc fe) w.1 acc s = .ok out s') (fin : ∀ H m, LcSt K N D l σ s0 H0 m0 s1 H1 m1 H m s' out → Qd H) :
    ∃ W : Nat → Nat → Hp → Prop, (∃ n, W 0 n H) ∧ ∀ i n H, W i n H →
      (J.stop i H ∧ Qd H) ∨ (J.go i H ∧ ∃ Nx : Hp → Prop, (∀ H', Nx H' → ∃ n', n' < n ∧ W (i + 1) n' H') ∧ ∀ x H', J.yld i H x H' → tG K N bt is x (L2.wipe σ own) H' fun σ2 H2 => L2.wipe σ2 own = L2.wipe σ own ∧ tAT K N fc σ2 H2 fun b H3 =>
        if b = true then tA K N fe σ2 H3 fun y H4 => ∃ acc, H4 D = some (.lst acc) ∧ acc.length < sizeLine ∧ Nx (upd H4 D (.lst (acc ++ [y]))) else Nx H3) := by
  refine ⟨fun i n H => n = w.1.length - i ∧ ∃ m s acc, LcSt K N D l σ s0 H0 m0 s1 H1 m1 H m s acc ∧ lcL w.2 (elt bt own l fc fe) (w.1.drop i) acc s = .ok out s', ⟨_, rfl, m, s, acc, c, e⟩, ?_⟩
  clear e c
  rintro i n H ⟨rfl, m, s, acc, c, e⟩
  rcases run.turn i s H m c.kx c.at_.rel (lcL_ok e) with ⟨hle, st⟩ | ⟨y, hy, go, yl⟩
  · left
    rw [drop_nil hle] at e
    unfold lcL at e
    split at e
    · cases e
      exact ⟨st, fin H m c⟩
    · cases e
  · right
    obtain ⟨hd, hl⟩ := drop_at hy
    rw [hd] at e
    unfold lcL at e
    split at e
    · obtain ⟨o, s2, e3, e4⟩ := bind_eq_ok e
      unfold elt at e3
      obtain ⟨l2, s3, e5, e6⟩ := bind_eq_ok e3
      obtain ⟨e5', rfl⟩ := ofO_ok e5
      obtain ⟨b, s4, e7, e8⟩ := bind_eq_ok e6
      refine ⟨go, fun H' => ∃ m s acc, LcSt K N D l σ s0 H0 m0 s1 H1 m1 H' m s acc ∧ lcL w.2 (elt bt own l fc fe) (w.1.drop (i + 1)) acc s = .ok out s', ?_, fun v H2 hv => ?_⟩
      · intro H' h
        exact ⟨_, by omega, rfl, h⟩
      · obtain ⟨g2, d2⟩ := yl v H2 hv
        have c2 := c.grow g2
        refine ⟨m, wipe l own, s3, y, l2, ⟨c2.at_.rel, c2.at_.loc.wipe own⟩, d2, e5', fun σ' lr sm => ⟨wipe_same sm hs, ?_⟩⟩
        refine ⟨m, l2, s3, b, s4, ⟨c2.at_.rel, lr⟩, e7, fun H3 m3 r3 x3 => ?_⟩
        have c3 := c2.step r3 x3
        have lr3 : LRel K H3 m3 s4.length l2 σ' := lr.ext c2.at_.rel x3
        cases b with
        | false =>
          rw [if_neg (by simp)] at e8
          cases e8
          simp only [Bool.false_eq_true, if_false]
          exact ⟨m3, _, acc, c3, e4⟩
        | true =>
          rw [if_pos rfl] at e8
          obtain ⟨p, s5, e9, e10⟩ := bind_eq_ok e8
          cases e10
          simp only [if_true]
          refine ⟨m3, l2, s4, p, _, ⟨r3, lr3⟩, e9, fun z H4 m4 r4 x4 d4 => ?_⟩
          dsimp only at e4
          split at e4
          · rename_i hz
            obtain ⟨ws, h1, h2, c5⟩ := (c3.step r4 x4).add hD d4 hz
            exact ⟨ws, h1, h2, m4, _, _, c5, e4⟩
          · cases e4
    · cases e
/-- the new list's own start -/
theorem lc_start {D : Addr} {l : Loc} {σ : L2.St} {s0 s : S} {H0 H : Hp} {m0 m : Mp} (a : At K N σ H m l s) (x : Ext s0.length H0 m0 s.length H m) (hD : H D = none) (h0 : H0 D = none) : LcSt K N D l σ s0 H0 m0 s H m (upd H D (.lst [])) m s [] where
  at_ := a.step (a.rel.fresh hD) (Ext.fresh hD)
  ext := x.trans (Ext.fresh hD)
  kx := (Ext.fresh hD).kx a.rel
  lst := ⟨[], upd_same, rfl⟩
  out := fun j hj e => by
    obtain ⟨w, h1, _⟩ := a.rel.mutb hj
    rw [e, hD] at h1; cases h1
theorem lc_end {D : Addr} {l : Loc} {σ : L2.St} {s0 s1 s : S} {H0 H1 H : Hp} {m0 m1 m : Mp} {acc : List P} {Q : VK} (hD : H0 D = none) (c : LcSt K N D l σ s0 H0 m0 s1 H1 m1 H m s acc) (k : Beh K N m0 H0 s0 (.loc s.length) (s ++ [.lst acc]) Q) : Q (.ref D) H := by
  obtain ⟨ws, h, d⟩ := c.lst
  have e : (s ++ [O.lst acc]).length = s.length + 1 := by simp
  refine k _ _ (mpush m s.length D) (c.at_.rel.named h d c.out) ?_ ⟨by rw [e]; omega, by rw [mpush_at]⟩
  rw [e]
  refine ⟨Nat.le_succ_of_le c.ext.le, fun i hi => ?_, c.ext.keep, c.ext.there, fun i h1 h2 => ?_, c.ext.frz⟩
  · rw [mpush_lt (Nat.lt_of_lt_of_le hi c.ext.le)]; exact c.ext.map i hi
  · by_cases hl : i < s.length
    · rw [mpush_lt hl]; exact c.ext.new i h1 hl
    · have e2 : i = s.length := by omega
      subst e2
      rw [mpush_at]; exact hD
theorem lc_tA {fI : Loc → S → R Walk} {bt : P → Loc → Option Loc} {is own : List Nat} {fc : Loc → S → R Bool} {fe : Loc → S → R P} {σ : L2.St} {H : Hp} {Q : VK} (hs : ∀ i ∈ is, i ∈ own)
    (h : tA K N (fun l s => (fI l s).bind fun w s => (lcL w.2 (elt bt own l fc fe) w.1 [] s).bind fun acc s => alloc (.lst acc) s) σ H Q) :
    L2.tLc (tI K N fI) (tG K N bt is) (tAT K N fc) (tA K N fe) own σ H Q := by
  obtain ⟨m, l, s, p, s', at0, e, k⟩ := h
  obtain ⟨w, s1, e1, e2⟩ := bind_eq_ok e
  obtain ⟨acc, s2, e3, e4⟩ := bind_eq_ok e2
  cases e4
  refine ⟨m, l, s, w, s1, at0, e1, fun J H1 m1 r1 x1 run D hD => ?_⟩
  have h0 : H D = none := by
    cases z : H D with
    | none => rfl
    | some u => exact absurd hD (x1.there D (by rw [z]; simp))
  exact lc_walk hs h0 run (lc_start (at0.step r1 x1) x1 hD h0) e3 fun H' m' c => lc_end h0 c k
end
end Pa
/-! Pa, part M: comprehensions with two fors, dicts that are walked. -/
namespace Pa
open PySem (Str PyData Addr Value Obj Shared Expr Stmt Pos model wpAny sizeLine cLine Heap sysModules)
open L2 (V HO Hp Rd SqL SqT upd upd_same upd_ne VK TE TT TA TS TG TGs TI Ends Cx Inv PE PT PA PS PSs PG PGs PI RelV Vals EP Key kV R2 OpR CallR)

section
variable {K : PySem.W.Frag} {N : Nm}
noncomputable def elt2 (bt : P → Loc → Option Loc) (own : List Nat) (l : Loc) (fc : Loc → S → R Bool) (fI : Loc → S → R Walk) (bt2 : P → Loc → Option Loc) (own2 : List Nat) (fc2 : Loc → S → R Bool) (fe : Loc → S → R P) : P → List P → S → R (List P) :=
  fun x acc s => (ofO (bt x (wipe l own)) s).bind fun l2 s => (fc l2 s).bind fun k s => if k = true then (fI l2 s).bind fun w2 s => lcL w2.2 (elt bt2 own2 l2 fc2 fe) w2.1 acc s else .ok acc s
theorem lcI_ok {g : S → Prop} {f : P → List P → S → R (List P)} {xs acc out : List P} {s s' : S} (e : lcI g f xs acc s = .ok out s') : g s := by
  cases xs with
  | nil => unfold lcI at e; split at e
           · assumption
           · cases e
  | cons y ys => unfold lcI at e; split at e
                 · assumption
                 · cases e
theorem lc2_tA {fI fI2 : Loc → S → R Walk} {bt bt2 : P → Loc → Option Loc} {is is2 own own2 : List Nat} {fc fc2 : Loc → S → R Bool} {fe : Loc → S → R P} {σ : L2.St} {H : Hp} {Q : VK} (hs : ∀ i ∈ is, i ∈ own) (hs2 : ∀ i ∈ is2, i ∈ own2)
    (h : tA K N (fun l s => (fI l s).bind fun w s => (lcI w.2 (elt2 bt own l fc fI2 bt2 own2 fc2 fe) w.1 [] s).bind fun acc s => alloc (.lst acc) s) σ H Q) :
    L2.tLc2 (tI K N fI) (tG K N bt is) (tAT K N fc) (tI K N fI2) (tG K N bt2 is2) (tAT K N fc2) (tA K N fe) own own2 σ H Q := by
  obtain ⟨m0, l, s0, p, s', at0, e, k⟩ := h
  obtain ⟨w, s1, e1, e2⟩ := bind_eq_ok e
  obtain ⟨out, s2, e3, e4⟩ := bind_eq_ok e2
  cases e4
  refine ⟨m0, l, s0, w, s1, at0, e1, fun J H1 m1 r1 x1 run D hD1 => ?_⟩
  have hD : H D = none := by
    cases z : H D with
    | none => rfl
    | some u => exact absurd hD1 (x1.there D (by rw [z]; simp))
  have c := lc_start (at0.step r1 x1) x1 hD1 hD
  refine ⟨fun i n H' => n = w.1.length - i ∧ ∃ m s acc, LcSt K N D l σ s0 H m0 s1 H1 m1 H' m s acc ∧ lcI w.2 (elt2 bt own l fc fI2 bt2 own2 fc2 fe) (w.1.drop i) acc s = .ok out s2, ⟨_, rfl, m1, s1, [], c, e3⟩, ?_⟩
  clear c e3 e e1 e2 r1 x1 hD1
  rintro i n H' ⟨rfl, m, s, acc, c, e⟩
  rcases run.turn i s H' m c.kx c.at_.rel (lcI_ok e) with ⟨hle, st⟩ | ⟨y, hy, go, yl⟩
  · left
    rw [drop_nil hle] at e
    unfold lcI at e
    split at e
    · cases e
      exact ⟨st, lc_end hD c k⟩
    · cases e
  · right
    obtain ⟨hd, hl⟩ := drop_at hy
    rw [hd] at e
    unfold lcI at e
    split at e
    · obtain ⟨acc2, s3, e3, e4⟩ := bind_eq_ok e
      unfold elt2 at e3
      obtain ⟨l2, s4, e5, e6⟩ := bind_eq_ok e3
      obtain ⟨e5', rfl⟩ := ofO_ok e5
      obtain ⟨b, s5, e7, e8⟩ := bind_eq_ok e6
      refine ⟨go, fun H' => ∃ m s acc, LcSt K N D l σ s0 H m0 s1 H1 m1 H' m s acc ∧ lcI w.2 (elt2 bt own l fc fI2 bt2 own2 fc2 fe) (w.1.drop (i + 1)) acc s = .ok out s2, ?_, fun v H2 hv => ?_⟩
      · intro H' h
        exact ⟨_, by omega, rfl, h⟩
      · obtain ⟨g2, d2⟩ := yl v H2 hv
        have c2 := c.grow g2
        refine ⟨m, wipe l own, _, y, l2, ⟨c2.at_.rel, c2.at_.loc.wipe own⟩, d2, e5', fun σ' lr sm => ⟨wipe_same sm hs, ?_⟩⟩
        refine ⟨m, l2, _, b, s5, ⟨c2.at_.rel, lr⟩, e7, fun H3 m3 r3 x3 => ?_⟩
        have c3 := c2.step r3 x3
        have lr3 : LRel K H3 m3 s5.length l2 σ' := lr.ext c2.at_.rel x3
        cases b with
        | false =>
          rw [if_neg (by simp)] at e8
          cases e8
          simp only [Bool.false_eq_true, if_false]
          exact ⟨m3, _, _, c3, e4⟩
        | true =>
          rw [if_pos rfl] at e8
          obtain ⟨w2, s6, e9, e10⟩ := bind_eq_ok e8
          simp only [if_true]
          refine ⟨m3, l2, s5, w2, s6, ⟨r3, lr3⟩, e9, fun J1 H4 m4 r4 x4 run2 => ?_⟩
          have c4 := c3.step r4 x4
          have lr4 : LRel K H4 m4 s6.length l2 σ' := lr3.ext r3 x4
          refine lc_walk hs2 hD run2 (c4.rebase.local lr4) e10 fun H5 m5 c5 => ?_
          exact ⟨m5, _, _, ⟨⟨c5.at_.rel, c4.at_.loc.mono c5.kx.toWx⟩, c5.ext, c4.kx.trans c5.kx, c5.lst, c5.out⟩, e4⟩
    · cases e

/-! ### dicts -/
def walkP (itm : Bool) (p : P) (s : S) : R Walk := match p with
  | .loc n => match s[n]? with
    | some (.dct true kvs) => .ok (walkD itm kvs, locked n kvs) s
    | _ => .bad
  | _ => .bad
def fID (fa : Loc → S → R P) (itm : Bool) (l : Loc) (s : S) : R Walk := (fa l s).bind fun p s => walkP itm p s
def Pth (fa : Loc → S → R P) : Prop := ∀ l s p s', fa l s = .ok p s' → s' = s ∧ ∀ n kvs, s[n]? = some (.dct false kvs) → fa l (s.set n (.dct true kvs)) = .ok p (s.set n (.dct true kvs))
theorem walkP_ok {itm : Bool} {p : P} {s s' : S} {w : Walk} (h : walkP itm p s = .ok w s') : ∃ n kvs, p = .loc n ∧ s[n]? = some (.dct true kvs) ∧ w = (walkD itm kvs, locked n kvs) ∧ s' = s := by
  unfold walkP at h
  cases p <;> first | (cases h; done) | skip
  rename_i n
  dsimp only at h
  split at h
  · rename_i kvs e
    cases h
    exact ⟨n, kvs, rfl, e, rfl, rfl⟩
  · cases h
theorem lockD_ok {p : P} {s : S} {n : Nat} {kvs : List (P × P)} {s' : S} (h : lockD p s = some (n, kvs, s')) : p = .loc n ∧ s[n]? = some (.dct false kvs) ∧ s' = s.set n (.dct true kvs) := by
  unfold lockD at h
  cases p <;> first | (cases h; done) | skip
  rename_i n
  dsimp only at h
  split at h
  · rename_i kvs e
    cases h
    exact ⟨rfl, e, rfl⟩
  · cases h
/-- the lock -/
theorem lock_rel {s : S} {H : Hp} {m : Mp} {n : Nat} {kvs : List (P × P)} (r : Rel K N H m s) (h : s[n]? = some (.dct false kvs)) :
    ∃ u, H (m n) = some u ∧ IsD u ∧ L2.Mut (some u) ∧ (∀ o x, u ≠ .frz o x) ∧ ∀ od, Rel K N (upd H (m n) (.frz od u)) m (s.set n (.dct true kvs)) := by
  have hl := (List.getElem?_eq_some_iff.mp h).1
  rcases r.obj n _ h with ⟨ks, f, d⟩ | ⟨ks, f, d⟩
  · exact ⟨_, f, trivial, trivial, (fun _ _ z => nomatch z), fun od => r.set hl (o := .dct true kvs) (Or.inl ⟨ks, ⟨od, upd_same⟩, DensD.mono (Wx.set r hl) _ _ d⟩)⟩
  · exact ⟨_, f, trivial, trivial, (fun _ _ z => nomatch z), fun od => r.set hl (o := .dct true kvs) (Or.inr ⟨ks, ⟨od, upd_same⟩, DensD.mono (Wx.set r hl) _ _ d⟩)⟩
theorem lock_ext {s : S} {H : Hp} {m : Mp} {n : Nat} {u w : HO} (r : Rel K N H m s) (hl : n < s.length) (h : H (m n) = some u) (hf : ∀ o x, u ≠ .frz o x) : Ext s.length H m s.length (upd H (m n) w) m :=
  Ext.set r hl fun o x e => by rw [h] at e; cases e; exact hf o x rfl
theorem unlock {s S3 : S} {H H' : Hp} {m m' : Mp} {n : Nat} {kvs : List (P × P)} {u : HO} {od : Obj} (hl : n < s.length) (hu : H (m n) = some u) (hf : ∀ o x, u ≠ .frz o x) (r' : Rel K N H' m' S3)
    (x : Ext s.length (upd H (m n) (.frz od u)) m S3.length H' m') (lk : S3[n]? = some (.dct true kvs)) :
    H' (m n) = some (.frz od u) ∧ Rel K N (upd H' (m n) u) m' (S3.set n (.dct false kvs)) ∧ Ext s.length H m S3.length (upd H' (m n) u) m' ∧ Wx S3.length H' m' S3.length (upd H' (m n) u) m' := by
  have e1 : H' (m n) = some (.frz od u) := x.frz _ _ _ upd_same
  have em : m' n = m n := x.map n hl
  have hl3 := (List.getElem?_eq_some_iff.mp lk).1
  have wx : Wx S3.length H' m' S3.length (upd H' (m n) u) m' := by rw [← em]; exact Wx.set r' hl3
  refine ⟨e1, ?_, ?_, wx⟩
  · rw [← em]
    refine r'.set hl3 ?_
    rw [em]
    rcases locked_rel r' lk (by rw [em]; exact e1) with ⟨ks, rfl, d⟩ | ⟨ks, rfl, d⟩
    · exact .inl ⟨ks, upd_same, DensD.mono wx _ _ d⟩
    · exact .inr ⟨ks, upd_same, DensD.mono wx _ _ d⟩
  · refine ⟨x.le, x.map, fun a o h hn => ?_, fun a h => ?_, fun i h1 h2 => ?_, fun a o w h => ?_⟩
    · have ne : a ≠ m n := fun e => hn n hl e.symm
      rw [upd_ne ne]
      exact x.keep a o (by rw [upd_ne ne]; exact h) hn
    · by_cases e : a = m n
      · subst e; rw [upd_same]; simp
      · rw [upd_ne e]
        exact x.there a (by rw [upd_ne e]; exact h)
    · have q := x.new i h1 h2
      by_cases e : m' i = m n
      · rw [e, upd_same] at q; cases q
      · rw [upd_ne e] at q; exact q
    · have ne : a ≠ m n := fun e => by rw [e, hu] at h; cases h; exact hf _ _ rfl
      rw [upd_ne ne]
      exact x.frz a o w (by rw [upd_ne ne]; exact h)
theorem lcL_end {g : S → Prop} {f : P → S → R (Option P)} : ∀ {xs acc out : List P} {s s' : S}, lcL g f xs acc s = .ok out s' → g s'
  | [], _, _, _, _, e => by
    unfold lcL at e
    split at e
    · cases e; assumption
    · cases e
  | x :: xs, _, _, _, _, e => by
    unfold lcL at e
    split at e
    · obtain ⟨o, s2, e1, e2⟩ := bind_eq_ok e
      cases o with
      | none => exact lcL_end e2
      | some y =>
        try dsimp only at e2
        split at e2
        · exact lcL_end e2
        · cases e2
    · cases e
open Classical in
theorem forD_tF {fa : Loc → S → R P} {itm : Bool} {bt : P → Loc → Option Loc} {fb : Loc → S → R Fl} {is : List Nat} {D : Ends} {σ : L2.St} {H : Hp} (hp : Pth fa)
    (h : tF K N (fun l s => (fa l s).bind fun p s => match lockD p s with
      | some (n, kvs, s) => (forL (locked n kvs) (fun x l s => (ofO (bt x l) s).bind fun l s => fb l s) (walkD itm kvs) l s).bind fun fl s => if locked n kvs s then .ok fl (s.set n (.dct false kvs)) else .bad
      | none => .bad) D σ H) :
    L2.tLock (L2.tFor (tI K N (fID fa itm)) (tG K N bt is) (tF K N fb)) D σ H := by
  obtain ⟨m, l, s, fl, s', at0, e, k⟩ := h
  obtain ⟨p, s1, e1, e2⟩ := bind_eq_ok e
  obtain ⟨rfl, e1'⟩ := hp _ _ _ _ e1
  try dsimp only at e2
  split at e2
  · rename_i n kvs s2 hlk
    obtain ⟨rfl, hn, rfl⟩ := lockD_ok hlk
    obtain ⟨fl3, s3, e3, e4⟩ := bind_eq_ok e2
    split at e4
    · rename_i lk
      cases e4
      have hl := (List.getElem?_eq_some_iff.mp hn).1
      obtain ⟨u, hu, hd, mu, hf, rl⟩ := lock_rel at0.rel hn
      refine ⟨m n, u, hu, mu, fun od => ?_⟩
      have x0 := lock_ext (w := .frz od u) at0.rel hl hu hf
      have ll : (s1.set n (.dct true kvs)).length = s1.length := List.length_set ..
      refine for_tF ⟨m, l, s1.set n (.dct true kvs), fl, s3, ⟨rl od, by rw [ll]; exact at0.loc.ext at0.rel x0⟩, ?_, ?_⟩
      · unfold fID
        dsimp only
        rw [e1' n kvs hn]
        have : (s1.set n (.dct true kvs))[n]? = some (.dct true kvs) := List.getElem?_set_self hl
        simp only [bind_ok, walkP, this]
        exact e3
      · have lenS : (s3.set n (.dct false kvs)).length = s3.length := List.length_set ..
        cases fl with
        | nx l3 =>
          intro σ' H' m' a x
          rw [ll] at x
          obtain ⟨g1, g2, g3, g4⟩ := unlock hl hu hf a.rel x lk
          exact ⟨g1, k σ' _ m' ⟨g2, by rw [lenS]; exact a.loc.mono g4⟩ (by rw [lenS]; exact g3)⟩
        | brk l3 =>
          intro σ' H' m' a x
          rw [ll] at x
          obtain ⟨g1, g2, g3, g4⟩ := unlock hl hu hf a.rel x lk
          exact ⟨g1, k σ' _ m' ⟨g2, by rw [lenS]; exact a.loc.mono g4⟩ (by rw [lenS]; exact g3)⟩
        | cnt l3 =>
          intro σ' H' m' a x
          rw [ll] at x
          obtain ⟨g1, g2, g3, g4⟩ := unlock hl hu hf a.rel x lk
          exact ⟨g1, k σ' _ m' ⟨g2, by rw [lenS]; exact a.loc.mono g4⟩ (by rw [lenS]; exact g3)⟩
        | ret p3 =>
          intro v H' m' r x d
          rw [ll] at x
          obtain ⟨g1, g2, g3, g4⟩ := unlock hl hu hf r x lk
          exact ⟨g1, k v _ m' g2 (by rw [lenS]; exact g3) (by rw [lenS]; exact Den.mono g4 _ _ d)⟩
    · cases e4
  · cases e2
theorem lcD_tA {fa : Loc → S → R P} {itm : Bool} {bt : P → Loc → Option Loc} {is own : List Nat} {fc : Loc → S → R Bool} {fe : Loc → S → R P} {σ : L2.St} {H : Hp} {Q : VK} (hp : Pth fa) (hs : ∀ i ∈ is, i ∈ own)
    (h : tA K N (fun l s => (fa l s).bind fun p s => match lockD p s with
      | some (n, kvs, s) => (lcL (locked n kvs) (elt bt own l fc fe) (walkD itm kvs) [] s).bind fun acc s => alloc (.lst acc) (s.set n (.dct false kvs))
      | none => .bad) σ H Q) :
    L2.tLockE (L2.tLc (tI K N (fID fa itm)) (tG K N bt is) (tAT K N fc) (tA K N fe) own) σ H Q := by
  obtain ⟨m, l, s, p, s', at0, e, k⟩ := h
  obtain ⟨p, s1, e1, e2⟩ := bind_eq_ok e
  obtain ⟨rfl, e1'⟩ := hp _ _ _ _ e1
  try dsimp only at e2
  split at e2
  · rename_i n kvs s2 hlk
    obtain ⟨rfl, hn, rfl⟩ := lockD_ok hlk
    obtain ⟨acc, s3, e3, e4⟩ := bind_eq_ok e2
    cases e4
    have lk := lcL_end e3
    have hl := (List.getElem?_eq_some_iff.mp hn).1
    obtain ⟨u, hu, hd, mu, hf, rl⟩ := lock_rel at0.rel hn
    refine ⟨m n, u, hu, mu, fun od => ?_⟩
    have x0 := lock_ext (w := .frz od u) at0.rel hl hu hf
    have ll : (s1.set n (.dct true kvs)).length = s1.length := List.length_set ..
    refine lc_tA hs ⟨m, l, s1.set n (.dct true kvs), .loc s3.length, s3 ++ [.lst acc], ⟨rl od, by rw [ll]; exact at0.loc.ext at0.rel x0⟩, ?_, ?_⟩
    · unfold fID
      dsimp only
      rw [e1' n kvs hn]
      have : (s1.set n (.dct true kvs))[n]? = some (.dct true kvs) := List.getElem?_set_self hl
      simp only [bind_ok, walkP, this]
      rw [e3]
      rfl
    · intro v H' m' r x d
      rw [ll] at x
      have hl3 := (List.getElem?_eq_some_iff.mp lk).1
      have lk' : (s3 ++ [O.lst acc])[n]? = some (.dct true kvs) := by rw [List.getElem?_append_left hl3]; exact lk
      obtain ⟨g1, g2, g3, g4⟩ := unlock hl hu hf r x lk'
      have es : (s3 ++ [O.lst acc]).set n (.dct false kvs) = s3.set n (.dct false kvs) ++ [.lst acc] := List.set_append_left _ _ hl3
      have lenS : (s3.set n (.dct false kvs)).length = s3.length := List.length_set ..
      rw [es] at g2
      have el : (s3.set n (.dct false kvs) ++ [O.lst acc]).length = (s3 ++ [O.lst acc]).length := by simp
      refine ⟨g1, k v _ m' g2 (by rw [el]; exact g3) ?_⟩
      rw [el, lenS]
      exact Den.mono g4 _ _ d
  · cases e2
end
section
variable {X : Cx} {N : Nm} {tg e : Expr}
theorem wi_items {fa : Loc → S → R P} {apos cpos tpos : Pos} {elts : List Expr} {kk : Nat} (he : PE X e (tA X.K N fa)) (hbase : PySem.attributeBase e "items" X.env (PySem.eval e X.env) = PySem.eval e X.env) (hline : (apos.endLine == cpos.line) = true) :
    PI X (.Tuple elts kk tpos) (.Call (.Attribute e "items" apos) [] [] cpos) (tI X.K N (fID fa true)) := by
  refine PI.imp (pi_its he hbase hline) fun σ H R ⟨m, l, s, w, s', at0, e, k⟩ => ?_
  obtain ⟨p, s1, e1, e2⟩ := bind_eq_ok e
  obtain ⟨n, kvs, rfl, hn, rfl, rfl⟩ := walkP_ok e2
  refine tA_step at0 e1 fun v H' m' at1 x d => ?_
  obtain ⟨hl, rfl⟩ := d
  rcases at1.rel.obj n _ hn with ⟨ks, ⟨o, f⟩, d⟩ | ⟨ks, ⟨o, f⟩, d⟩
  · exact ⟨m' n, o, .dK ks, rfl, f, trivial, k _ _ m' at1.rel x (runs_I hl d.length.symm f)⟩
  · exact ⟨m' n, o, .dT ks, rfl, f, trivial, k _ _ m' at1.rel x (runs_I hl d.length.symm f)⟩
theorem wi_keys {fa : Loc → S → R P} (he : PE X e (tA X.K N fa)) : PI X tg e (tI X.K N (fID fa false)) := by
  refine PI.imp (L2.pi_keys he) fun σ H R ⟨m, l, s, w, s', at0, e, k⟩ => ?_
  obtain ⟨p, s1, e1, e2⟩ := bind_eq_ok e
  obtain ⟨n, kvs, rfl, hn, rfl, rfl⟩ := walkP_ok e2
  refine tA_step at0 e1 fun v H' m' at1 x d => ?_
  obtain ⟨hl, rfl⟩ := d
  rcases at1.rel.obj n _ hn with ⟨ks, ⟨o, f⟩, d⟩ | ⟨ks, ⟨o, f⟩, d⟩
  · exact ⟨m' n, o, rfl, .inl ⟨ks, f, k _ _ m' at1.rel x (runs_K hl d.length.symm f)⟩⟩
  · exact ⟨m' n, o, rfl, .inr ⟨ks, f, k _ _ m' at1.rel x (runs_KT hl d.length.symm f)⟩⟩
end
end Pa
/-! Pa, part N: each kind of expression, on its reading. -/
namespace Pa
open PySem (Str PyData Addr Value Obj Shared Expr Stmt Pos model wpAny sizeLine cLine Heap sysModules starEach backTo eval BoolOp)
open L2 (V HO Hp Rd SqL SqT upd upd_same upd_ne VK TE TT TA TS TG TGs TI Ends Cx Inv PE PT PA PS PSs PG PGs PI PW RelV Vals EP Key kV R2 OpR CallR)

def nost : Expr → Bool
  | .Starred .. => false
  | .Slice .. => false
  | .Set .. => false
  | .NamedExpr .. => false
  | _ => true
def noc0 : Expr → Bool
  | .Call (.Name _ _) [] [] _ => false
  | _ => true
theorem star_cons {e : Expr} {es : List Expr} {env : PySem.Env} (h : nost e = true) : starEach (e :: es) env = (false, eval e env) :: starEach es env := by
  cases e <;> first | rfl | (cases h; done)
theorem star_all {env : PySem.Env} : ∀ {es : List Expr}, es.all nost = true → starEach es env = es.map fun e => (false, eval e env)
  | [], _ => rfl
  | e :: es, h => by
    rw [List.all_cons, Bool.and_eq_true] at h
    rw [star_cons h.1, star_all h.2]; rfl
theorem back_any {pos : Pos} {env : PySem.Env} {es : List Expr} (h : es.all nost = true) : (backTo pos (starEach es env)).any (·.1) = false := by
  rw [star_all h]
  unfold backTo
  simp
theorem base_ok {o : Expr} {m : Str} {env : PySem.Env} {w : PySem.Sem Value} (h : noc0 o = true) : PySem.attributeBase o m env w = w := by
  unfold PySem.attributeBase
  split
  · cases h
  · rfl
theorem plainIx_ok {b : Expr} (h : nost b = true) : L2.PlainIx b := by
  intro o i
  cases b <;> first | rfl | (cases h; done)
theorem folded_ok {e : Expr} {env : PySem.Env} (h : nost e = true) : ∀ x, PySem.foldedSetIterable e env x = pure x := by
  intro x
  cases e <;> first | rfl | (cases h; done)
theorem marks_ok {op : PySem.CmpOp} {b : Expr} (h : nost b = true) : PySem.behindInMarks op b = false := by
  cases b <;> cases op <;> first | rfl | (cases h; done)
theorem few_ok {pos : Pos} {env : PySem.Env} {es : List Expr} (h : es.all nost = true) (hl : es.length < 30) :
    ((backTo pos (starEach es env)).all (fun x => !x.1) && (PySem.backToKw pos (PySem.keywordEach [] env)).all (fun x => x.1.isSome)
      && decide (es.length + ([] : List PySem.Keyword).length + (if ([] : List PySem.Keyword).isEmpty then 0 else 1) < 30)) = true := by
  rw [star_all h]
  unfold backTo
  have : (PySem.backToKw pos (PySem.keywordEach [] env)).all (fun x => x.1.isSome) = true := rfl
  rw [this]
  simp [hl]
theorem meth_eval {o : Expr} {m : Str} {apos pos : Pos} {args : List Expr} {env : PySem.Env} (h : noc0 o = true) (ha : args.all nost = true) (hl : args.length < 30) (hline : (apos.endLine == pos.line) = true) :
    eval (.Call (.Attribute o m apos) args [] pos) env = (do
      let ov ← eval o env
      PySem.standAt apos.atName
      let (f, first) ← PySem.holding [ov] (PySem.getMethod ov m (do return (← PySem.importBound o env).getD true))
      PySem.callWith pos f first (backTo pos (starEach args env)) (PySem.backToKw pos (PySem.keywordEach [] env))) := by
  rw [PySem.arm_eval_Call, base_ok h]
  have hform : PySem.methodCallForm (args.length + ([] : List PySem.Keyword).length) (backTo pos (starEach args env)) (PySem.backToKw pos (PySem.keywordEach [] env)) = true := few_ok ha hl
  have hpos : PySem.methodCallPos true o env apos pos = pure pos := by unfold PySem.methodCallPos; simp [hline]
  unfold PySem.methodCall
  rw [hform, hpos]
  rfl

section
variable {X : Cx} {N : Nm} {x y z : Expr} {pos : Pos} (G : Env) {e a b c : Ex} {xs : List Expr} {es : Exs}
theorem c_v {i : Nat} {nm : Str} (hN : X.N[i]? = some nm) (hv : L2.Vis X.env.scope nm) (hd : (nm == ("__debug__" : Str)) = false) (hcd : (nm == ("__classdict__" : Str)) = false) : PE X (.Name nm pos) (tA X.K N (ev G (.v i))) :=
  PE.imp (L2.pe_var hN hv hd hcd) fun σ H Q ⟨m, l, s, p, s', at0, e, k⟩ => by
    unfold ev at e
    split at e
    · rename_i p' hp
      cases e
      obtain ⟨v, h1, h2⟩ := at0.loc.2 i _ hp
      exact ⟨v, h1, k.same at0.rel h2⟩
    · cases e
theorem c_const {v : V} {p : P} {ex' : Ex} (h : PE X x (L2.tC v)) (hd : ∀ (H : Hp) (m : Mp) (n : Nat), Den X.K H m n p v) (he : ∀ l s, ev G ex' l s = .ok p s) : PE X x (tA X.K N (ev G ex')) :=
  PE.imp h fun σ H Q ⟨m, l, s, q, s', at0, e, k⟩ => by
    rw [he] at e
    cases e
    exact k.same at0.rel (hd _ _ _)
def Exs.len : Exs → Nat
  | .nil => 0
  | .cons _ es => es.len + 1
theorem evs_len : ∀ {es : Exs} {l : Loc} {s s' : S} {ps : List P}, evs G es l s = .ok ps s' → ps.length = es.len
  | .nil, l, s, s', ps, h => by unfold evs at h; cases h; rfl
  | .cons e es, l, s, s', ps, h => by
    unfold evs at h
    obtain ⟨p, s1, e1, e2⟩ := bind_eq_ok h
    obtain ⟨qs, s2, e3, e4⟩ := bind_eq_ok e2
    cases e4
    show qs.length + 1 = es.len + 1
    rw [evs_len e3]
theorem a_nil : PA X [] (tAs X.K N (evs G .nil)) := PA.imp L2.pa_nil fun σ H Q ⟨m, l, s, ps, s', at0, e, k⟩ => by
  unfold evs at e
  cases e
  exact k [] H m at0.rel Ext.refl rfl
theorem a_cons (hx : nost x = true) (h : PE X x (tA X.K N (ev G e))) (hr : PA X xs (tAs X.K N (evs G es))) : PA X (x :: xs) (tAs X.K N (evs G (.cons e es))) :=
  PA.imp (L2.pa_cons h hr (star_cons hx)) fun σ H Q ⟨m, l, s, ps, s', at0, e, k⟩ => by
    unfold evs at e
    obtain ⟨p, s1, e1, e2⟩ := bind_eq_ok e
    obtain ⟨qs, s2, e3, e4⟩ := bind_eq_ok e2
    cases e4
    refine tA_step at0 e1 fun v H1 m1 at1 x1 d1 => ?_
    exact ⟨m1, l, s1, qs, _, at1, e3, fun vs H2 m2 r2 x2 d2 => k (v :: vs) H2 m2 r2 (x1.trans x2) (Dens.cons (at1.rel.den x2 d1) d2)⟩
theorem c_tup {k : Nat} (h : PA X xs (tAs X.K N (evs G es))) (hl : es.len ≤ 1000) : PE X (.Tuple xs k pos) (tA X.K N (ev G (.tup es))) :=
  PE.imp (L2.pe_tup h) fun σ H Q ⟨m, l, s, p, s', at0, e, k⟩ => by
    unfold ev at e
    obtain ⟨ps, s1, e1, e2⟩ := bind_eq_ok e
    cases e2
    refine ⟨m, l, s, ps, s', at0, e1, fun vs H1 m1 r1 x1 d1 => ⟨?_, fun p hp => ?_⟩⟩
    · rw [← d1.length, evs_len G e1, SZ_eq]
      exact Nat.le_trans hl (by decide)
    · exact k _ _ m1 (r1.fresh hp) (x1.trans (Ext.fresh hp)) ⟨p, vs, rfl, upd_same, r1.dens (Ext.fresh hp) d1⟩
theorem c_lst (h : PA X xs (tAs X.K N (evs G es))) (hl : es.len ≤ 1000) : PE X (.List xs pos) (tA X.K N (ev G (.lst es))) :=
  PE.imp (L2.pe_lst h) fun σ H Q ⟨m, l, s, p, s', at0, e, k⟩ => by
    unfold ev at e
    obtain ⟨ps, s1, e1, e2⟩ := bind_eq_ok e
    cases e2
    refine ⟨m, l, s, ps, s1, at0, e1, fun vs H1 m1 r1 x1 d1 => ⟨?_, fun p hp => ?_⟩⟩
    · rw [← d1.length, evs_len G e1, SZ_eq]
      exact Nat.le_trans hl (by decide)
    · have k1 : Beh X.K N m1 H1 s1 (.loc s1.length) (s1 ++ [.lst ps]) Q := fun v H2 m2 r2 x2 d2 => k v H2 m2 r2 (x1.trans x2) d2
      exact k1.lst r1 d1 hp
theorem c_dct : PE X (.Dict [] [] pos) (tA X.K N (ev G .dct)) :=
  PE.imp (L2.pe_dnewK) fun σ H Q ⟨m, l, s, p, s', at0, e, k⟩ => by
    unfold ev at e
    cases e
    intro d hd
    exact k.push at0.rel hd (.inl ⟨[], upd_same, rfl⟩)
theorem c_bin {o : BinO} (ha : PE X x (tA X.K N (ev G a))) (hb : PE X y (tA X.K N (ev G b))) : PE X (.BinOp x (opB o) y pos) (tA X.K N (ev G (.bin o a b))) :=
  PE.imp (L2.pe_op (bin_ok o) ha hb) fun σ H Q h => tA_bin (g := binP o) (by simpa only [ev] using h)
theorem c_neg (ha : PE X x (tA X.K N (ev G a))) : PE X (.UnaryOp .USub x pos) (tA X.K N (ev G (.neg a))) :=
  PE.imp (L2.pe_un L2.un_neg ha) fun σ H Q ⟨m, l, s, p, s', at0, e, k⟩ => by
    unfold ev at e
    obtain ⟨q, s1, e1, e2⟩ := bind_eq_ok e
    cases q <;> first | (cases e2; done) | skip
    rename_i i
    cases e2
    refine tA_step at0 e1 fun v H1 m1 at1 x1 d1 => ?_
    cases d1
    exact ⟨i, rfl, k _ _ m1 at1.rel x1 rfl⟩
theorem tru_of {K : PySem.W.Frag} {H : Hp} {m : Mp} {s : S} {p : P} {v : V} {k : Bool} (r : Rel K N H m s) (d : Den K H m s.length p v) (h : truth s p = some k) : L2.TruV K v H k := by
  cases p with
  | non => cases d; cases h; rfl
  | bl b => cases d; cases h; rfl
  | int i => cases d; cases h; rfl
  | str x =>
    cases d
    have h' : (if x.length ≤ SZ then some ((x.length : Int) != 0) else none) = some k := h
    split at h'
    · rename_i hl
      cases h'
      exact ⟨by rw [SZ_eq]; exact hl, rfl⟩
    · cases h'
  | tup ps =>
    obtain ⟨a, vs, rfl, q, ds⟩ := d
    cases h
    exact .inr (.inl ⟨vs, SqT.of q, ds.isEmpty⟩)
  | rol ps =>
    cases h
    obtain ⟨a, vs, rfl, q, ds⟩ := lstOf_lst r (p := .rol ps) rfl d
    exact .inl ⟨vs, q, ds.isEmpty⟩
  | loc n =>
    obtain ⟨hn, rfl⟩ := d
    dsimp only [truth] at h
    split at h
    · rename_i xs e
      cases h
      obtain ⟨_, vs, h1, ds⟩ := r.lst e
      exact .inl ⟨vs, SqL.of h1, ds.isEmpty⟩
    · cases h
theorem c_not (ha : PE X x (tA X.K N (ev G a))) : PE X (.UnaryOp .Not x pos) (tA X.K N (ev G (.not a))) :=
  PE.imp (L2.pe_notT ha) fun σ H Q ⟨m, l, s, p, s', at0, e, k⟩ => by
    unfold ev at e
    obtain ⟨q, s1, e1, e2⟩ := bind_eq_ok e
    obtain ⟨b, s2, e3, e4⟩ := bind_eq_ok e2
    obtain ⟨e3', rfl⟩ := ofO_ok e3
    cases e4
    refine tA_step at0 e1 fun v H1 m1 at1 x1 d1 => ?_
    exact ⟨b, tru_of at1.rel d1 e3', k _ _ m1 at1.rel x1 rfl⟩
theorem c_cmp (hu : X.A.units + 64 < cLine) {o : CmpO} (hy : nost y = true) (ha : PE X x (tA X.K N (ev G a))) (hb : PE X y (tA X.K N (ev G b))) : PE X (.Compare x [opC o] [y] pos) (tA X.K N (ev G (.cmp o a b))) :=
  PE.imp (L2.pe_cmpR (cmp_ok hu o) ha hb (marks_ok hy)) fun σ H Q h => tA_bin (g := cmpP o) (by simpa only [ev] using h)
theorem c_cmp2 (hu : X.A.units + 64 < cLine) {o o' : CmpO} (hy : nost y = true) (hz : nost z = true) (ha : PE X x (tA X.K N (ev G a))) (hb : PE X y (tA X.K N (ev G b))) (hc : PE X z (tA X.K N (ev G c))) :
    PE X (.Compare x [opC o, opC o'] [y, z] pos) (tA X.K N (ev G (.cmp2 o o' a b c))) :=
  PE.imp (L2.pe_chain (cmp_ok hu o) (cmp_ok hu o') ha hb hc (by show PySem.behindInMarks _ _ = false; exact marks_ok hz)) fun σ H Q ⟨m, l, s, p, s', at0, e, k⟩ => by
    unfold ev at e
    obtain ⟨p1, s1, e1, e⟩ := bind_eq_ok e
    obtain ⟨p2, s2, e2, e⟩ := bind_eq_ok e
    obtain ⟨p3, s3, e3, e⟩ := bind_eq_ok e
    refine tA_step at0 e1 fun v1 H1 m1 at1 x1 d1 => ?_
    refine tA_step at1 e2 fun v2 H2 m2 at2 x2 d2 => ?_
    refine ⟨m2, s2, p1, p2, p3, s3, at2.rel, at1.rel.den x2 d1, d2, e3, fun v3 H3 m3 r3 x3 d3 => ?_⟩
    have at3 := at2.step r3 x3
    cases p3 <;> try (cases e; done)
    rename_i b
    cases d3
    refine ⟨b, rfl, ?_⟩
    cases b with
    | false => cases e; exact k _ _ m3 r3 ((x1.trans x2).trans x3) rfl
    | true =>
      obtain ⟨p4, s4, e4, e⟩ := bind_eq_ok e
      refine tA_step at3 e4 fun v4 H4 m4 at4 x4 d4 => ?_
      exact ⟨m4, s4, p2, p4, p, s', at4.rel, at3.rel.den x4 (at2.rel.den x3 d2), d4, e, fun v5 H5 m5 r5 x5 d5 => k v5 H5 m5 r5 ((((x1.trans x2).trans x3).trans x4).trans x5) d5⟩
theorem non_dec {K : PySem.W.Frag} {H : Hp} {m : Mp} {n : Nat} {p : P} {v : V} (d : Den K H m n p v) : decide (v = .non) = (match p with | .non => true | _ => false) := by
  cases p with
  | non => cases d; rfl
  | bl b => cases d; rfl
  | int i => cases d; rfl
  | str x => cases d; rfl
  | tup ps => obtain ⟨a, vs, rfl, _⟩ := d; rfl
  | rol ps => obtain ⟨a, vs, rfl, _⟩ := d; rfl
  | loc n => obtain ⟨_, rfl⟩ := d; rfl
theorem c_isN {j : Nat} {pos' : Pos} (ha : PE X x (tA X.K N (ev G a))) : PE X (.Compare x [.Is] [.Constant .none j pos'] pos) (tA X.K N (ev G (.isN a))) :=
  PE.imp (L2.pe_cmp (L2.pc_isN ha)) fun σ H Q ⟨m, l, s, p, s', at0, e, k⟩ => by
    unfold ev at e
    obtain ⟨q, s1, e1, e2⟩ := bind_eq_ok e
    cases e2
    refine tA_step at0 e1 fun v H1 m1 at1 x1 d1 => ?_
    exact k _ _ m1 at1.rel x1 (by show _ = _; rw [non_dec d1]; cases q <;> rfl)
theorem c_notN {j : Nat} {pos' : Pos} (ha : PE X x (tA X.K N (ev G a))) : PE X (.Compare x [.IsNot] [.Constant .none j pos'] pos) (tA X.K N (ev G (.notN a))) :=
  PE.imp (L2.pe_cmp (L2.pc_notN ha)) fun σ H Q ⟨m, l, s, p, s', at0, e, k⟩ => by
    unfold ev at e
    obtain ⟨q, s1, e1, e2⟩ := bind_eq_ok e
    cases e2
    refine tA_step at0 e1 fun v H1 m1 at1 x1 d1 => ?_
    exact k _ _ m1 at1.rel x1 (by show _ = _; rw [non_dec d1]; cases q <;> rfl)
theorem c_and {rest : List Expr} (ha : PE X x (tA X.K N (ev G a))) (hb : PE X (.BoolOp .And (y :: rest) pos) (tA X.K N (ev G b))) : PE X (.BoolOp .And (x :: y :: rest) pos) (tA X.K N (ev G (.and a b))) :=
  PE.imp (L2.pe_andT ha hb) fun σ H Q ⟨m, l, s, p, s', at0, e, k⟩ => by
    unfold ev at e
    obtain ⟨q, s1, e1, e2⟩ := bind_eq_ok e
    obtain ⟨b, s2, e3, e4⟩ := bind_eq_ok e2
    obtain ⟨e3', rfl⟩ := ofO_ok e3
    refine tA_step at0 e1 fun v H1 m1 at1 x1 d1 => ?_
    refine ⟨b, tru_of at1.rel d1 e3', ?_⟩
    cases b with
    | true => exact ⟨m1, l, _, p, s', at1, e4, fun v2 H2 m2 r2 x2 d2 => k v2 H2 m2 r2 (x1.trans x2) d2⟩
    | false => cases e4; exact k _ _ m1 at1.rel x1 d1
theorem c_or {rest : List Expr} (ha : PE X x (tA X.K N (ev G a))) (hb : PE X (.BoolOp .Or (y :: rest) pos) (tA X.K N (ev G b))) : PE X (.BoolOp .Or (x :: y :: rest) pos) (tA X.K N (ev G (.or a b))) :=
  PE.imp (L2.pe_orT ha hb) fun σ H Q ⟨m, l, s, p, s', at0, e, k⟩ => by
    unfold ev at e
    obtain ⟨q, s1, e1, e2⟩ := bind_eq_ok e
    obtain ⟨b, s2, e3, e4⟩ := bind_eq_ok e2
    obtain ⟨e3', rfl⟩ := ofO_ok e3
    refine tA_step at0 e1 fun v H1 m1 at1 x1 d1 => ?_
    refine ⟨b, tru_of at1.rel d1 e3', ?_⟩
    cases b with
    | false => exact ⟨m1, l, _, p, s', at1, e4, fun v2 H2 m2 r2 x2 d2 => k v2 H2 m2 r2 (x1.trans x2) d2⟩
    | true => cases e4; exact k _ _ m1 at1.rel x1 d1
theorem cond_ok {e : Ex} {l : Loc} {s s' : S} {b : Bool} (h : cond G e l s = .ok b s') : ∃ p, ev G e l s = .ok p s' ∧ truth s' p = some b := by
  unfold cond at h
  obtain ⟨p, s1, e1, e2⟩ := bind_eq_ok h
  obtain ⟨e3, rfl⟩ := ofO_ok e2
  exact ⟨p, e1, e3⟩
theorem cond_of {e : Ex} {l : Loc} {s s' : S} {p : P} {b : Bool} (h : ev G e l s = .ok p s') (ht : truth s' p = some b) : cond G e l s = .ok b s' := by
  unfold cond; rw [h, bind_ok, ht]; rfl
theorem c_ife (hc : PT X z (tAT X.K N (cond G c))) (ha : PE X x (tA X.K N (ev G a))) (hb : PE X y (tA X.K N (ev G b))) : PE X (.IfExp z x y pos) (tA X.K N (ev G (.ife c a b))) :=
  PE.imp (L2.pe_ifExp hc ha hb) fun σ H Q ⟨m, l, s, p, s', at0, e, k⟩ => by
    unfold ev at e
    obtain ⟨q, s1, e1, e2⟩ := bind_eq_ok e
    obtain ⟨b, s2, e3, e4⟩ := bind_eq_ok e2
    obtain ⟨e3', rfl⟩ := ofO_ok e3
    refine ⟨m, l, s, b, _, at0, cond_of G e1 e3', fun H1 m1 r1 x1 => ?_⟩
    cases b with
    | true => exact ⟨m1, l, _, p, s', at0.step r1 x1, e4, fun v2 H2 m2 r2 x2 d2 => k v2 H2 m2 r2 (x1.trans x2) d2⟩
    | false => exact ⟨m1, l, _, p, s', at0.step r1 x1, e4, fun v2 H2 m2 r2 x2 d2 => k v2 H2 m2 r2 (x1.trans x2) d2⟩
theorem c_ix (hu : X.A.units + 1 < cLine) (hy : nost y = true) (ha : PE X x (tA X.K N (ev G a))) (hb : PE X y (tA X.K N (ev G b))) : PE X (.Subscript x y pos) (tA X.K N (ev G (.ix a b))) :=
  PE.imp (L2.pe_ix (ix_ok hu) ha hb (plainIx_ok hy)) fun σ H Q h => tA_bin (g := ixP) (by simpa only [ev] using h)
end
end Pa
/-! Pa, part O: slices, attributes, calls; tests. -/
namespace Pa
open PySem (Str PyData Addr Value Obj Shared Expr Stmt Pos model wpAny sizeLine cLine Heap sysModules starEach backTo eval BoolOp bootBuiltins)
open L2 (V HO Hp Rd SqL SqT upd upd_same upd_ne VK TE TT TA TS TG TGs TI Ends Cx Inv PE PT PA PS PSs PG PGs PI PW RelV Vals EP Key kV R2 OpR CallR)

abbrev CX0 : L2.CXT := fun _ _ _ _ _ _ => False
theorem pass0 {X : Cx} {E : L2.XK} : L2.Passes CX0 X E := fun _ _ _ _ _ _ _ h => h.elim
def E0 : L2.XK := fun _ _ _ => False
def spF (K : PySem.W.Frag) (N : Nm) (n : Nat) (g : List P → S → R P) : L2.Sp := fun vs H Q E => vs.length = n ∧ ∃ m s ps r s', Rel K N H m s ∧ Dens K H m s.length ps vs ∧ g ps s = .ok r s' ∧ Beh K N m H s r s' Q
/-- a def that may be called -/
structure FnK (X : Cx) (N : Nm) (n : Nat) (g : List P → S → R P) (f : Addr) (k : Nat) : Prop where
  ok : ∃ fd ps, L2.Binds X.K fd ps [] ∧ L2.FnOk X.prog X.w X.K X.mg X.base CX0 k f fd ps (spF X.K N n g)
  room : L2.Room k X.A
section
variable {X : Cx} {N : Nm} {x y z : Expr} {pos : Pos} (G : Env) {e a b c : Ex} {xs : List Expr} {es : Exs}
theorem DensF.get {K : PySem.W.Frag} {H : Hp} {m : Mp} {n k : Nat} : ∀ {fs : List (Nat × P)} {gs : List (Str × V)}, DensF K N H m n fs gs → (match fget k fs with
    | some p => ∃ v, gs.lookup (N.fld k) = some v ∧ Den K H m n p v
    | none => gs.lookup (N.fld k) = none)
  | [], gs, h => by cases h; rfl
  | (j, p) :: r, gs, h => by
    obtain ⟨v, t, rfl, d, h⟩ := h
    have ih := DensF.get (k := k) h
    by_cases e : j = k
    · subst e
      have : fget j ((j, p) :: r) = some p := by unfold fget; rw [if_pos rfl]
      rw [this]
      exact ⟨v, by simp [List.lookup], d⟩
    · have : fget k ((j, p) :: r) = fget k r := if_neg e
      rw [this]
      have ne : (N.fld k == N.fld j) = false := by
        rw [beq_eq_false_iff_ne]
        intro q
        exact e (N.inj _ _ q).symm
      have : ((N.fld j, v) :: t).lookup (N.fld k) = t.lookup (N.fld k) := by simp [List.lookup, ne]
      rw [this]
      exact ih
theorem fget_mem {k : Nat} {p : P} : ∀ {fs : List (Nat × P)}, fget k fs = some p → (k, p) ∈ fs
  | [], h => by cases h
  | (j, q) :: r, h => by
    unfold fget at h
    split at h
    · rename_i e; cases h; rw [e]; exact List.mem_cons_self ..
    · exact List.mem_cons_of_mem _ (fget_mem h)
theorem c_fld {k : Nat} (hb : noc0 x = true) (ha : PE X x (tA X.K N (ev G a))) : PE X (.Attribute x (N.fld k) pos) (tA X.K N (ev G (.fld a k))) :=
  PE.imp (L2.pe_fld ha (base_ok hb)) fun σ H Q ⟨m, l, s, p, s', at0, e, kk⟩ => by
    unfold ev at e
    obtain ⟨q, s1, e1, e2⟩ := bind_eq_ok e
    cases q <;> try (cases e2; done)
    rename_i n
    dsimp only [fldP] at e2
    split at e2
    · rename_i c fs hn
      obtain ⟨e3, rfl⟩ := ofO_ok e2
      refine tA_step at0 e1 fun v H1 m1 at1 x1 d1 => ?_
      obtain ⟨hl, rfl⟩ := d1
      obtain ⟨dx, fs', h1, df, hc, hno⟩ := at1.rel.obj n _ hn
      have g := df.get (k := k)
      rw [e3] at g
      obtain ⟨w, g1, g2⟩ := g
      exact ⟨m1 n, _, dx, fs', w, rfl, h1, hc, hno _ (fget_mem e3), g1, kk _ _ m1 at1.rel x1 g2⟩
    · cases e2
theorem c_sl {p2 : Pos} (ha : PE X x (tA X.K N (ev G a))) (hb : PE X y (tA X.K N (ev G b))) (hc : PE X z (tA X.K N (ev G c))) : PE X (.Subscript x (.Slice (some y) (some z) none p2) pos) (tA X.K N (ev G (.sl a b c))) :=
  PE.imp (L2.pe_slice (sl_ok (N := N)) ha (L2.po_some hb) (L2.po_some hc)) fun σ H Q ⟨m, l, s, p, s', at0, e, k⟩ => by
    unfold ev at e
    obtain ⟨q, s1, e1, e⟩ := bind_eq_ok e
    obtain ⟨q2, s2, e2, e⟩ := bind_eq_ok e
    obtain ⟨q3, s3, e3, e'⟩ := bind_eq_ok e
    clear e
    have e := e'
    clear e'
    cases q2 <;> try (cases e; done)
    cases q3 <;> try (cases e; done)
    rename_i i j
    refine tA_step at0 e1 fun v H1 m1 at1 x1 d1 => ?_
    refine tA_step at1 e2 fun v2 H2 m2 at2 x2 d2 => ?_
    cases d2
    refine ⟨i, rfl, ?_⟩
    refine tA_step at2 e3 fun v3 H3 m3 at3 x3 d3 => ?_
    cases d3
    refine ⟨j, rfl, m3, s3, q, p, s', at3.rel, at2.rel.den x3 (at1.rel.den x2 d1), e, fun v5 H5 m5 r5 x5 d5 => k v5 H5 m5 r5 (((x1.trans x2).trans x3).trans x5) d5⟩
theorem c_slL {p2 : Pos} (ha : PE X x (tA X.K N (ev G a))) (hb : PE X y (tA X.K N (ev G b))) : PE X (.Subscript x (.Slice (some y) none none p2) pos) (tA X.K N (ev G (.slL a b))) :=
  PE.imp (L2.pe_slice (sl_ok (N := N)) ha (L2.po_some hb) L2.po_none) fun σ H Q ⟨m, l, s, p, s', at0, e, k⟩ => by
    unfold ev at e
    obtain ⟨q, s1, e1, e⟩ := bind_eq_ok e
    obtain ⟨q2, s2, e2, e⟩ := bind_eq_ok e
    cases q2 <;> try (cases e; done)
    rename_i i
    refine tA_step at0 e1 fun v H1 m1 at1 x1 d1 => ?_
    refine tA_step at1 e2 fun v2 H2 m2 at2 x2 d2 => ?_
    cases d2
    exact ⟨i, rfl, m2, s2, q, p, s', at2.rel, at1.rel.den x2 d1, e, fun v5 H5 m5 r5 x5 d5 => k v5 H5 m5 r5 ((x1.trans x2).trans x5) d5⟩
theorem c_slU {p2 : Pos} (ha : PE X x (tA X.K N (ev G a))) (hb : PE X y (tA X.K N (ev G b))) : PE X (.Subscript x (.Slice none (some y) none p2) pos) (tA X.K N (ev G (.slU a b))) :=
  PE.imp (L2.pe_slice (sl_ok (N := N)) ha L2.po_none (L2.po_some hb)) fun σ H Q ⟨m, l, s, p, s', at0, e, k⟩ => by
    unfold ev at e
    obtain ⟨q, s1, e1, e⟩ := bind_eq_ok e
    obtain ⟨q2, s2, e2, e⟩ := bind_eq_ok e
    cases q2 <;> try (cases e; done)
    rename_i i
    refine tA_step at0 e1 fun v H1 m1 at1 x1 d1 => ?_
    refine tA_step at1 e2 fun v2 H2 m2 at2 x2 d2 => ?_
    cases d2
    exact ⟨i, rfl, m2, s2, q, p, s', at2.rel, at1.rel.den x2 d1, e, fun v5 H5 m5 r5 x5 d5 => k v5 H5 m5 r5 ((x1.trans x2).trans x5) d5⟩
theorem c_slA {p2 : Pos} (ha : PE X x (tA X.K N (ev G a))) : PE X (.Subscript x (.Slice none none none p2) pos) (tA X.K N (ev G (.slA a))) :=
  PE.imp (L2.pe_slice (sl_ok (N := N)) ha L2.po_none L2.po_none) fun σ H Q ⟨m, l, s, p, s', at0, e, k⟩ => by
    unfold ev at e
    obtain ⟨q, s1, e1, e⟩ := bind_eq_ok e
    refine tA_step at0 e1 fun v H1 m1 at1 x1 d1 => ?_
    exact ⟨m1, s1, q, p, s', at1.rel, d1, e, fun v5 H5 m5 r5 x5 d5 => k v5 H5 m5 r5 (x1.trans x5) d5⟩

/-! ### calls -/
theorem c_call {i : Nat} {nm : Str} {f : Addr} {k n : Nat} {pp : Pos} (F : FnK X N n (G.cal i) f k) (hg : L2.Gl X nm) (hm : X.mg nm = some (.ref f)) (hk : PySem.W.keepIn X.K (.ref f) = true) (hd : (nm == ("__debug__" : Str)) = false) (hx : xs.all nost = true)
    (hn : es.len = n) (hxl : xs.length = es.len) (ha : PA X xs (tAs X.K N (evs G es))) : PE X (.Call (.Name nm pp) xs [] pos) (tA X.K N (ev G (.call i es))) := by
  obtain ⟨⟨fd, ps, hb, F⟩, hr⟩ := F
  have rd : ∀ (t : TA), (∀ σ H Q, tAs X.K N (evs G es) σ H Q → t σ H Q) → ∀ σ H Q, tA X.K N (ev G (.call i es)) σ H Q → L2.tCall (spF X.K N n (G.cal i)) [] E0 t σ H Q := by
    rintro t ht σ H Q ⟨m, l, s, p, s', at0, e, k⟩
    unfold ev at e
    obtain ⟨ps, s1, e1, e2⟩ := bind_eq_ok e
    refine ht _ _ _ ⟨m, l, s, ps, s1, at0, e1, fun vs H1 m1 r1 x1 d1 => ?_⟩
    show spF X.K N n (G.cal i) (vs ++ []) H1 Q E0
    rw [List.append_nil]
    exact ⟨by rw [← d1.length, evs_len G e1, hn], m1, s1, ps, p, s', r1, d1, e2, fun v2 H2 m2 r2 x2 d2 => k v2 H2 m2 r2 (x1.trans x2) d2⟩
  cases xs with
  | nil =>
    refine PE.imp (L2.pe_call0 F hr hg hm hk hb .nil pass0 hd) (rd _ fun σ H Q h => ?_)
    cases es with
    | nil =>
      obtain ⟨m, l, s, ps, s', at0, e, k⟩ := h
      unfold evs at e
      cases e
      exact k [] H m at0.rel Ext.refl rfl
    | cons e0 es0 =>
      cases hxl
  | cons x xs =>
    rw [List.all_cons, Bool.and_eq_true] at hx
    exact PE.imp (L2.pe_call F hr hg hm hk hb .nil pass0 ha hd (star_cons hx.1) (back_any hx.2)) (rd _ fun σ H Q h => h)
end
end Pa
/-! Pa, part P: new objects, methods, built-in functions; tests. -/
namespace Pa
open PySem (Str PyData Addr Value Obj Shared Expr Stmt Pos model wpAny sizeLine cLine Heap sysModules starEach backTo eval BoolOp bootBuiltins)
open L2 (V HO Hp Rd SqL SqT upd upd_same upd_ne VK TE TT TA TS TG TGs TI Ends Cx Inv PE PT PA PS PSs PG PGs PI PW RelV Vals EP Key kV R2 OpR CallR)

section
variable {X : Cx} {N : Nm} {x y z : Expr} {pos : Pos} (G : Env) {e a b c : Ex} {xs : List Expr} {es : Exs}
/-- what `new` must be, by the class's __init__ -/
def newOf (g : List P → S → R P) (c : Nat) : List P → S → R P := fun xs s => (g (.loc s.length :: xs) (s ++ [.ins c []])).bind fun r s' => match r with
  | .non => .ok (.loc s.length) s'
  | _ => .bad
theorem ext_new {K : PySem.W.Frag} {H : Hp} {m : Mp} {s : S} {c : Nat} {p dx : Addr} (r : Rel K N H m s) (h1 : H p = none) (h2 : H dx = none) (ne : dx ≠ p) (hc : L2.Cls K (N.cls c)) :
    Rel K N (upd (upd H dx (.own p)) p (.ins (N.cls c) dx [])) (mpush m s.length p) (s ++ [.ins c []]) ∧ Ext s.length H m (s.length + 1) (upd (upd H dx (.own p)) p (.ins (N.cls c) dx [])) (mpush m s.length p) := by
  have r1 : Rel K N (upd H dx (.own p)) m s := r.fresh h2
  have hp : upd H dx (.own p) p = none := by rw [upd_ne (Ne.symm ne)]; exact h1
  exact ⟨r1.push hp ⟨dx, [], upd_same, rfl, hc, fun p hp => nomatch hp⟩, (Ext.fresh h2).trans (Ext.push r1 hp)⟩
theorem c_new {ci n k : Nat} {nm : Str} {f : Addr} {g : List P → S → R P} {pp : Pos} (F : FnK X N (n + 1) g f k) (hr : L2.Room (k + 1) X.A) (M : L2.Mk X.K (N.cls ci) f) (hc : L2.Cls X.K (N.cls ci)) (he : G.new ci = newOf g ci) (hg : L2.Gl X nm) (hm : X.mg nm = some (.ref (N.cls ci)))
    (hd : (nm == ("__debug__" : Str)) = false) (hx : xs.all nost = true)
    (hn : es.len = n) (hxl : xs.length = es.len) (ha : PA X xs (tAs X.K N (evs G es))) : PE X (.Call (.Name nm pp) xs [] pos) (tA X.K N (ev G (.new ci es))) := by
  obtain ⟨⟨fd, ps, hb, F⟩, _⟩ := F
  have rd : ∀ (t : TA), (∀ σ H Q, tAs X.K N (evs G es) σ H Q → t σ H Q) → ∀ σ H Q, tA X.K N (ev G (.new ci es)) σ H Q → L2.tMake (N.cls ci) (spF X.K N (n + 1) g) [] E0 t σ H Q := by
    rintro t ht σ H Q ⟨m, l, s, p, s', at0, e, k⟩
    unfold ev at e
    obtain ⟨ps, s1, e1, e2⟩ := bind_eq_ok e
    rw [he] at e2
    obtain ⟨r, s2, e3, e4⟩ := bind_eq_ok e2
    cases r <;> try (cases e4; done)
    cases e4
    refine ht _ _ _ ⟨m, l, s, ps, s1, at0, e1, fun vs H1 m1 r1 x1 d1 xa dx h1 h2 ne => ?_⟩
    show spF X.K N (n + 1) g (.ref xa :: (vs ++ [])) _ _ E0
    rw [List.append_nil]
    obtain ⟨r2, x2⟩ := ext_new r1 h1 h2 ne hc
    have e5 : (s1 ++ [O.ins ci []]).length = s1.length + 1 := by simp
    refine ⟨by rw [List.length_cons, ← d1.length, evs_len G e1, hn], _, s1 ++ [.ins ci []], .loc s1.length :: ps, .non, s', r2, Dens.cons ⟨by rw [e5]; omega, by rw [mpush_at]⟩ (by rw [e5]; exact r1.dens x2 d1), e3, fun v H3 m3 r3 x3 d3 => ⟨d3, ?_⟩⟩
    rw [e5] at x3
    refine k _ _ m3 r3 ((x1.trans x2).trans x3) ⟨Nat.lt_of_lt_of_le (Nat.lt_succ_self _) x3.le, ?_⟩
    rw [x3.map _ (Nat.lt_succ_self _), mpush_at]
  cases xs with
  | nil =>
    refine PE.imp (L2.pe_make0 M F hr hg hm hb .nil pass0 hd) (rd _ fun σ H Q h => ?_)
    cases es with
    | nil =>
      obtain ⟨m, l, s, ps, s', at0, e, k⟩ := h
      unfold evs at e
      cases e
      exact k [] H m at0.rel Ext.refl rfl
    | cons e0 es0 => cases hxl
  | cons x xs =>
    rw [List.all_cons, Bool.and_eq_true] at hx
    exact PE.imp (L2.pe_make M F hr hg hm hb .nil pass0 ha hd (star_cons hx.1) (back_any hx.2)) (rd _ fun σ H Q h => h)
/-- a method of an instance: the class is known when it is asked -/
theorem c_meth {k : Nat} {apos : Pos} (hM : ∀ ci fi, G.mt ci k = some fi → ∃ f kk, FnK X N (es.len + 1) (G.cal fi) f kk ∧ L2.Meth X.K (N.cls ci) (N.fld k) f) (hb : noc0 x = true) (hline : (apos.endLine == pos.line) = true) (hx : xs.all nost = true) (hfew : xs.length < 30)
    (hxl : xs.length = es.len) (ho : PE X x (tA X.K N (ev G a))) (ha : PA X xs (tAs X.K N (evs G es))) : PE X (.Call (.Attribute x (N.fld k) apos) xs [] pos) (tA X.K N (ev G (.meth a k es))) := by
  refine ⟨fun pins s0 σ H Q I ⟨m, l, s, p, s', at0, e, kk⟩ => ?_⟩
  refine L2.methcall_of ho I ?_ (meth_eval hb hx hfew hline)
  unfold ev at e
  obtain ⟨q, s1, e1, e2⟩ := bind_eq_ok e
  cases q <;> try (cases e2; done)
  rename_i n
  dsimp only at e2
  split at e2
  · rename_i ci fs hn
    split at e2
    · rename_i fi h1 h2
      obtain ⟨ps, s2, e3, e4⟩ := bind_eq_ok e2
      obtain ⟨f, kf, ⟨⟨fd, pn, hbn, F⟩, hr⟩, hm⟩ := hM _ _ h1
      refine tA_step at0 e1 fun v H1 m1 at1 x1 d1 => ?_
      obtain ⟨hl, rfl⟩ := d1
      obtain ⟨dx, fs', g1, df, hc, hno⟩ := at1.rel.obj n _ hn
      have g := df.get (k := k)
      rw [h2] at g
      refine ⟨m1 n, _, dx, fs', f, rfl, g1, hc, hm, g, fun s1' I1 => ?_⟩
      have rd : tAs X.K N (evs G es) σ H1 fun vs H2 => spF X.K N (es.len + 1) (G.cal fi) (.ref (m1 n) :: (vs ++ [])) H2 Q E0 := by
        refine ⟨m1, l, s1, ps, s2, at1, e3, fun vs H2 m2 r2 x2 d2 => ?_⟩
        show spF X.K N (es.len + 1) (G.cal fi) (.ref (m1 n) :: (vs ++ [])) H2 Q E0
        rw [List.append_nil]
        refine ⟨by rw [List.length_cons, ← d2.length, evs_len G e3], m2, s2, .loc n :: ps, p, s', r2, Dens.cons ⟨Nat.lt_of_lt_of_le hl x2.le, by rw [x2.map n hl]⟩ d2, e4, fun v3 H3 m3 r3 x3 d3 => kk _ _ m3 r3 ((x1.trans x2).trans x3) d3⟩
      cases xs with
      | nil =>
        cases es with
        | nil =>
          obtain ⟨m', l', s', ps', s'', at', e', k'⟩ := rd
          unfold evs at e'
          cases e'
          have q := k' [] H1 m' at'.rel Ext.refl rfl
          exact PySem.W.callWith_K0 (first := [.ref (m1 n)]) I1.kIn hm.kp (L2.run_fn (us := [.ref (m1 n)]) (vs := [.ref (m1 n)]) F hr hbn .nil pass0 I1 (.cons rfl .nil) q)
        | cons e0 es0 => cases hxl
      | cons x' xs' =>
        rw [List.all_cons, Bool.and_eq_true] at hx
        refine PySem.W.callWith_K (first := [.ref (m1 n)]) (h₀ := X.base) I1.ok.mod.kin hm.kp (L2.thn (ha.run pos pins s1' σ H1 _ I1 rd) fun us s2 ⟨vs, H2, I2, r, q2⟩ => ⟨I2.kIn, ?_⟩) (star_cons hx.1) (back_any hx.2)
        exact L2.run_fn (us := .ref (m1 n) :: us) (vs := .ref (m1 n) :: vs) F hr hbn .nil pass0 I2 (.cons rfl r) q2
    · cases e2
  · cases e2

/-! ### built-in functions -/
def b1n : B1 → Str × Value
  | .len => ("len", .builtin "len") | .tuple => ("tuple", .type "tuple") | .list => ("list", .type "list") | .sum => ("sum", .builtin "sum") | .sorted => ("sorted", .builtin "sorted")
  | .min => ("min", .builtin "min") | .max => ("max", .builtin "max") | .abs => ("abs", .builtin "abs") | .int => ("int", .type "int") | .dict => ("dict", .type "dict")
  | .str => ("str", .type "str") | .set => ("set", .type "set") | .bool => ("bool", .type "bool")
theorem rd1 {r : List V → Hp → VK → Prop} {f : P → S → R P} (hr : ∀ xs H Q, cA1 X.K N f xs H Q → r xs H Q) (he : ∀ l s, ev G e l s = (ev G a l s).bind fun p s => f p s) :
    ∀ σ H Q, tA X.K N (ev G e) σ H Q → L2.tCB r (tAs X.K N (evs G (.cons a .nil))) σ H Q := by
  rintro σ H Q ⟨m, l, s, p, s', at0, e, k⟩
  rw [he] at e
  obtain ⟨q, s1, e1, e2⟩ := bind_eq_ok e
  refine ⟨m, l, s, [q], s1, at0, by show (ev G a l s).bind _ = _; rw [e1]; rfl, fun vs H1 m1 r1 x1 d1 => hr _ _ _ ?_⟩
  obtain ⟨v, t, rfl, dv, ht⟩ := d1
  cases ht
  exact ⟨v, rfl, m1, s1, q, p, s', r1, dv, e2, fun v2 H2 m2 r2 x2 d2 => k v2 H2 m2 r2 (x1.trans x2) d2⟩
theorem c_b1 {f : B1} {pp : Pos} (hc : X.calm = true) (hu : X.A.units + 100 < cLine) (hg : L2.Gl X (b1n f).1) (hm : X.mg (b1n f).1 = none) (hx : nost x = true) (ha : PE X x (tA X.K N (ev G a))) :
    PE X (.Call (.Name (b1n f).1 pp) [x] [] pos) (tA X.K N (ev G (.b1 f a))) := by
  have pa : PA X [x] (tAs X.K N (evs G (.cons a .nil))) := a_cons G hx ha (a_nil G)
  have go : ∀ (id : String) (g : P → S → R P), b1P f = g → CallR X (.builtin id) (cA1 X.K N g) → bootBuiltins (b1n f).1 = some (.builtin id) → (b1n f).1 ≠ ("__name__" : Str) → ((b1n f).1 == ("__debug__" : Str)) = false → PE X (.Call (.Name (b1n f).1 pp) [x] [] pos) (tA X.K N (ev G (.b1 f a))) := by
    intro id g hgf hcr hv h1 h2
    exact PE.imp (L2.pe_callB hcr hg hm hv pa h1 h2 (star_cons hx) rfl) (rd1 G (fun _ _ _ z => z) fun l s => by rw [← hgf]; simp only [ev])
  have goT : ∀ (T : String) (g : P → S → R P), b1P f = g → CallR X (.type T) (cA1 X.K N g) → bootBuiltins (b1n f).1 = some (.type T) → (b1n f).1 ≠ ("__name__" : Str) → ((b1n f).1 == ("__debug__" : Str)) = false → PE X (.Call (.Name (b1n f).1 pp) [x] [] pos) (tA X.K N (ev G (.b1 f a))) := by
    intro T g hgf hcr hv h1 h2
    exact PE.imp (L2.pe_callTy hcr hg hm hv pa h1 h2 (star_cons hx) rfl) (rd1 G (fun _ _ _ z => z) fun l s => by rw [← hgf]; simp only [ev])
  have nv : ∀ (v : Value), (∀ p s, b1P f p s = .bad) → CallR X v (cA1 X.K N (b1P f)) := by
    rintro v hb pins s σ H xs us Q I rx ⟨y, rfl, m, S, p, r, S', hr, dp, e, k⟩
    rw [hb] at e; cases e
  cases f with
  | len => exact go "len" _ rfl (fn_len hc) (by decide +kernel) (by decide) (by decide)
  | tuple => exact goT "tuple" _ rfl fn_tuple (by decide +kernel) (by decide) (by decide)
  | list => exact goT "list" _ rfl (fn_list hc) (by decide +kernel) (by decide) (by decide)
  | sum => exact go "sum" _ rfl (fn_sum hc) (by decide +kernel) (by decide) (by decide)
  | sorted => exact go "sorted" _ rfl (fn_sorted hu) (by decide +kernel) (by decide) (by decide)
  | min => exact go "min" _ rfl (fn_min hc) (by decide +kernel) (by decide) (by decide)
  | max => exact go "max" _ rfl (fn_max hc) (by decide +kernel) (by decide) (by decide)
  | abs => exact go "abs" _ rfl fn_abs (by decide +kernel) (by decide) (by decide)
  | int => exact goT "int" _ rfl fn_int (by decide +kernel) (by decide) (by decide)
  | dict => exact goT "dict" _ rfl (fn_dict hc hu) (by decide +kernel) (by decide) (by decide)
  | str => exact goT "str" _ rfl (nv _ fun _ _ => rfl) (by decide +kernel) (by decide) (by decide)
  | set => exact goT "set" _ rfl (nv _ fun _ _ => rfl) (by decide +kernel) (by decide) (by decide)
  | bool => exact goT "bool" _ rfl (nv _ fun _ _ => rfl) (by decide +kernel) (by decide) (by decide)
def b2n : B2 → Str × String
  | .max => ("max", "max") | .min => ("min", "min")
theorem c_b2 {f : B2} {pp : Pos} (hc : X.calm = true) (hg : L2.Gl X (b2n f).1) (hm : X.mg (b2n f).1 = none) (hx : nost x = true) (hy : nost y = true) (ha : PE X x (tA X.K N (ev G a))) (hb : PE X y (tA X.K N (ev G b))) :
    PE X (.Call (.Name (b2n f).1 pp) [x, y] [] pos) (tA X.K N (ev G (.b2 f a b))) := by
  have pa : PA X [x, y] (tAs X.K N (evs G (.cons a (.cons b .nil)))) := a_cons G hx ha (a_cons G hy hb (a_nil G))
  have hcr : CallR X (.builtin (b2n f).2) (cA2 X.K N (b2P f)) := by
    cases f with
    | max => exact fn_max2 hc
    | min => exact fn_min2 hc
  refine PE.imp (L2.pe_callB hcr hg hm (by cases f <;> decide +kernel) pa (by cases f <;> decide) (by cases f <;> decide) (star_cons hx) (back_any (by rw [List.all_cons, hy]; rfl))) ?_
  rintro σ H Q ⟨m, l, s, p, s', at0, e, k⟩
  unfold ev at e
  obtain ⟨q, s1, e1, e2⟩ := bind_eq_ok e
  obtain ⟨q2, s2, e3, e4⟩ := bind_eq_ok e2
  refine ⟨m, l, s, [q, q2], s2, at0, by show (ev G a l s).bind _ = _; rw [e1]; show ((ev G b l s1).bind _).bind _ = _; rw [e3]; rfl, fun vs H1 m1 r1 x1 d1 => ?_⟩
  obtain ⟨v, t, rfl, dv, w, t2, rfl, dw, ht⟩ := d1
  cases ht
  exact ⟨v, w, rfl, m1, s2, q, q2, p, s', r1, dv, dw, e4, fun v2 H2 m2 r2 x2 d2 => k v2 H2 m2 r2 (x1.trans x2) d2⟩
theorem c_isi {t : Ty} {pp p2 : Pos} {j : Str} (hj : j = tyN t) (hg : L2.Gl X "isinstance") (hm : X.mg "isinstance" = none) (hg2 : L2.Gl X j) (hm2 : X.mg j = none) (hx : nost x = true) (ha : PE X x (tA X.K N (ev G a))) :
    PE X (.Call (.Name "isinstance" pp) [x, .Name j p2] [] pos) (tA X.K N (ev G (.isi a t))) := by
  have hb : bootBuiltins j = some (.type (tyN t)) := by subst hj; cases t <;> decide +kernel
  have hn : j ≠ ("__name__" : Str) := by subst hj; cases t <;> decide
  have hd : (j == ("__debug__" : Str)) = false := by subst hj; cases t <;> decide
  have py : PE X (.Name j p2) (L2.tC (.ty (tyN t))) := L2.pe_bltn hg2 hm2 hb rfl hn hd
  refine PE.imp (L2.pe_callB (fn_isi (N := N) t) hg hm (by decide +kernel) (L2.pa_cons ha (L2.pa_cons py L2.pa_nil (star_cons rfl)) (star_cons hx)) (by decide) (by decide) (star_cons hx) rfl) ?_
  rintro σ H Q ⟨m, l, s, p, s', at0, e, k⟩
  unfold ev at e
  obtain ⟨q, s1, e1, e2⟩ := bind_eq_ok e
  obtain ⟨e3, rfl⟩ := ofO_ok e2
  refine tA_step at0 e1 fun v H1 m1 at1 x1 d1 => ?_
  cases h : isiP t q s' with
  | none => rw [h] at e3; cases e3
  | some b =>
    rw [h] at e3
    cases e3
    exact ⟨v, m1, s', q, b, rfl, at1.rel, d1, h, k _ _ m1 at1.rel x1 rfl⟩

/-! ### methods of lists, dicts -/
theorem ty_lst {K : PySem.W.Frag} {H : Hp} {m : Mp} {s : S} {p : P} {v : V} (r : Rel K N H m s) (d : Den K H m s.length p v) (h : isLst s p = true) : L2.tyV K "list" v H := by
  unfold isLst at h
  cases p <;> try (cases h; done)
  rename_i n
  obtain ⟨_, rfl⟩ := d
  dsimp only at h
  split at h
  · rename_i xs e
    obtain ⟨_, vs, h1, ds⟩ := r.lst e
    exact .inl ⟨rfl, vs, SqL.of h1⟩
  · cases h
theorem ty_dct {K : PySem.W.Frag} {H : Hp} {m : Mp} {s : S} {p : P} {v : V} (r : Rel K N H m s) (d : Den K H m s.length p v) (h : isDct s p = true) : L2.tyV K "dict" v H := by
  unfold isDct at h
  cases p <;> try (cases h; done)
  rename_i n
  obtain ⟨_, rfl⟩ := d
  dsimp only at h
  split at h
  · rename_i kvs e
    rcases r.obj n _ e with ⟨ks, h1, _⟩ | ⟨ks, h1, _⟩
    · exact .inr (.inr (.inl ⟨rfl, .inl ⟨ks, h1⟩⟩))
    · exact .inr (.inr (.inl ⟨rfl, .inr ⟨ks, h1⟩⟩))
  · cases h
theorem c_pop {apos : Pos} (hb : noc0 x = true) (hline : (apos.endLine == pos.line) = true) (ha : PE X x (tA X.K N (ev G a))) : PE X (.Call (.Attribute x "pop" apos) [] [] pos) (tA X.K N (ev G (.m0 .pop a))) := by
  refine PE.imp (L2.pe_bm0 PySem.F.plainAttrs_list PySem.F.slot_list_pop PySem.F.type_list_pop (mt_pop (N := N)) ha (base_ok hb) hline) ?_
  rintro σ H Q ⟨m, l, s, p, s', at0, e, k⟩
  unfold ev at e
  obtain ⟨q, s1, e1, e2⟩ := bind_eq_ok e
  refine tA_step at0 e1 fun v H1 m1 at1 x1 d1 => ?_
  have hl : isLst s1 q = true := by
    unfold m0P at e2
    cases q <;> try (cases e2; done)
    dsimp only at e2
    unfold isLst
    split at e2
    · rename_i xs h; dsimp only; rw [h]
    · cases e2
  exact ⟨ty_lst at1.rel d1 hl, rfl, m1, s1, q, p, s', at1.rel, d1, e2, fun v2 H2 m2 r2 x2 d2 => k v2 H2 m2 r2 (x1.trans x2) d2⟩
def m1n : M1 → Str
  | .append => "append" | .extend => "extend" | .pop => "pop" | .get => "get" | .join => "join" | .split => "split" | .index => "index" | .count => "count"
def m1ok : M1 → Bool
  | .append => true | .extend => true | _ => false
theorem c_m1 {f : M1} {apos : Pos} (hf : m1ok f = true) (hb : noc0 x = true) (hline : (apos.endLine == pos.line) = true) (hy : nost y = true) (ha : PE X x (tA X.K N (ev G a))) (hbb : PE X y (tA X.K N (ev G b))) :
    PE X (.Call (.Attribute x (m1n f) apos) [y] [] pos) (tA X.K N (ev G (.m1 f a b))) := by
  have pa : PA X [y] (tAs X.K N (evs G (.cons b .nil))) := a_cons G hy hbb (a_nil G)
  have rd : ∀ T, (∀ (H : Hp) (m : Mp) (s : S) (p : P) (v : V), Rel X.K N H m s → Den X.K H m s.length p v → k1 f s p = true → L2.tyV X.K T v H) → ∀ σ H Q, tA X.K N (ev G (.m1 f a b)) σ H Q → L2.tBM X.K T (mA1 X.K N (m1P f)) (tA X.K N (ev G a)) (tAs X.K N (evs G (.cons b .nil))) σ H Q := by
    rintro T hT σ H Q ⟨m, l, s, p, s', at0, e, k⟩
    unfold ev at e
    obtain ⟨q, s1, e1, e2⟩ := bind_eq_ok e
    split at e2
    · rename_i hk
      obtain ⟨q2, s2, e3, e4⟩ := bind_eq_ok e2
      refine tA_step at0 e1 fun v H1 m1 at1 x1 d1 => ⟨hT _ _ _ _ _ at1.rel d1 hk, ?_⟩
      refine ⟨m1, l, s1, [q2], s2, at1, by show (ev G b l s1).bind _ = _; rw [e3]; rfl, fun vs H2 m2 r2 x2 d2 => ?_⟩
      obtain ⟨w, t, rfl, dw, ht⟩ := d2
      cases ht
      exact ⟨w, rfl, m2, s2, q, q2, p, s', r2, at1.rel.den x2 d1, dw, e4, fun v3 H3 m3 r3 x3 d3 => k v3 H3 m3 r3 ((x1.trans x2).trans x3) d3⟩
    · cases e2
  have hfew := few_ok (pos := pos) (env := X.env) (es := [y]) (by rw [List.all_cons, hy]; rfl) (by show 1 < 30; decide)
  cases f <;> first | (cases hf; done) | skip
  · exact PE.imp (L2.pe_bm PySem.F.plainAttrs_list PySem.F.slot_list_append PySem.F.type_list_append (mt_append (N := N)) ha pa (base_ok hb) hfew hline (star_cons hy) rfl) (rd "list" fun H m s p v r d h => ty_lst r d h)
  · exact PE.imp (L2.pe_bm PySem.F.plainAttrs_list PySem.F.slot_list_extend PySem.F.type_list_extend (mt_extend (N := N)) ha pa (base_ok hb) hfew hline (star_cons hy) rfl) (rd "list" fun H m s p v r d h => ty_lst r d h)
def m2n : M2 → Str
  | .get => "get" | .setdefault => "setdefault" | .insert => "insert"
def m2ok : M2 → Bool
  | .get => true | .setdefault => true | _ => false
theorem c_m2 {f : M2} {apos : Pos} (hu : X.A.units + 1 < cLine) (hf : m2ok f = true) (hb : noc0 x = true) (hline : (apos.endLine == pos.line) = true) (hy : nost y = true) (hz : nost z = true) (ha : PE X x (tA X.K N (ev G a))) (hbb : PE X y (tA X.K N (ev G b))) (hcc : PE X z (tA X.K N (ev G c))) :
    PE X (.Call (.Attribute x (m2n f) apos) [y, z] [] pos) (tA X.K N (ev G (.m2 f a b c))) := by
  have pa : PA X [y, z] (tAs X.K N (evs G (.cons b (.cons c .nil)))) := a_cons G hy hbb (a_cons G hz hcc (a_nil G))
  have rd : ∀ T, (∀ (H : Hp) (m : Mp) (s : S) (p : P) (v : V), Rel X.K N H m s → Den X.K H m s.length p v → k2 f s p = true → L2.tyV X.K T v H) → ∀ σ H Q, tA X.K N (ev G (.m2 f a b c)) σ H Q → L2.tBM X.K T (mA2 X.K N (m2P f)) (tA X.K N (ev G a)) (tAs X.K N (evs G (.cons b (.cons c .nil)))) σ H Q := by
    rintro T hT σ H Q ⟨m, l, s, p, s', at0, e, k⟩
    unfold ev at e
    obtain ⟨q, s1, e1, e2⟩ := bind_eq_ok e
    split at e2
    · rename_i hk
      obtain ⟨q2, s2, e3, e4⟩ := bind_eq_ok e2
      obtain ⟨q3, s3, e5, e6⟩ := bind_eq_ok e4
      refine tA_step at0 e1 fun v H1 m1 at1 x1 d1 => ⟨hT _ _ _ _ _ at1.rel d1 hk, ?_⟩
      refine ⟨m1, l, s1, [q2, q3], s3, at1, by show (ev G b l s1).bind _ = _; rw [e3]; show ((ev G c l s2).bind _).bind _ = _; rw [e5]; rfl, fun vs H2 m2 r2 x2 d2 => ?_⟩
      obtain ⟨w, t, rfl, dw, w2, t2, rfl, dw2, ht⟩ := d2
      cases ht
      exact ⟨w, w2, rfl, m2, s3, q, q2, q3, p, s', r2, at1.rel.den x2 d1, dw, dw2, e6, fun v3 H3 m3 r3 x3 d3 => k v3 H3 m3 r3 ((x1.trans x2).trans x3) d3⟩
    · cases e2
  have hall : [y, z].all nost = true := by simp [hy, hz]
  have hfew := few_ok (pos := pos) (env := X.env) (es := [y, z]) hall (by show 2 < 30; decide)
  have hpl := back_any (pos := pos) (env := X.env) (es := [z]) (by simp [hz])
  cases f <;> first | (cases hf; done) | skip
  · exact PE.imp (L2.pe_bm PySem.F.plainAttrs_dict PySem.F.slot_dict_get PySem.F.type_dict_get (mt_get (N := N) hu) ha pa (base_ok hb) hfew hline (star_cons hy) hpl) (rd "dict" fun H m s p v r d h => ty_dct r d h)
  · exact PE.imp (L2.pe_bm PySem.F.plainAttrs_dict PySem.F.slot_dict_setdefault PySem.F.type_dict_setdefault (mt_setdefault (N := N) hu) ha pa (base_ok hb) hfew hline (star_cons hy) hpl) (rd "dict" fun H m s p v r d h => ty_dct r d h)
end
end Pa
/-! Pa, part Q: views, comprehensions, tests. -/
namespace Pa
open PySem (Str PyData Addr Value Obj Shared Expr Stmt Pos model wpAny sizeLine cLine Heap sysModules starEach backTo eval BoolOp bootBuiltins Scope)
open L2 (V HO Hp Rd SqL SqT upd upd_same upd_ne VK TE TT TA TS TG TGs TI Ends Cx Inv PE PT PA PS PSs PG PGs PI PW PTs RelV Vals EP Key kV R2 OpR CallR)

section
variable {X : Cx} {N : Nm} {x y z : Expr} {pos : Pos} (G : Env) {e a b c : Ex} {xs : List Expr} {es : Exs}
/-- list(d.items()), list(d.keys()), sorted(d.items()) -/
theorem isDct_of {n : Nat} {kvs : List (P × P)} {s : S} (h : s[n]? = some (.dct false kvs)) : isDct s (.loc n) = true := by unfold isDct; dsimp only; rw [h]
theorem c_items {apos cpos pp : Pos} (hc : X.calm = true) (hg : L2.Gl X "list") (hm : X.mg "list" = none) (hb : noc0 x = true) (hline : (apos.endLine == cpos.line) = true) (ha : PE X x (tA X.K N (ev G a))) :
    PE X (.Call (.Name "list" pp) [.Call (.Attribute x "items" apos) [] [] cpos] [] pos) (tA X.K N (ev G (.m0 .items a))) := by
  have h1 := L2.pe_bm0 PySem.F.plainAttrs_dict PySem.F.slot_dict_items PySem.F.type_dict_items (mt_items (N := N)) ha (base_ok (m := "items") hb) hline
  refine PE.imp (L2.pe_callTy (list_items (N := N) hc) hg hm (by decide +kernel) (L2.pa_cons h1 L2.pa_nil (star_cons rfl)) (by decide) (by decide) (star_cons rfl) rfl) ?_
  rintro σ H Q ⟨m, l, s, p, s', at0, e, k⟩
  unfold ev at e
  obtain ⟨q, s1, e1, e2⟩ := bind_eq_ok e
  dsimp only [m0P] at e2
  cases q <;> try (cases e2; done)
  rename_i n
  dsimp only at e2
  split at e2
  · rename_i kvs hn
    cases e2
    refine tA_step at0 e1 fun v H1 m1 at1 x1 d1 => ⟨ty_dct at1.rel d1 (isDct_of hn), rfl, ?_⟩
    obtain ⟨hl, rfl⟩ := d1
    refine ⟨m1, s1, n, kvs, rfl, at1.rel, hn, fun p hp => ?_⟩
    refine ⟨p, m1, s1, n, kvs, rfl, upd_same, at1.rel.fresh hp, hn, fun v2 H2 m2 r2 x2 d2 => k v2 H2 m2 r2 ((x1.trans (Ext.fresh hp)).trans x2) d2⟩
  · cases e2
theorem c_keys {apos cpos pp : Pos} (hc : X.calm = true) (hg : L2.Gl X "list") (hm : X.mg "list" = none) (hb : noc0 x = true) (hline : (apos.endLine == cpos.line) = true) (ha : PE X x (tA X.K N (ev G a))) :
    PE X (.Call (.Name "list" pp) [.Call (.Attribute x "keys" apos) [] [] cpos] [] pos) (tA X.K N (ev G (.m0 .keys a))) := by
  have h1 := L2.pe_bm0 PySem.F.plainAttrs_dict PySem.F.slot_dict_keys PySem.F.type_dict_keys (mt_keys (N := N)) ha (base_ok (m := "keys") hb) hline
  refine PE.imp (L2.pe_callTy (list_keys (N := N) hc) hg hm (by decide +kernel) (L2.pa_cons h1 L2.pa_nil (star_cons rfl)) (by decide) (by decide) (star_cons rfl) rfl) ?_
  rintro σ H Q ⟨m, l, s, p, s', at0, e, k⟩
  unfold ev at e
  obtain ⟨q, s1, e1, e2⟩ := bind_eq_ok e
  dsimp only [m0P] at e2
  cases q <;> try (cases e2; done)
  rename_i n
  dsimp only at e2
  split at e2
  · rename_i kvs hn
    cases e2
    refine tA_step at0 e1 fun v H1 m1 at1 x1 d1 => ⟨ty_dct at1.rel d1 (isDct_of hn), rfl, ?_⟩
    obtain ⟨hl, rfl⟩ := d1
    refine ⟨m1, s1, n, kvs, rfl, at1.rel, hn, fun p hp => ?_⟩
    refine ⟨p, m1, s1, n, kvs, rfl, upd_same, at1.rel.fresh hp, hn, fun v2 H2 m2 r2 x2 d2 => k v2 H2 m2 r2 ((x1.trans (Ext.fresh hp)).trans x2) d2⟩
  · cases e2
theorem c_sortI {apos cpos pp : Pos} (hc : X.calm = true) (hu : X.A.units + 100 < cLine) (hg : L2.Gl X "sorted") (hm : X.mg "sorted" = none) (hb : noc0 x = true) (hline : (apos.endLine == cpos.line) = true) (ha : PE X x (tA X.K N (ev G a))) :
    PE X (.Call (.Name "sorted" pp) [.Call (.Attribute x "items" apos) [] [] cpos] [] pos) (tA X.K N (ev G (.sortI a))) := by
  have h1 := L2.pe_bm0 PySem.F.plainAttrs_dict PySem.F.slot_dict_items PySem.F.type_dict_items (mt_items (N := N)) ha (base_ok (m := "items") hb) hline
  refine PE.imp (L2.pe_callB (sorted_items (N := N) hc hu) hg hm (by decide +kernel) (L2.pa_cons h1 L2.pa_nil (star_cons rfl)) (by decide) (by decide) (star_cons rfl) rfl) ?_
  rintro σ H Q ⟨m, l, s, p, s', at0, e, k⟩
  unfold ev at e
  obtain ⟨q, s1, e1, e2⟩ := bind_eq_ok e
  unfold sortIP at e2
  cases q <;> try (cases e2; done)
  rename_i n
  dsimp only at e2
  split at e2
  · rename_i kvs hn
    split at e2
    · rename_i qs hq
      cases e2
      refine tA_step at0 e1 fun v H1 m1 at1 x1 d1 => ⟨ty_dct at1.rel d1 (isDct_of hn), rfl, ?_⟩
      obtain ⟨hl, rfl⟩ := d1
      refine ⟨m1, s1, n, kvs, rfl, at1.rel, hn, fun p hp => ?_⟩
      refine ⟨p, m1, s1, n, kvs, qs, rfl, upd_same, at1.rel.fresh hp, hn, hq, fun v2 H2 m2 r2 x2 d2 => k v2 H2 m2 r2 ((x1.trans (Ext.fresh hp)).trans x2) d2⟩
    · cases e2
  · cases e2

/-! ### tests -/
structure Snd (X : Cx) (N : Nm) (G : Env) (e : Ex) (x : Expr) : Prop where
  pe : PE X x (tA X.K N (ev G e))
  pt : PT X x (tAT X.K N (cond G e))
  pw : ∀ op vs pos, x = .BoolOp op vs pos → PW X x (tAT X.K N (cond G e))
def gen : Expr → Bool
  | .UnaryOp .Not _ _ => false
  | .BoolOp .. => false
  | .IfExp .. => false
  | .Compare .. => false
  | _ => true
theorem gen_true {x : Expr} {env : PySem.Env} (h : gen x = true) : ∀ whole, PySem.isTrue x env whole = (do let v ← whole; PySem.standAt x.pos; PySem.holding [v] (PySem.truthy v)) := by
  intro w
  cases x <;> first | rfl | (cases h; done) | skip
  rename_i op _ _
  cases op <;> first | rfl | (cases h; done)
theorem tAT_step {K : PySem.W.Frag} {f : Loc → S → R Bool} {σ : L2.St} {H : Hp} {Q : Bool → Hp → Prop} {m : Mp} {l : Loc} {s s' : S} {b : Bool} (h : At K N σ H m l s) (e : f l s = .ok b s')
    (k : ∀ H' m', At K N σ H' m' l s' → Ext s.length H m s'.length H' m' → Q b H') : tAT K N f σ H Q := ⟨m, l, s, b, s', h, e, fun H' m' r x => k H' m' (h.step r x) x⟩
theorem Snd.of (h : PE X x (tA X.K N (ev G e))) (hx : gen x = true) : Snd X N G e x where
  pe := h
  pt := PT.imp (L2.pt_truth h (gen_true hx)) fun σ H Q ⟨m, l, s, b, s', at0, e, k⟩ => by
    obtain ⟨p, e1, e2⟩ := cond_ok G e
    refine tA_step at0 e1 fun v H1 m1 at1 x1 d1 => ⟨b, tru_of at1.rel d1 e2, k H1 m1 at1.rel x1⟩
  pw := fun op vs pos e => by rw [e] at hx; cases hx
theorem test_of {K : PySem.W.Frag} {f : Loc → S → R P} {σ : L2.St} {H : Hp} {Q : Bool → Hp → Prop} {t : TE} (ht : ∀ σ H Q, tA K N f σ H Q → t σ H Q) (hb : ∀ l s p s', f l s = .ok p s' → ∃ b, p = .bl b)
    (h : tAT K N (fun l s => (f l s).bind fun p s => ofO (truth s p) s) σ H Q) : t σ H fun x H' => ∃ k, x = .bl k ∧ Q k H' := by
  obtain ⟨m, l, s, b, s', at0, e, k⟩ := h
  obtain ⟨p, s1, e1, e2⟩ := bind_eq_ok e
  obtain ⟨e3, rfl⟩ := ofO_ok e2
  obtain ⟨c, rfl⟩ := hb _ _ _ _ e1
  cases e3
  exact ht _ _ _ (tA_step at0 e1 fun v H1 m1 at1 x1 d1 => ⟨b, d1, k H1 m1 at1.rel x1⟩)
theorem cmpP_bl {o : CmpO} {p q r : P} {s s' : S} (h : cmpP o p q s = .ok r s') : ∃ b, r = .bl b := by
  cases o with
  | eq => obtain ⟨e, rfl⟩ := ofO_ok h; cases z : eqP s' p q <;> rw [z] at e <;> cases e; exact ⟨_, rfl⟩
  | ne => obtain ⟨e, rfl⟩ := ofO_ok h; cases z : eqD s' p q <;> rw [z] at e <;> cases e; exact ⟨_, rfl⟩
  | inn => cases q <;> try (cases h; done)
           dsimp only [cmpP] at h
           split at h
           · split at h
             · cases h; exact ⟨_, rfl⟩
             · cases h
           · cases h
  | nin => cases q <;> try (cases h; done)
           dsimp only [cmpP] at h
           split at h
           · split at h
             · cases h; exact ⟨_, rfl⟩
             · cases h
           · cases h
  | lt => cases p <;> cases q <;> first | (cases h; done) | (cases h; exact ⟨_, rfl⟩)
  | le => cases p <;> cases q <;> first | (cases h; done) | (cases h; exact ⟨_, rfl⟩)
  | gt => cases p <;> cases q <;> first | (cases h; done) | (cases h; exact ⟨_, rfl⟩)
  | ge => cases p <;> cases q <;> first | (cases h; done) | (cases h; exact ⟨_, rfl⟩)
theorem s_cmp (hu : X.A.units + 64 < cLine) {o : CmpO} (hy : nost y = true) (ha : PE X x (tA X.K N (ev G a))) (hb : PE X y (tA X.K N (ev G b))) : Snd X N G (.cmp o a b) (.Compare x [opC o] [y] pos) where
  pe := c_cmp G hu hy ha hb
  pt := PT.imp (L2.pt_cmpR (cmp_ok hu o) ha hb (marks_ok hy)) fun σ H Q h => test_of (N := N) (f := ev G (.cmp o a b)) (fun σ H Q h => tA_bin (g := cmpP o) (by simpa only [ev] using h)) (fun l s p s' e => by
      unfold ev at e
      obtain ⟨q, s1, e1, e⟩ := bind_eq_ok e
      obtain ⟨q2, s2, e2, e⟩ := bind_eq_ok e
      exact cmpP_bl e) h
  pw := fun op vs pos e => nomatch e
theorem s_cmp2 (hu : X.A.units + 64 < cLine) {o o' : CmpO} (hy : nost y = true) (hz : nost z = true) (ha : PE X x (tA X.K N (ev G a))) (hb : PE X y (tA X.K N (ev G b))) (hc : PE X z (tA X.K N (ev G c))) (hr : ∀ t : TE, PE X (.Compare x [opC o, opC o'] [y, z] pos) t → True) :
    PE X (.Compare x [opC o, opC o'] [y, z] pos) (tA X.K N (ev G (.cmp2 o o' a b c))) := c_cmp2 G hu hy hz ha hb hc
theorem s_isN {j : Nat} {pos' : Pos} (ha : PE X x (tA X.K N (ev G a))) : Snd X N G (.isN a) (.Compare x [.Is] [.Constant .none j pos'] pos) where
  pe := c_isN G ha
  pt := PT.imp (L2.pt_cmp (L2.pc_isN ha)) fun σ H Q h => test_of (N := N) (f := ev G (.isN a)) (t := L2.tIsN (tA X.K N (ev G a))) (fun σ H Q ⟨m, l, s, p, s', at0, e, k⟩ => by
      unfold ev at e
      obtain ⟨q, s1, e1, e2⟩ := bind_eq_ok e
      cases e2
      refine tA_step at0 e1 fun v H1 m1 at1 x1 d1 => ?_
      exact k _ _ m1 at1.rel x1 (by show _ = _; rw [non_dec d1]; cases q <;> rfl)) (fun l s p s' e => by
      unfold ev at e
      obtain ⟨q, s1, e1, e⟩ := bind_eq_ok e
      cases e
      exact ⟨_, rfl⟩) h
  pw := fun op vs pos e => nomatch e
theorem s_notN {j : Nat} {pos' : Pos} (ha : PE X x (tA X.K N (ev G a))) : Snd X N G (.notN a) (.Compare x [.IsNot] [.Constant .none j pos'] pos) where
  pe := c_notN G ha
  pt := PT.imp (L2.pt_cmp (L2.pc_notN ha)) fun σ H Q h => test_of (N := N) (f := ev G (.notN a)) (t := L2.tNotN (tA X.K N (ev G a))) (fun σ H Q ⟨m, l, s, p, s', at0, e, k⟩ => by
      unfold ev at e
      obtain ⟨q, s1, e1, e2⟩ := bind_eq_ok e
      cases e2
      refine tA_step at0 e1 fun v H1 m1 at1 x1 d1 => ?_
      exact k _ _ m1 at1.rel x1 (by show _ = _; rw [non_dec d1]; cases q <;> rfl)) (fun l s p s' e => by
      unfold ev at e
      obtain ⟨q, s1, e1, e⟩ := bind_eq_ok e
      cases e
      exact ⟨_, rfl⟩) h
  pw := fun op vs pos e => nomatch e
theorem s_not (h : Snd X N G a x) : Snd X N G (.not a) (.UnaryOp .Not x pos) where
  pe := c_not G h.pe
  pt := PT.imp (L2.pt_not h.pt) fun σ H Q ⟨m, l, s, b, s', at0, e, k⟩ => by
    obtain ⟨p, e1, e2⟩ := cond_ok G e
    unfold ev at e1
    obtain ⟨q, s1, e3, e4⟩ := bind_eq_ok e1
    obtain ⟨b2, s2, e5, e6⟩ := bind_eq_ok e4
    obtain ⟨e7, rfl⟩ := ofO_ok e5
    cases e6
    cases e2
    exact tAT_step at0 (cond_of G e3 e7) fun H1 m1 at1 x1 => k H1 m1 at1.rel x1
  pw := fun op vs pos e => nomatch e
theorem and_rd {t : TT} (h : ∀ σ H Q, tAT X.K N (cond G b) σ H Q → t σ H Q) : ∀ σ H Q, tAT X.K N (cond G (.and a b)) σ H Q → L2.tAnd (tAT X.K N (cond G a)) t σ H Q := by
  rintro σ H Q ⟨m, l, s, k0, s', at0, e, k⟩
  obtain ⟨p, e1, e2⟩ := cond_ok G e
  unfold ev at e1
  obtain ⟨q, s1, e3, e4⟩ := bind_eq_ok e1
  obtain ⟨b2, s2, e5, e6⟩ := bind_eq_ok e4
  obtain ⟨e7, rfl⟩ := ofO_ok e5
  refine tAT_step at0 (cond_of G e3 e7) fun H1 m1 at1 x1 => ?_
  cases b2 with
  | true => exact h _ _ _ (tAT_step at1 (cond_of G e6 e2) fun H2 m2 at2 x2 => k H2 m2 at2.rel (x1.trans x2))
  | false =>
    cases e6
    rw [e7] at e2
    cases e2
    exact k H1 m1 at1.rel x1
theorem or_rd {t : TT} (h : ∀ σ H Q, tAT X.K N (cond G b) σ H Q → t σ H Q) : ∀ σ H Q, tAT X.K N (cond G (.or a b)) σ H Q → L2.tOr (tAT X.K N (cond G a)) t σ H Q := by
  rintro σ H Q ⟨m, l, s, k0, s', at0, e, k⟩
  obtain ⟨p, e1, e2⟩ := cond_ok G e
  unfold ev at e1
  obtain ⟨q, s1, e3, e4⟩ := bind_eq_ok e1
  obtain ⟨b2, s2, e5, e6⟩ := bind_eq_ok e4
  obtain ⟨e7, rfl⟩ := ofO_ok e5
  refine tAT_step at0 (cond_of G e3 e7) fun H1 m1 at1 x1 => ?_
  cases b2 with
  | false => exact h _ _ _ (tAT_step at1 (cond_of G e6 e2) fun H2 m2 at2 x2 => k H2 m2 at2.rel (x1.trans x2))
  | true =>
    cases e6
    rw [e7] at e2
    cases e2
    exact k H1 m1 at1.rel x1
theorem pw_imp {x : Expr} {t t' : TT} (h : PW X x t) (f : ∀ σ H Q, t' σ H Q → t σ H Q) : PW X x t' := ⟨fun w pins s σ H Q I q => h.run w pins s σ H Q I (f σ H Q q)⟩
theorem s_and1 (ha : Snd X N G a x) (hb : Snd X N G b y) : Snd X N G (.and a b) (.BoolOp .And [x, y] pos) where
  pe := c_and G ha.pe (L2.pe_one hb.pe)
  pt := PW.pt (pw_imp (L2.pw_and ha.pt (L2.pw_and1 hb.pt)) (and_rd G fun _ _ _ z => z))
  pw := fun op vs pos e => pw_imp (L2.pw_and ha.pt (L2.pw_and1 hb.pt)) (and_rd G fun _ _ _ z => z)
theorem s_and2 {rest : List Expr} (ha : Snd X N G a x) (hb : Snd X N G b (.BoolOp .And (y :: rest) pos)) : Snd X N G (.and a b) (.BoolOp .And (x :: y :: rest) pos) where
  pe := c_and G ha.pe hb.pe
  pt := PW.pt (pw_imp (L2.pw_and ha.pt (hb.pw _ _ _ rfl)) (and_rd G fun _ _ _ z => z))
  pw := fun op vs pos' e => pw_imp (L2.pw_and ha.pt (hb.pw _ _ _ rfl)) (and_rd G fun _ _ _ z => z)
theorem s_or1 (ha : Snd X N G a x) (hb : Snd X N G b y) : Snd X N G (.or a b) (.BoolOp .Or [x, y] pos) where
  pe := c_or G ha.pe (L2.pe_one hb.pe)
  pt := PW.pt (pw_imp (L2.pw_or ha.pt (L2.pw_or1 hb.pt)) (or_rd G fun _ _ _ z => z))
  pw := fun op vs pos e => pw_imp (L2.pw_or ha.pt (L2.pw_or1 hb.pt)) (or_rd G fun _ _ _ z => z)
theorem s_or2 {rest : List Expr} (ha : Snd X N G a x) (hb : Snd X N G b (.BoolOp .Or (y :: rest) pos)) : Snd X N G (.or a b) (.BoolOp .Or (x :: y :: rest) pos) where
  pe := c_or G ha.pe hb.pe
  pt := PW.pt (pw_imp (L2.pw_or ha.pt (hb.pw _ _ _ rfl)) (or_rd G fun _ _ _ z => z))
  pw := fun op vs pos' e => pw_imp (L2.pw_or ha.pt (hb.pw _ _ _ rfl)) (or_rd G fun _ _ _ z => z)
end
end Pa
/-! Pa, part R: the checker of expressions, and that what it passes is read by the evaluator. -/
namespace Pa
open PySem (Str PyData Addr Value Obj Shared Expr Stmt Pos model wpAny wpAny_bind sizeLine cLine Heap sysModules starEach backTo eval BoolOp bootBuiltins Scope NameKind)
open L2 (V HO Hp Rd SqL SqT upd upd_same upd_ne VK TE TT TA TS TG TGs TI Ends Cx Inv PE PT PA PS PSs PG PGs PI PW PTs RelV Vals EP Key kV R2 OpR CallR)

/-- the program's names -/
structure Tx where
  fs : List Str
  ar : Nat → Nat
  cs : List Str
  car : Nat → Nat
  mar : Nat → Nat
  ks : List Str
def bltN : List Str := ["range", "enumerate", "zip", "reversed", "isinstance", "len", "tuple", "list", "sum", "sorted", "min", "max", "abs", "int", "dict", "str", "set", "bool"]
structure Good (T : Tx) (G : Env) (N : Nm) (X : Cx) : Prop where
  calm : X.calm = true
  un : X.A.units + 200 < cLine
  nd : X.N.Nodup
  fn : ∀ i nm, T.fs[i]? = some nm → ∃ f k, X.mg nm = some (.ref f) ∧ PySem.W.keepIn X.K (.ref f) = true ∧ FnK X N (T.ar i) (G.cal i) f k
  cl : ∀ i nm, T.cs[i]? = some nm → (∃ f k g, X.mg nm = some (.ref (N.cls i)) ∧ FnK X N (T.car i + 1) g f k ∧ L2.Room (k + 1) X.A ∧ L2.Mk X.K (N.cls i) f ∧ L2.Cls X.K (N.cls i) ∧ G.new i = newOf g i) ∨ ∀ xs s, G.new i xs s = .bad
  mt : ∀ ci k fi, G.mt ci k = some fi → ∃ f kk, FnK X N (T.mar k + 1) (G.cal fi) f kk ∧ L2.Meth X.K (N.cls ci) (N.fld k) f
  fok : ∀ c k, G.fok c k = true → L2.Cls X.K (N.cls c) ∧ L2.NoAttr X.K (N.cls c) (N.fld k)
  bl : ∀ nm ∈ bltN, X.mg nm = none
  fld : ∀ k nm, T.ks[k]? = some nm → N.fld k = nm
section
variable {T : Tx} {G : Env} {N : Nm} {X : Cx}
theorem Good.blk (g : Good T G N X) (s : Shared) (H : Hp) (scope : Scope) (env : PySem.Env) (fp : List Addr) : Good T G N (X.blk s H scope env fp) where
  calm := g.calm
  un := g.un
  nd := g.nd
  fn := fun i nm h => let ⟨f, k, h1, h2, h3, h4⟩ := g.fn i nm h; ⟨f, k, h1, h2, h3, h4⟩
  cl := fun i nm h => (g.cl i nm h).imp (fun ⟨f, k, c, h1, ⟨h2, h3⟩, h4, h5, h6, h7⟩ => ⟨f, k, c, h1, ⟨h2, h3⟩, h4, h5, h6, h7⟩) id
  mt := fun c k fi h => let ⟨f, kk, ⟨h1, h2⟩, h3⟩ := g.mt c k fi h; ⟨f, kk, ⟨h1, h2⟩, h3⟩
  fok := g.fok
  bl := g.bl
  fld := g.fld
end

/-! ### the checker -/
def visB (sc : Scope) (x : Str) : Bool := match sc.names.lookup x with
  | some .local => true | some .cell => true | some .free => true | _ => false
def locB (sc : Scope) (fn : Str → Bool) (x : Str) : Bool := match sc.names.lookup x with
  | some .local => true | some .cell => fn x | _ => false
def glB (sc : Scope) (x : Str) : Bool := match sc.names.lookup x with
  | some .globalImplicit => true | _ => false
def nmB (x : Str) : Bool := !(x == ("__debug__" : Str)) && !(x == ("__classdict__" : Str))
def isTupE : Expr → Bool
  | .Tuple .. => true
  | _ => false
def pthC : Ex → Bool
  | .v _ => true
  | .fld (.v _) _ => true
  | _ => false
mutual
def chkT (N : List Str) (sc : Scope) (fn : Str → Bool) : Tg → Expr → Bool
  | .v i, e => match e with
    | .Name x _ => decide (N[i]? = some x) && locB sc fn x
    | _ => false
  | .tup ts, e => match e with
    | .Tuple es _ _ => chkTs N sc fn ts es
    | _ => false
def chkTs (N : List Str) (sc : Scope) (fn : Str → Bool) : Tgs → List Expr → Bool
  | .nil, es => match es with
    | [] => true
    | _ => false
  | .cons t ts, es => match es with
    | e :: r => nost e && chkT N sc fn t e && chkTs N sc fn ts r
    | _ => false
end
mutual
def slots : Tg → List Nat
  | .v i => [i]
  | .tup ts => slotsS ts
def slotsS : Tgs → List Nat
  | .nil => []
  | .cons t ts => slots t ++ slotsS ts
end
def ownOf (N : List Str) (own : List Nat) : List (Str × Nat) := own.map fun i => (N.getD i "", i)
mutual
def chkE (T : Tx) (N : List Str) : Ex → Scope → (Str → Bool) → Expr → Bool
  | .v i, sc, fn, e => match e with
    | .Name x _ => decide (N[i]? = some x) && visB sc x && nmB x
    | _ => false
  | .int i, sc, fn, e => match e with
    | .Constant (.int j) _ _ => decide (i = j)
    | _ => false
  | .bl b, sc, fn, e => match e with
    | .Constant (.bool c) _ _ => b == c
    | _ => false
  | .non, sc, fn, e => match e with
    | .Constant .none _ _ => true
    | _ => false
  | .str x, sc, fn, e => match e with
    | .Constant (.str y) _ _ => decide (x = y)
    | _ => false
  | .tup es, sc, fn, e => match e with
    | .Tuple xs _ _ => decide (es.len ≤ 1000) && chkEs T N es sc fn xs
    | _ => false
  | .lst es, sc, fn, e => match e with
    | .List xs _ => decide (es.len ≤ 1000) && chkEs T N es sc fn xs
    | _ => false
  | .dct, sc, fn, e => match e with
    | .Dict [] [] _ => true
    | _ => false
  | .bin o a b, sc, fn, e => match e with
    | .BinOp x op y _ => decide (op = opB o) && chkE T N a sc fn x && chkE T N b sc fn y
    | _ => false
  | .neg a, sc, fn, e => match e with
    | .UnaryOp .USub x _ => chkE T N a sc fn x
    | _ => false
  | .not a, sc, fn, e => match e with
    | .UnaryOp .Not x _ => chkE T N a sc fn x
    | _ => false
  | .cmp o a b, sc, fn, e => match e with
    | .Compare x [op] [y] _ => decide (op = opC o) && nost y && chkE T N a sc fn x && chkE T N b sc fn y
    | _ => false
  | .cmp2 o o' a b c, sc, fn, e => match e with
    | .Compare x [op, op'] [y, z] _ => decide (op = opC o) && decide (op' = opC o') && nost y && nost z && chkE T N a sc fn x && chkE T N b sc fn y && chkE T N c sc fn z
    | _ => false
  | .isN a, sc, fn, e => match e with
    | .Compare x [.Is] [.Constant .none _ _] _ => chkE T N a sc fn x
    | _ => false
  | .notN a, sc, fn, e => match e with
    | .Compare x [.IsNot] [.Constant .none _ _] _ => chkE T N a sc fn x
    | _ => false
  | .and a b, sc, fn, e => match e with
    | .BoolOp .And [x, y] _ => chkE T N a sc fn x && chkE T N b sc fn y
    | .BoolOp .And (x :: y :: z :: r) p => chkE T N a sc fn x && chkE T N b sc fn (.BoolOp .And (y :: z :: r) p)
    | _ => false
  | .or a b, sc, fn, e => match e with
    | .BoolOp .Or [x, y] _ => chkE T N a sc fn x && chkE T N b sc fn y
    | .BoolOp .Or (x :: y :: z :: r) p => chkE T N a sc fn x && chkE T N b sc fn (.BoolOp .Or (y :: z :: r) p)
    | _ => false
  | .ife c a b, sc, fn, e => match e with
    | .IfExp z x y _ => chkE T N c sc fn z && chkE T N a sc fn x && chkE T N b sc fn y
    | _ => false
  | .ix a i, sc, fn, e => match e with
    | .Subscript x y _ => nost y && chkE T N a sc fn x && chkE T N i sc fn y
    | _ => false
  | .sl a b c, sc, fn, e => match e with
    | .Subscript x (.Slice (some y) (some z) none _) _ => chkE T N a sc fn x && chkE T N b sc fn y && chkE T N c sc fn z
    | _ => false
  | .slL a b, sc, fn, e => match e with
    | .Subscript x (.Slice (some y) none none _) _ => chkE T N a sc fn x && chkE T N b sc fn y
    | _ => false
  | .slU a b, sc, fn, e => match e with
    | .Subscript x (.Slice none (some y) none _) _ => chkE T N a sc fn x && chkE T N b sc fn y
    | _ => false
  | .slA a, sc, fn, e => match e with
    | .Subscript x (.Slice none none none _) _ => chkE T N a sc fn x
    | _ => false
  | .fld a k, sc, fn, e => match e with
    | .Attribute x nm _ => decide (T.ks[k]? = some nm) && noc0 x && chkE T N a sc fn x
    | _ => false
  | .call i es, sc, fn, e => match e with
    | .Call (.Name nm _) xs [] _ => decide (T.fs[i]? = some nm) && glB sc nm && nmB nm && decide (es.len = T.ar i) && chkEs T N es sc fn xs
    | _ => false
  | .new i es, sc, fn, e => match e with
    | .Call (.Name nm _) xs [] _ => decide (T.cs[i]? = some nm) && glB sc nm && nmB nm && decide (es.len = T.car i) && chkEs T N es sc fn xs
    | _ => false
  | .meth a k es, sc, fn, e => match e with
    | .Call (.Attribute x nm ap) xs [] p => decide (T.ks[k]? = some nm) && noc0 x && (ap.endLine == p.line) && decide (es.len = T.mar k) && decide (xs.length < 30) && chkE T N a sc fn x && chkEs T N es sc fn xs
    | _ => false
  | .b1 f a, sc, fn, e => match e with
    | .Call (.Name nm _) [x] [] _ => decide ((b1n f).1 = nm) && glB sc nm && nost x && chkE T N a sc fn x
    | _ => false
  | .b2 f a b, sc, fn, e => match e with
    | .Call (.Name nm _) [x, y] [] _ => decide ((b2n f).1 = nm) && glB sc nm && nost x && nost y && chkE T N a sc fn x && chkE T N b sc fn y
    | _ => false
  | .m0 f a, sc, fn, e => match f with
    | .pop => match e with
      | .Call (.Attribute x nm ap) [] [] p => decide (("pop" : Str) = nm) && noc0 x && (ap.endLine == p.line) && chkE T N a sc fn x
      | _ => false
    | .items => match e with
      | .Call (.Name ln _) [.Call (.Attribute x nm ap) [] [] cp] [] _ => decide (("list" : Str) = ln) && glB sc ln && decide (("items" : Str) = nm) && noc0 x && (ap.endLine == cp.line) && chkE T N a sc fn x
      | _ => false
    | .keys => match e with
      | .Call (.Name ln _) [.Call (.Attribute x nm ap) [] [] cp] [] _ => decide (("list" : Str) = ln) && glB sc ln && decide (("keys" : Str) = nm) && noc0 x && (ap.endLine == cp.line) && chkE T N a sc fn x
      | _ => false
    | _ => false
  | .m1 f a b, sc, fn, e => match e with
    | .Call (.Attribute x nm ap) [y] [] p => m1ok f && decide (m1n f = nm) && noc0 x && (ap.endLine == p.line) && nost y && chkE T N a sc fn x && chkE T N b sc fn y
    | _ => false
  | .m2 f a b c, sc, fn, e => match e with
    | .Call (.Attribute x nm ap) [y, z] [] p => m2ok f && decide (m2n f = nm) && noc0 x && (ap.endLine == p.line) && nost y && nost z && chkE T N a sc fn x && chkE T N b sc fn y && chkE T N c sc fn z
    | _ => false
  | .sortI a, sc, fn, e => match e with
    | .Call (.Name ln _) [.Call (.Attribute x nm ap) [] [] cp] [] _ => decide (("sorted" : Str) = ln) && glB sc ln && decide (("items" : Str) = nm) && noc0 x && (ap.endLine == cp.line) && chkE T N a sc fn x
    | _ => false
  | .isi a t, sc, fn, e => match e with
    | .Call (.Name nm _) [x, .Name j _] [] _ => decide (("isinstance" : Str) = nm) && glB sc nm && decide (j = tyN t) && glB sc j && nost x && chkE T N a sc fn x
    | _ => false
  | .lc t it cs a own, sc, fn, e => match e with
    | .ListComp elt [⟨tg, iter, ifs, 0⟩] scope _ => chkI T N it sc fn tg iter && nost iter && L2.blkC N sc scope (ownOf N own) && (slots t).all (own.contains ·) &&
        chkT N (L2.relS scope sc) (fun x => scope.names.lookup x == some .cell) t tg && chkC T N cs (L2.relS scope sc) (fun x => scope.names.lookup x == some .cell) ifs &&
        chkE T N a (L2.relS scope sc) (fun x => scope.names.lookup x == some .cell) elt
    | _ => false
  | .lcD t itm d cs a own, sc, fn, e => match e with
    | .ListComp elt [⟨tg, iter, ifs, 0⟩] scope _ => (match itm with
        | true => (match iter with
          | .Call (.Attribute x nm ap) [] [] p => isTupE tg && decide (("items" : Str) = nm) && noc0 x && (ap.endLine == p.line) && chkE T N d sc fn x
          | _ => false)
        | false => nost iter && chkE T N d sc fn iter) && pthC d && L2.blkC N sc scope (ownOf N own) && (slots t).all (own.contains ·) &&
        chkT N (L2.relS scope sc) (fun x => scope.names.lookup x == some .cell) t tg && chkC T N cs (L2.relS scope sc) (fun x => scope.names.lookup x == some .cell) ifs &&
        chkE T N a (L2.relS scope sc) (fun x => scope.names.lookup x == some .cell) elt
    | _ => false
  | .lc2 t it cs t2 it2 cs2 a own own2, sc, fn, e => match e with
    | .ListComp elt [⟨tg, iter, ifs, 0⟩, ⟨tg2, iter2, ifs2, 0⟩] scope _ => chkI T N it sc fn tg iter && nost iter && L2.blkC N sc scope (ownOf N own) && (slots t).all (own.contains ·) && (slots t2).all (own2.contains ·) && own2.all (own.contains ·) &&
        chkT N (L2.relS scope sc) (fun x => scope.names.lookup x == some .cell) t tg && chkC T N cs (L2.relS scope sc) (fun x => scope.names.lookup x == some .cell) ifs &&
        chkI T N it2 (L2.relS scope sc) (fun x => scope.names.lookup x == some .cell) tg2 iter2 && nost iter2 &&
        chkT N (L2.relS scope sc) (fun x => scope.names.lookup x == some .cell) t2 tg2 && chkC T N cs2 (L2.relS scope sc) (fun x => scope.names.lookup x == some .cell) ifs2 &&
        chkE T N a (L2.relS scope sc) (fun x => scope.names.lookup x == some .cell) elt
    | _ => false
def chkEs (T : Tx) (N : List Str) : Exs → Scope → (Str → Bool) → List Expr → Bool
  | .nil, sc, fn, xs => match xs with
    | [] => true
    | _ => false
  | .cons e es, sc, fn, xs => match xs with
    | x :: r => nost x && chkE T N e sc fn x && chkEs T N es sc fn r
    | _ => false
def chkC (T : Tx) (N : List Str) : Exs → Scope → (Str → Bool) → List Expr → Bool
  | .nil, sc, fn, xs => match xs with
    | [] => true
    | _ => false
  | .cons e es, sc, fn, xs => match es with
    | .nil => match xs with
      | [x] => chkE T N e sc fn x
      | _ => false
    | _ => false
def chkI (T : Tx) (N : List Str) : It → Scope → (Str → Bool) → Expr → Expr → Bool
  | .ex a, sc, fn, tg, e => chkE T N a sc fn e
  | .rng1 a, sc, fn, tg, e => match e with
    | .Call (.Name nm _) [x] [] _ => decide (("range" : Str) = nm) && glB sc nm && nost x && chkE T N a sc fn x
    | _ => false
  | .rng2 a b, sc, fn, tg, e => match e with
    | .Call (.Name nm _) [x, y] [] _ => decide (("range" : Str) = nm) && glB sc nm && nost x && nost y && chkE T N a sc fn x && chkE T N b sc fn y
    | _ => false
  | .zip a b, sc, fn, tg, e => match e with
    | .Call (.Name nm _) [x, y] [] _ => isTupE tg && decide (("zip" : Str) = nm) && glB sc nm && nost x && nost y && chkE T N a sc fn x && chkE T N b sc fn y
    | _ => false
  | .enum a, sc, fn, tg, e => match e with
    | .Call (.Name nm _) [x] [] _ => isTupE tg && decide (("enumerate" : Str) = nm) && glB sc nm && nost x && chkE T N a sc fn x
    | _ => false
  | .rev a, sc, fn, tg, e => match e with
    | .Call (.Name nm _) [x] [] _ => decide (("reversed" : Str) = nm) && glB sc nm && nost x && chkE T N a sc fn x
    | _ => false
end
end Pa
/-! Pa, part S: what the checker passes is read by the evaluator: targets, expressions. -/
namespace Pa
open PySem (Str PyData Addr Value Obj Shared Expr Stmt Pos model wpAny wpAny_bind sizeLine cLine Heap sysModules starEach backTo eval BoolOp bootBuiltins Scope NameKind)
open L2 (V HO Hp Rd SqL SqT upd upd_same upd_ne VK TE TT TA TS TG TGs TI Ends Cx Inv PE PT PA PS PSs PG PGs PI PW PTs RelV Vals EP Key kV R2 OpR CallR)

theorem visB_ok {sc : Scope} {x : Str} (h : visB sc x = true) : L2.Vis sc x := by
  unfold visB at h
  split at h
  · rename_i e; exact .inl e
  · rename_i e; exact .inr (.inl e)
  · rename_i e; exact .inr (.inr e)
  · cases h
theorem locB_ok {X : Cx} {x : Str} (h : locB X.env.scope X.fn x = true) : L2.Loc X.env.scope x ∧ (X.fn x = true ∨ X.env.scope.names.lookup x = some .local) := by
  unfold locB at h
  split at h
  · rename_i e; exact ⟨.inl e, .inr e⟩
  · rename_i e; exact ⟨.inr e, .inl h⟩
  · cases h
theorem glB_ok {X : Cx} {x : Str} (h : glB X.env.scope x = true) : L2.Gl X x := by
  unfold glB at h
  split at h
  · rename_i e; exact e
  · cases h
theorem nmB_ok {x : Str} (h : nmB x = true) : (x == ("__debug__" : Str)) = false ∧ (x == ("__classdict__" : Str)) = false := by
  unfold nmB at h
  rw [Bool.and_eq_true] at h
  exact ⟨by simpa using h.1, by simpa using h.2⟩
def tGs (K : PySem.W.Frag) (N : Nm) (f : List P → Loc → Option Loc) (is : List Nat) : TGs := fun vs σ H Q => ∃ m l s ps l', At K N σ H m l s ∧ Dens K H m s.length ps vs ∧ f ps l = some l' ∧ ∀ σ', LRel K H m s.length l' σ' → Same is σ σ' → Q σ' H
theorem assign_all {env : PySem.Env} : ∀ {es : List Expr}, es.all nost = true → PySem.assignEach es env = es.map fun e => (false, PySem.assign e env)
  | [], _ => rfl
  | e :: es, h => by
    rw [List.all_cons, Bool.and_eq_true] at h
    have : PySem.assignEach (e :: es) env = (false, PySem.assign e env) :: PySem.assignEach es env := by
      cases e <;> first | rfl | (cases h.1; done)
    rw [this, assign_all h.2]; rfl
theorem Same.trans {is js : List Nat} {a b c : L2.St} (h : Same is a b) (k : Same js b c) : Same (is ++ js) a c :=
  ⟨k.1.trans h.1, fun i hi => (k.2 i fun z => hi (List.mem_append_right _ z)).trans (h.2 i fun z => hi (List.mem_append_left _ z))⟩
section
variable {N : Nm}
mutual
theorem sT {X : Cx} (hc : X.calm = true) (hN : X.N.Nodup) : ∀ (t : Tg) (e : Expr), chkT X.N X.env.scope X.fn t e = true → PG X e (tG X.K N (bindT t) (slots t))
  | .v i, e, h => by
    unfold chkT at h
    split at h
    · simp only [Bool.and_eq_true, decide_eq_true_eq] at h
      obtain ⟨h1, h2⟩ := locB_ok h.2
      refine PG.imp (L2.pg_name hN h.1 h1 h2) fun v σ H Q ⟨m, l, s, p, l', at0, d, e, k⟩ => ?_
      unfold bindT at e
      split at e
      · cases e
        exact k _ (at0.loc.set d i) ⟨List.length_set .., fun j hj => List.getElem?_set_ne (fun z => hj (by simp [slots, z]))⟩
      · cases e
    · cases h
  | .tup ts, e, h => by
    unfold chkT at h
    split at h
    · rename_i es kk tpos
      obtain ⟨h1, h2, h3⟩ := sTs hc hN ts es h
      refine PG.imp (L2.pg_tup (n := es.length) hc h1 (by rw [assign_all h2]; simp) (by rw [assign_all h2]; simp)) fun v σ H Q ⟨m, l, s, p, l', at0, d, e, k⟩ => ?_
      cases p <;> first | (unfold bindT at e; cases e; done) | skip
      rename_i ps
      have e' : bindTs ts ps l = some l' := by unfold bindT at e; exact e
      obtain ⟨a, vs, rfl, hv, ds⟩ := d
      exact ⟨a, vs, rfl, SqT.of hv, by rw [← ds.length]; exact h3 ps l l' e', m, l, s, ps, l', at0, ds, e', k⟩
    · cases h
theorem sTs {X : Cx} (hc : X.calm = true) (hN : X.N.Nodup) : ∀ (ts : Tgs) (es : List Expr), chkTs X.N X.env.scope X.fn ts es = true → PGs X es (tGs X.K N (bindTs ts) (slotsS ts)) ∧ es.all nost = true ∧ ∀ ps l l', bindTs ts ps l = some l' → ps.length = es.length
  | .nil, es, h => by
    unfold chkTs at h
    split at h
    · refine ⟨⟨fun pins s σ H vs us Q I r ⟨m, l, st, ps, l', at0, ds, e, k⟩ => L2.pgs_nil.run pins s σ H vs us Q I r ?_⟩, rfl, fun ps l l' e => ?_⟩
      · unfold bindTs at e
        cases ps <;> first | (cases e; done) | skip
        cases e
        cases ds
        exact ⟨rfl, k σ at0.loc ⟨rfl, fun _ _ => rfl⟩⟩
      · unfold bindTs at e
        cases ps <;> first | (cases e; done) | rfl
    · cases h
  | .cons t ts, es, h => by
    unfold chkTs at h
    split at h
    · rename_i e r
      simp only [Bool.and_eq_true] at h
      obtain ⟨⟨h1, h2⟩, h3⟩ := h
      have g1 := sT hc hN t e h2
      obtain ⟨g2, g3, g4⟩ := sTs hc hN ts r h3
      have hall : (e :: r).all nost = true := by rw [List.all_cons, h1, g3]; rfl
      refine ⟨⟨fun pins s σ H vs us Q I rv ⟨m, l, st, ps, l', at0, ds, e', k⟩ => (L2.pgs_cons g1 g2 (by rw [assign_all hall, assign_all g3]; rfl)).run pins s σ H vs us Q I rv ?_⟩, hall, fun ps l l' e' => ?_⟩
      · cases ps with
        | nil => unfold bindTs at e'; cases e'
        | cons p ps =>
          have e2 : (bindT t p l).bind (bindTs ts ps) = some l' := by unfold bindTs at e'; exact e'
          obtain ⟨v, rs, rfl, d, ds⟩ := ds
          cases h5 : bindT t p l with
          | none => rw [h5] at e2; cases e2
          | some l2 =>
            rw [h5] at e2
            refine ⟨v, rs, rfl, m, l, st, p, l2, at0, d, h5, fun σ' lr sm => ?_⟩
            exact ⟨m, l2, st, ps, l', ⟨at0.rel, lr⟩, ds, e2, fun σ2 lr2 sm2 => k σ2 lr2 (sm.trans sm2)⟩
      · cases ps with
        | nil => unfold bindTs at e'; cases e'
        | cons p ps =>
          have e2 : (bindT t p l).bind (bindTs ts ps) = some l' := by unfold bindTs at e'; exact e'
          cases h5 : bindT t p l with
          | none => rw [h5] at e2; cases e2
          | some l2 =>
            rw [h5] at e2
            show ps.length + 1 = r.length + 1
            rw [g4 ps l2 l' e2]
    · cases h
end
end
/-! ### more of tests -/
section
variable {X : Cx} {N : Nm} {x y z : Expr} {pos : Pos} (G : Env) {a b c : Ex}
theorem pt_ife {tz tx ty : TT} (hz : PT X z tz) (hx : PT X x tx) (hy : PT X y ty) : PT X (.IfExp z x y pos) (fun σ H Q => tz σ H fun b H1 => if b = true then tx σ H1 Q else ty σ H1 Q) := by
  refine ⟨fun pins s σ H Q I h => ?_⟩
  show wpAny _ _ (PySem.isTrue z X.env (eval z X.env) >>= fun b => if b = true then PySem.isTrue x X.env (eval x X.env) else PySem.isTrue y X.env (eval y X.env)) _ _ s
  refine wpAny_bind (L2.thn (hz.run pins s σ H _ I h) fun b s1 ⟨H1, I1, q⟩ => ?_)
  cases b with
  | true => exact hx.run pins s1 σ H1 Q I1 q
  | false => exact hy.run pins s1 σ H1 Q I1 q
theorem s_ife (hc : Snd X N G c z) (ha : Snd X N G a x) (hb : Snd X N G b y) : Snd X N G (.ife c a b) (.IfExp z x y pos) where
  pe := c_ife G hc.pt ha.pe hb.pe
  pt := PT.imp (pt_ife hc.pt ha.pt hb.pt) fun σ H Q ⟨m, l, s, k0, s', at0, e, k⟩ => by
    obtain ⟨p, e1, e2⟩ := cond_ok G e
    unfold ev at e1
    obtain ⟨q, s1, e3, e4⟩ := bind_eq_ok e1
    obtain ⟨b2, s2, e5, e6⟩ := bind_eq_ok e4
    obtain ⟨e7, rfl⟩ := ofO_ok e5
    refine tAT_step at0 (cond_of G e3 e7) fun H1 m1 at1 x1 => ?_
    cases b2 with
    | true => exact tAT_step at1 (cond_of G e6 e2) fun H2 m2 at2 x2 => k H2 m2 at2.rel (x1.trans x2)
    | false => exact tAT_step at1 (cond_of G e6 e2) fun H2 m2 at2 x2 => k H2 m2 at2.rel (x1.trans x2)
  pw := fun op vs pos e => nomatch e
theorem cmp2_rd {o o' : CmpO} : ∀ σ H Q, tA X.K N (ev G (.cmp2 o o' a b c)) σ H Q → L2.tChain (rA X.K N (cmpP o)) (rA X.K N (cmpP o')) (tA X.K N (ev G a)) (tA X.K N (ev G b)) (tA X.K N (ev G c)) σ H Q := by
  rintro σ H Q ⟨m, l, s, p, s', at0, e, k⟩
  unfold ev at e
  obtain ⟨p1, s1, e1, e⟩ := bind_eq_ok e
  obtain ⟨p2, s2, e2, e⟩ := bind_eq_ok e
  obtain ⟨p3, s3, e3, e⟩ := bind_eq_ok e
  refine tA_step at0 e1 fun v1 H1 m1 at1 x1 d1 => ?_
  refine tA_step at1 e2 fun v2 H2 m2 at2 x2 d2 => ?_
  refine ⟨m2, s2, p1, p2, p3, s3, at2.rel, at1.rel.den x2 d1, d2, e3, fun v3 H3 m3 r3 x3 d3 => ?_⟩
  have at3 := at2.step r3 x3
  cases p3 <;> try (cases e; done)
  rename_i b
  cases d3
  refine ⟨b, rfl, ?_⟩
  cases b with
  | false => cases e; exact k _ _ m3 r3 ((x1.trans x2).trans x3) rfl
  | true =>
    obtain ⟨p4, s4, e4, e⟩ := bind_eq_ok e
    refine tA_step at3 e4 fun v4 H4 m4 at4 x4 d4 => ?_
    exact ⟨m4, s4, p2, p4, p, s', at4.rel, at3.rel.den x4 (at2.rel.den x3 d2), d4, e, fun v5 H5 m5 r5 x5 d5 => k v5 H5 m5 r5 ((((x1.trans x2).trans x3).trans x4).trans x5) d5⟩
theorem s_chain (hu : X.A.units + 64 < cLine) {o o' : CmpO} (hy : nost y = true) (hz : nost z = true) (ha : PE X x (tA X.K N (ev G a))) (hb : PE X y (tA X.K N (ev G b))) (hc : PE X z (tA X.K N (ev G c))) : Snd X N G (.cmp2 o o' a b c) (.Compare x [opC o, opC o'] [y, z] pos) where
  pe := c_cmp2 G hu hy hz ha hb hc
  pt := PT.imp (L2.pt_chain (cmp_ok hu o) (cmp_ok hu o') ha hb hc (by show PySem.behindInMarks _ _ = false; exact marks_ok hz)) fun σ H Q h => test_of (N := N) (f := ev G (.cmp2 o o' a b c)) (cmp2_rd G) (fun l s p s' e => by
      unfold ev at e
      obtain ⟨p1, s1, e1, e⟩ := bind_eq_ok e
      obtain ⟨p2, s2, e2, e⟩ := bind_eq_ok e
      obtain ⟨p3, s3, e3, e⟩ := bind_eq_ok e
      cases p3 <;> try (cases e; done)
      rename_i b
      cases b with
      | false => cases e; exact ⟨_, rfl⟩
      | true =>
        obtain ⟨p4, s4, e4, e⟩ := bind_eq_ok e
        exact cmpP_bl e) h
  pw := fun op vs pos e => nomatch e
theorem pth_ok {G : Env} : ∀ {a : Ex}, pthC a = true → Pth (ev G a) := by
  intro a h l s p s' e
  unfold pthC at h
  split at h
  · unfold ev at e
    split at e
    · rename_i q hq
      cases e
      exact ⟨rfl, fun n kvs hn => by unfold ev; rw [hq]⟩
    · cases e
  · rename_i i k
    unfold ev at e
    obtain ⟨q, s1, e1, e2⟩ := bind_eq_ok e
    unfold ev at e1
    split at e1
    · rename_i q' hq
      cases e1
      unfold fldP at e2
      split at e2
      · rename_i j
        split at e2
        · rename_i cc fs hj
          obtain ⟨e3, rfl⟩ := ofO_ok e2
          refine ⟨rfl, fun n kvs hn => ?_⟩
          have ne : n ≠ j := fun z => by subst z; rw [hn] at hj; cases hj
          show ((ev G (.v i) l _).bind fun p s => fldP p k s) = _
          unfold ev
          rw [hq]
          show fldP (.loc j) k _ = _
          unfold fldP
          dsimp only
          rw [List.getElem?_set_ne ne, hj]
          dsimp only
          rw [e3]; rfl
        · cases e2
      · cases e2
    · cases e1
  · cases h
end
end Pa
/-! Pa, part T: the soundness of expressions. -/
namespace Pa
open PySem (Str PyData Addr Value Obj Shared Expr Stmt Pos model wpAny wpAny_bind sizeLine cLine Heap sysModules starEach backTo eval BoolOp bootBuiltins Scope NameKind)
open L2 (V HO Hp Rd SqL SqT upd upd_same upd_ne VK TE TT TA TS TG TGs TI Ends Cx Inv PE PT PA PS PSs PG PGs PI PW PTs RelV Vals EP Key kV R2 OpR CallR)

theorem isTupE_ok {e : Expr} (h : isTupE e = true) : ∃ es k p, e = .Tuple es k p := by
  cases e <;> first | (cases h; done) | exact ⟨_, _, _, rfl⟩
theorem own_map {N : List Str} {own : List Nat} : (ownOf N own).map (·.2) = own := by
  unfold ownOf; rw [List.map_map]; show own.map (fun i => i) = own; simp
theorem sub_ok {a b : List Nat} (h : a.all (b.contains ·) = true) : ∀ i ∈ a, i ∈ b := fun i hi => by
  have := List.all_eq_true.mp h i hi
  simpa using this
theorem star2 {x y : Expr} {env : PySem.Env} (hx : nost x = true) (hy : nost y = true) : starEach [x, y] env = [(false, eval x env), (false, eval y env)] := by
  rw [star_cons hx, star_cons hy]; rfl
section
variable {T : Tx} {G : Env} {N : Nm}
theorem blName {n : Str} (h : n ∈ bltN) {X : Cx} (gd : Good T G N X) : X.mg n = none := gd.bl n h
set_option maxHeartbeats 4000000
mutual
theorem sE : ∀ (e : Ex) (X : Cx) (gd : Good T G N X) (x : Expr), chkE T X.N e X.env.scope X.fn x = true → Snd X N G e x
  | .v i, X, gd, x, h => by
    unfold chkE at h
    split at h
    · simp only [Bool.and_eq_true, decide_eq_true_eq] at h
      exact Snd.of G (c_v G h.1.1 (visB_ok h.1.2) (nmB_ok h.2).1 (nmB_ok h.2).2) rfl
    · cases h
  | .int i, X, gd, x, h => by
    unfold chkE at h
    split at h
    · simp only [decide_eq_true_eq] at h; subst h
      exact Snd.of G (c_const (p := .int i) G L2.pe_int (fun _ _ _ => rfl) fun l s => by simp only [ev]) rfl
    · cases h
  | .bl b, X, gd, x, h => by
    unfold chkE at h
    split at h
    · simp only [beq_iff_eq] at h; subst h
      exact Snd.of G (c_const (p := .bl b) G L2.pe_bl (fun _ _ _ => rfl) fun l s => by simp only [ev]) rfl
    · cases h
  | .non, X, gd, x, h => by
    unfold chkE at h
    split at h
    · exact Snd.of G (c_const (p := .non) G L2.pe_non (fun _ _ _ => rfl) fun l s => by simp only [ev]) rfl
    · cases h
  | .str y, X, gd, x, h => by
    unfold chkE at h
    split at h
    · simp only [decide_eq_true_eq] at h; subst h
      exact Snd.of G (c_const (p := .str y) G L2.pe_str (fun _ _ _ => rfl) fun l s => by simp only [ev]) rfl
    · cases h
  | .tup es, X, gd, x, h => by
    unfold chkE at h
    split at h
    · simp only [Bool.and_eq_true, decide_eq_true_eq] at h
      exact Snd.of G (c_tup G (sEs es X gd _ h.2).1 h.1) rfl
    · cases h
  | .lst es, X, gd, x, h => by
    unfold chkE at h
    split at h
    · simp only [Bool.and_eq_true, decide_eq_true_eq] at h
      exact Snd.of G (c_lst G (sEs es X gd _ h.2).1 h.1) rfl
    · cases h
  | .dct, X, gd, x, h => by
    unfold chkE at h
    split at h
    · exact Snd.of G (c_dct G) rfl
    · cases h
  | .bin o a b, X, gd, x, h => by
    unfold chkE at h
    split at h
    · simp only [Bool.and_eq_true, decide_eq_true_eq] at h
      obtain ⟨⟨rfl, h1⟩, h2⟩ := h
      exact Snd.of G (c_bin G (sE a X gd _ h1).pe (sE b X gd _ h2).pe) rfl
    · cases h
  | .neg a, X, gd, x, h => by
    unfold chkE at h
    split at h
    · exact Snd.of G (c_neg G (sE a X gd _ h).pe) rfl
    · cases h
  | .not a, X, gd, x, h => by
    unfold chkE at h
    split at h
    · exact s_not G (sE a X gd _ h)
    · cases h
  | .cmp o a b, X, gd, x, h => by
    unfold chkE at h
    split at h
    · simp only [Bool.and_eq_true, decide_eq_true_eq] at h
      obtain ⟨⟨⟨rfl, h0⟩, h1⟩, h2⟩ := h
      exact s_cmp G (by have := gd.un; omega) h0 (sE a X gd _ h1).pe (sE b X gd _ h2).pe
    · cases h
  | .cmp2 o o' a b c, X, gd, x, h => by
    unfold chkE at h
    split at h
    · simp only [Bool.and_eq_true, decide_eq_true_eq] at h
      obtain ⟨⟨⟨⟨⟨⟨rfl, rfl⟩, h3⟩, h4⟩, h0⟩, h1⟩, h2⟩ := h
      exact s_chain G (by have := gd.un; omega) h3 h4 (sE a X gd _ h0).pe (sE b X gd _ h1).pe (sE c X gd _ h2).pe
    · cases h
  | .isN a, X, gd, x, h => by
    unfold chkE at h
    split at h
    · exact s_isN G (sE a X gd _ h).pe
    · cases h
  | .notN a, X, gd, x, h => by
    unfold chkE at h
    split at h
    · exact s_notN G (sE a X gd _ h).pe
    · cases h
  | .and a b, X, gd, x, h => by
    unfold chkE at h
    split at h
    · simp only [Bool.and_eq_true] at h
      exact s_and1 G (sE a X gd _ h.1) (sE b X gd _ h.2)
    · simp only [Bool.and_eq_true] at h
      exact s_and2 G (sE a X gd _ h.1) (sE b X gd _ h.2)
    · cases h
  | .or a b, X, gd, x, h => by
    unfold chkE at h
    split at h
    · simp only [Bool.and_eq_true] at h
      exact s_or1 G (sE a X gd _ h.1) (sE b X gd _ h.2)
    · simp only [Bool.and_eq_true] at h
      exact s_or2 G (sE a X gd _ h.1) (sE b X gd _ h.2)
    · cases h
  | .ife c a b, X, gd, x, h => by
    unfold chkE at h
    split at h
    · simp only [Bool.and_eq_true] at h
      exact s_ife G (sE c X gd _ h.1.1) (sE a X gd _ h.1.2) (sE b X gd _ h.2)
    · cases h
  | .ix a i, X, gd, x, h => by
    unfold chkE at h
    split at h
    · simp only [Bool.and_eq_true] at h
      exact Snd.of G (c_ix G (by have := gd.un; omega) h.1.1 (sE a X gd _ h.1.2).pe (sE i X gd _ h.2).pe) rfl
    · cases h
  | .sl a b c, X, gd, x, h => by
    unfold chkE at h
    split at h
    · simp only [Bool.and_eq_true] at h
      exact Snd.of G (c_sl G (sE a X gd _ h.1.1).pe (sE b X gd _ h.1.2).pe (sE c X gd _ h.2).pe) rfl
    · cases h
  | .slL a b, X, gd, x, h => by
    unfold chkE at h
    split at h
    · simp only [Bool.and_eq_true] at h
      exact Snd.of G (c_slL G (sE a X gd _ h.1).pe (sE b X gd _ h.2).pe) rfl
    · cases h
  | .slU a b, X, gd, x, h => by
    unfold chkE at h
    split at h
    · simp only [Bool.and_eq_true] at h
      exact Snd.of G (c_slU G (sE a X gd _ h.1).pe (sE b X gd _ h.2).pe) rfl
    · cases h
  | .slA a, X, gd, x, h => by
    unfold chkE at h
    split at h
    · exact Snd.of G (c_slA G (sE a X gd _ h).pe) rfl
    · cases h
  | .fld a k, X, gd, x, h => by
    unfold chkE at h
    split at h
    · simp only [Bool.and_eq_true, decide_eq_true_eq] at h
      rw [← gd.fld k _ h.1.1]
      exact Snd.of G (c_fld G h.1.2 (sE a X gd _ h.2).pe) rfl
    · cases h
  | .call i es, X, gd, x, h => by
    unfold chkE at h
    split at h
    · simp only [Bool.and_eq_true, decide_eq_true_eq] at h
      obtain ⟨⟨⟨⟨h1, h2⟩, h3⟩, h4⟩, h5⟩ := h
      obtain ⟨f, k, g1, g2, g3⟩ := gd.fn i _ h1
      obtain ⟨p1, p2, p3⟩ := sEs es X gd _ h5
      exact Snd.of G (c_call G g3 (glB_ok h2) g1 g2 (nmB_ok h3).1 p2 h4 p3 p1) rfl
    · cases h
  | .new i es, X, gd, x, h => by
    unfold chkE at h
    split at h
    · simp only [Bool.and_eq_true, decide_eq_true_eq] at h
      obtain ⟨⟨⟨⟨h1, h2⟩, h3⟩, h4⟩, h5⟩ := h
      rcases gd.cl i _ h1 with ⟨f, k, g, g1, g2, g3, g4, g5, g6⟩ | hbad
      case inr =>
        refine Snd.of G ⟨fun pins s σ H Q I ⟨m, l, st, p, s', at0, e, _⟩ => ?_⟩ rfl
        unfold ev at e
        obtain ⟨ps, s1, e1, e2⟩ := bind_eq_ok e
        rw [hbad] at e2; cases e2
      obtain ⟨p1, p2, p3⟩ := sEs es X gd _ h5
      exact Snd.of G (c_new G g2 g3 g4 g5 g6 (glB_ok h2) g1 (nmB_ok h3).1 p2 h4 p3 p1) rfl
    · cases h
  | .meth a k es, X, gd, x, h => by
    unfold chkE at h
    split at h
    · simp only [Bool.and_eq_true, decide_eq_true_eq] at h
      obtain ⟨⟨⟨⟨⟨⟨h1, h2⟩, h3⟩, h4⟩, h5⟩, h6⟩, h7⟩ := h
      obtain ⟨p1, p2, p3⟩ := sEs es X gd _ h7
      rw [← gd.fld k _ h1]
      exact Snd.of G (c_meth G (fun ci fi e => by rw [h4]; exact gd.mt ci k fi e) h2 h3 p2 h5 p3 (sE a X gd _ h6).pe p1) rfl
    · cases h
  | .b1 f a, X, gd, x, h => by
    unfold chkE at h
    split at h
    · simp only [Bool.and_eq_true, decide_eq_true_eq] at h
      obtain ⟨⟨⟨rfl, h2⟩, h3⟩, h4⟩ := h
      exact Snd.of G (c_b1 G gd.calm (by have := gd.un; omega) (glB_ok h2) (gd.bl _ (by cases f <;> decide)) h3 (sE a X gd _ h4).pe) rfl
    · cases h
  | .b2 f a b, X, gd, x, h => by
    unfold chkE at h
    split at h
    · simp only [Bool.and_eq_true, decide_eq_true_eq] at h
      obtain ⟨⟨⟨⟨⟨rfl, h2⟩, h3⟩, h4⟩, h5⟩, h6⟩ := h
      exact Snd.of G (c_b2 G gd.calm (glB_ok h2) (gd.bl _ (by cases f <;> decide)) h3 h4 (sE a X gd _ h5).pe (sE b X gd _ h6).pe) rfl
    · cases h
  | .m0 f a, X, gd, x, h => by
    unfold chkE at h
    split at h
    · split at h
      · simp only [Bool.and_eq_true, decide_eq_true_eq] at h
        obtain ⟨⟨⟨rfl, h2⟩, h3⟩, h4⟩ := h
        exact Snd.of G (c_pop G h2 h3 (sE a X gd _ h4).pe) rfl
      · cases h
    · split at h
      · simp only [Bool.and_eq_true, decide_eq_true_eq] at h
        obtain ⟨⟨⟨⟨⟨rfl, h1⟩, rfl⟩, h2⟩, h3⟩, h4⟩ := h
        exact Snd.of G (c_items G gd.calm (glB_ok h1) (gd.bl _ (by decide)) h2 h3 (sE a X gd _ h4).pe) rfl
      · cases h
    · split at h
      · simp only [Bool.and_eq_true, decide_eq_true_eq] at h
        obtain ⟨⟨⟨⟨⟨rfl, h1⟩, rfl⟩, h2⟩, h3⟩, h4⟩ := h
        exact Snd.of G (c_keys G gd.calm (glB_ok h1) (gd.bl _ (by decide)) h2 h3 (sE a X gd _ h4).pe) rfl
      · cases h
    · cases h
  | .m1 f a b, X, gd, x, h => by
    unfold chkE at h
    split at h
    · simp only [Bool.and_eq_true, decide_eq_true_eq] at h
      obtain ⟨⟨⟨⟨⟨⟨h0, rfl⟩, h1⟩, h2⟩, h3⟩, h4⟩, h5⟩ := h
      exact Snd.of G (c_m1 G h0 h1 h2 h3 (sE a X gd _ h4).pe (sE b X gd _ h5).pe) rfl
    · cases h
  | .m2 f a b c, X, gd, x, h => by
    unfold chkE at h
    split at h
    · simp only [Bool.and_eq_true, decide_eq_true_eq] at h
      obtain ⟨⟨⟨⟨⟨⟨⟨⟨h0, rfl⟩, h1⟩, h2⟩, h3⟩, h4⟩, h5⟩, h6⟩, h7⟩ := h
      exact Snd.of G (c_m2 G (by have := gd.un; omega) h0 h1 h2 h3 h4 (sE a X gd _ h5).pe (sE b X gd _ h6).pe (sE c X gd _ h7).pe) rfl
    · cases h
  | .sortI a, X, gd, x, h => by
    unfold chkE at h
    split at h
    · simp only [Bool.and_eq_true, decide_eq_true_eq] at h
      obtain ⟨⟨⟨⟨⟨rfl, h1⟩, rfl⟩, h2⟩, h3⟩, h4⟩ := h
      exact Snd.of G (c_sortI G gd.calm (by have := gd.un; omega) (glB_ok h1) (gd.bl _ (by decide)) h2 h3 (sE a X gd _ h4).pe) rfl
    · cases h
  | .isi a t, X, gd, x, h => by
    unfold chkE at h
    split at h
    · simp only [Bool.and_eq_true, decide_eq_true_eq] at h
      obtain ⟨⟨⟨⟨⟨rfl, h1⟩, h2⟩, h3⟩, h4⟩, h5⟩ := h
      refine Snd.of G (c_isi G h2 (glB_ok h1) (gd.bl _ (by decide)) (glB_ok h3) (gd.bl _ ?_) h4 (sE a X gd _ h5).pe) rfl
      rw [h2]; cases t <;> decide
    · cases h
  | .lc t it cs a own, X, gd, x, h => by
    unfold chkE at h
    split at h
    · rename_i elt tg iter ifs scope pos
      simp only [Bool.and_eq_true] at h
      obtain ⟨⟨⟨⟨⟨⟨h1, h2⟩, h3⟩, h4⟩, h5⟩, h6⟩, h7⟩ := h
      refine Snd.of G ?_ rfl
      have q := L2.pe_lc (elt := elt) (te := tA X.K N (ev G a)) (tt := tAT X.K N (evC G cs)) (g := tG X.K N (bindT t) (slots t)) (pos := pos) gd.calm gd.nd (sI it X gd tg iter h1) (L2.blkOk_by h3)
        (fun s H C cl fp => sT (N := N) (X := X.blk s H scope (PySem.compEnvC scope cl C X.env) fp) gd.calm gd.nd t tg h5)
        (fun s H C cl fp => sC cs (X.blk s H scope (PySem.compEnvC scope cl C X.env) fp) (gd.blk ..) ifs h6)
        (fun s H C cl fp => (sE a (X.blk s H scope (PySem.compEnvC scope cl C X.env) fp) (gd.blk ..) elt h7).pe) (folded_ok h2)
      rw [own_map] at q
      exact PE.imp q fun σ H Q h => lc_tA (sub_ok h4) (by simp only [ev] at h; exact h)
    · cases h
  | .lcD t itm d cs a own, X, gd, x, h => by
    unfold chkE at h
    split at h
    · rename_i elt tg iter ifs scope pos
      simp only [Bool.and_eq_true] at h
      obtain ⟨⟨⟨⟨⟨⟨h1, h2⟩, h3⟩, h4⟩, h5⟩, h6⟩, h7⟩ := h
      refine Snd.of G ?_ rfl
      have pi : PI X tg iter (tI X.K N (fID (ev G d) itm)) ∧ nost iter = true := by
        cases itm with
        | true =>
          dsimp only at h1
          split at h1
          · simp only [Bool.and_eq_true, decide_eq_true_eq] at h1
            obtain ⟨⟨⟨⟨g1, rfl⟩, g3⟩, g4⟩, g5⟩ := h1
            obtain ⟨es, kk, tp, rfl⟩ := isTupE_ok g1
            exact ⟨wi_items (sE d X gd _ g5).pe (base_ok g3) g4, rfl⟩
          · cases h1
        | false =>
          simp only [Bool.and_eq_true] at h1
          exact ⟨wi_keys (sE d X gd _ h1.2).pe, h1.1⟩
      have q := L2.pe_lock (L2.pe_lc (elt := elt) (te := tA X.K N (ev G a)) (tt := tAT X.K N (evC G cs)) (g := tG X.K N (bindT t) (slots t)) (pos := pos) gd.calm gd.nd pi.1 (L2.blkOk_by h3)
        (fun s H C cl fp => sT (N := N) (X := X.blk s H scope (PySem.compEnvC scope cl C X.env) fp) gd.calm gd.nd t tg h5)
        (fun s H C cl fp => sC cs (X.blk s H scope (PySem.compEnvC scope cl C X.env) fp) (gd.blk ..) ifs h6)
        (fun s H C cl fp => (sE a (X.blk s H scope (PySem.compEnvC scope cl C X.env) fp) (gd.blk ..) elt h7).pe) (folded_ok pi.2))
      rw [own_map] at q
      exact PE.imp q fun σ H Q h => lcD_tA (pth_ok h2) (sub_ok h4) (by simp only [ev] at h; exact h)
    · cases h
  | .lc2 t it cs t2 it2 cs2 a own own2, X, gd, x, h => by
    unfold chkE at h
    split at h
    · rename_i elt tg iter ifs tg2 iter2 ifs2 scope pos
      simp only [Bool.and_eq_true] at h
      obtain ⟨⟨⟨⟨⟨⟨⟨⟨⟨⟨⟨⟨h1, h2⟩, h3⟩, h4⟩, h5⟩, h6⟩, h7⟩, h8⟩, h9⟩, h10⟩, h11⟩, h12⟩, h13⟩ := h
      refine Snd.of G ?_ rfl
      have q := L2.pe_lc2 (vs1 := own2) (elt := elt) (te := tA X.K N (ev G a)) (tt := tAT X.K N (evC G cs)) (tt1 := tAT X.K N (evC G cs2)) (g := tG X.K N (bindT t) (slots t)) (g1 := tG X.K N (bindT t2) (slots t2)) (wi1 := tI X.K N (evI G it2)) (pos := pos) gd.calm gd.nd (sI it X gd tg iter h1) (L2.blkOk_by h3) (by rw [own_map]; exact sub_ok h6)
        (fun s H C cl fp => sT (N := N) (X := X.blk s H scope (PySem.compEnvC scope cl C X.env) fp) gd.calm gd.nd t tg h7)
        (fun s H C cl fp => sC cs (X.blk s H scope (PySem.compEnvC scope cl C X.env) fp) (gd.blk ..) ifs h8)
        (fun s H C cl fp => sI it2 (X.blk s H scope (PySem.compEnvC scope cl C X.env) fp) (gd.blk ..) tg2 iter2 h9)
        (fun s H C cl fp => sT (N := N) (X := X.blk s H scope (PySem.compEnvC scope cl C X.env) fp) gd.calm gd.nd t2 tg2 h11)
        (fun s H C cl fp => sC cs2 (X.blk s H scope (PySem.compEnvC scope cl C X.env) fp) (gd.blk ..) ifs2 h12)
        (fun s H C cl fp => (sE a (X.blk s H scope (PySem.compEnvC scope cl C X.env) fp) (gd.blk ..) elt h13).pe) (folded_ok h2) (fun env => folded_ok h10)
      rw [own_map] at q
      exact PE.imp q fun σ H Q h => lc2_tA (sub_ok h4) (sub_ok h5) (by simp only [ev] at h; exact h)
    · cases h
theorem sEs : ∀ (es : Exs) (X : Cx) (gd : Good T G N X) (xs : List Expr), chkEs T X.N es X.env.scope X.fn xs = true → PA X xs (tAs X.K N (evs G es)) ∧ xs.all nost = true ∧ xs.length = es.len
  | .nil, X, gd, xs, h => by
    unfold chkEs at h
    split at h
    · exact ⟨a_nil G, rfl, rfl⟩
    · cases h
  | .cons e es, X, gd, xs, h => by
    unfold chkEs at h
    split at h
    · simp only [Bool.and_eq_true] at h
      obtain ⟨p1, p2, p3⟩ := sEs es X gd _ h.2
      refine ⟨a_cons G h.1.1 (sE e X gd _ h.1.2).pe p1, by rw [List.all_cons, h.1.1, p2]; rfl, ?_⟩
      show _ + 1 = es.len + 1
      rw [p3]
    · cases h
theorem sC : ∀ (es : Exs) (X : Cx) (gd : Good T G N X) (xs : List Expr), chkC T X.N es X.env.scope X.fn xs = true → PTs X xs (tAT X.K N (evC G es))
  | .nil, X, gd, xs, h => by
    unfold chkC at h
    split at h
    · refine ⟨fun pins s σ H Q I ⟨m, l, st, b, s', at0, e, k⟩ => L2.pts_nil.run pins s σ H Q I ?_⟩
      unfold evC at e
      cases e
      exact k H m at0.rel Ext.refl
    · cases h
  | .cons e es, X, gd, xs, h => by
    unfold chkC at h
    split at h
    · split at h
      · refine ⟨fun pins s σ H Q I ⟨m, l, st, b, s', at0, e', k⟩ => (L2.pts_one (sE e X gd _ h).pt).run pins s σ H Q I ?_⟩
        unfold evC at e'
        obtain ⟨q, s1, e3, e4⟩ := bind_eq_ok e'
        obtain ⟨b2, s2, e5, e6⟩ := bind_eq_ok e4
        obtain ⟨e7, rfl⟩ := ofO_ok e5
        refine tAT_step at0 (cond_of G e3 e7) fun H1 m1 at1 x1 => ?_
        cases b2 with
        | true =>
          unfold evC at e6
          cases e6
          exact k H1 m1 at1.rel x1
        | false => cases e6; exact k H1 m1 at1.rel x1
      · cases h
    · cases h
theorem sI : ∀ (it : It) (X : Cx) (gd : Good T G N X) (tg x : Expr), chkI T X.N it X.env.scope X.fn tg x = true → PI X tg x (tI X.K N (evI G it))
  | .ex a, X, gd, tg, x, h => by
    unfold chkI at h
    exact wi_ex G (sE a X gd _ h).pe
  | .rng1 a, X, gd, tg, x, h => by
    unfold chkI at h
    split at h
    · simp only [Bool.and_eq_true, decide_eq_true_eq] at h
      obtain ⟨⟨⟨rfl, h1⟩, h2⟩, h3⟩ := h
      exact wi_r1 G (glB_ok h1) (gd.bl _ (by decide)) (by rw [star_cons h2]; rfl) (sE a X gd _ h3).pe
    · cases h
  | .rng2 a b, X, gd, tg, x, h => by
    unfold chkI at h
    split at h
    · simp only [Bool.and_eq_true, decide_eq_true_eq] at h
      obtain ⟨⟨⟨⟨⟨rfl, h1⟩, h2⟩, h3⟩, h4⟩, h5⟩ := h
      exact wi_r2 G (glB_ok h1) (gd.bl _ (by decide)) (star2 h2 h3) (by rw [star_cons h3]; rfl) (sE a X gd _ h4).pe (sE b X gd _ h5).pe
    · cases h
  | .zip a b, X, gd, tg, x, h => by
    unfold chkI at h
    split at h
    · simp only [Bool.and_eq_true, decide_eq_true_eq] at h
      obtain ⟨⟨⟨⟨⟨⟨h0, rfl⟩, h1⟩, h2⟩, h3⟩, h4⟩, h5⟩ := h
      obtain ⟨es, kk, tp, rfl⟩ := isTupE_ok h0
      exact wi_zip G (glB_ok h1) (gd.bl _ (by decide)) (star_cons h2) (by rw [star_cons h3]; rfl) (sE a X gd _ h4).pe (sE b X gd _ h5).pe
    · cases h
  | .enum a, X, gd, tg, x, h => by
    unfold chkI at h
    split at h
    · simp only [Bool.and_eq_true, decide_eq_true_eq] at h
      obtain ⟨⟨⟨⟨h0, rfl⟩, h1⟩, h2⟩, h3⟩ := h
      obtain ⟨es, kk, tp, rfl⟩ := isTupE_ok h0
      exact wi_enum G (glB_ok h1) (gd.bl _ (by decide)) (by rw [star_cons h2]; rfl) (sE a X gd _ h3).pe
    · cases h
  | .rev a, X, gd, tg, x, h => by
    unfold chkI at h
    split at h
    · simp only [Bool.and_eq_true, decide_eq_true_eq] at h
      obtain ⟨⟨⟨rfl, h1⟩, h2⟩, h3⟩ := h
      exact wi_rev G (glB_ok h1) (gd.bl _ (by decide)) (star_cons h2) (sE a X gd _ h3).pe
    · cases h
end
end
end Pa
/-! Pa, part U: statements, on their readings. -/
namespace Pa
open PySem (Str PyData Addr Value Obj Shared Expr Stmt Pos model wpAny wpAny_bind wpAny_holding wpAny_standAt sizeLine cLine Heap sysModules starEach backTo eval BoolOp bootBuiltins Scope NameKind)
open L2 (V HO Hp Rd SqL SqT upd upd_same upd_ne VK TE TT TA TS TG TGs TI TSet Ends Cx Inv PE PT PA PS PSs PG PGs PI PW PTs RelV Vals EP Key kV R2 OpR CallR)

def nocomp : Expr → Bool
  | .ListComp .. => false
  | .SetComp .. => false
  | .DictComp .. => false
  | _ => true
theorem swaps_no {v : Expr} {t : Option Expr} {n : Nat} {env : PySem.Env} (h : nocomp v = true) : PySem.swapsWith v t n env = pure false := by
  cases v <;> first | rfl | (cases h; done)
theorem swap_no {v tg : Expr} {n : Nat} {env : PySem.Env} (h : nocomp v = true) : PySem.swapsWithSole [tg] v n env = pure false := swaps_no h
theorem stores_no {v tg : Expr} {env : PySem.Env} (h : isTupE v = false) : PySem.swappedStores [tg] v env = pure none := by
  cases v <;> first | (cases tg <;> rfl) | (cases h; done)
theorem each_one {tg : Expr} {env : PySem.Env} (h : nost tg = true) : (PySem.assignEach [tg] env).map (·.2) = [PySem.assign tg env] := by
  rw [assign_all (es := [tg]) (by rw [List.all_cons, h]; rfl)]; rfl
section
variable {K : PySem.W.Frag} {N : Nm}
theorem DensF.put {H : Hp} {m : Mp} {n k : Nat} {p : P} {v : V} (d : Den K H m n p v) : ∀ {fs : List (Nat × P)} {gs : List (Str × V)}, DensF K N H m n fs gs → DensF K N H m n (fput k p fs) (L2.putF (N.fld k) v gs)
  | [], gs, h => by cases h; exact ⟨v, [], rfl, d, rfl⟩
  | (j, q) :: r, gs, h => by
    obtain ⟨w, t, rfl, dq, h⟩ := h
    by_cases e : j = k
    · subst e
      show DensF K N H m n (if j = j then (j, p) :: r else (j, q) :: fput j p r) (if N.fld j = N.fld j then (N.fld j, v) :: t else (N.fld j, w) :: L2.putF (N.fld j) v t)
      rw [if_pos rfl, if_pos rfl]
      exact ⟨v, t, rfl, d, h⟩
    · have ne : N.fld j ≠ N.fld k := fun q => e (N.inj _ _ q)
      show DensF K N H m n (if j = k then (j, p) :: r else (j, q) :: fput k p r) (if N.fld j = N.fld k then (N.fld j, v) :: t else (N.fld j, w) :: L2.putF (N.fld k) v t)
      rw [if_neg e, if_neg ne]
      exact ⟨w, _, rfl, dq, DensF.put d h⟩
theorem fput_mem {k : Nat} {p : P} : ∀ {fs : List (Nat × P)} {x : Nat × P}, x ∈ fput k p fs → x.1 = k ∨ x ∈ fs
  | [], x, h => by
    have : x = (k, p) := by simpa [fput] using h
    exact .inl (by rw [this])
  | (j, q) :: r, x, h => by
    unfold fput at h
    split at h
    · rename_i e
      rcases List.mem_cons.mp h with z | z
      · exact .inl (by rw [z, e])
      · exact .inr (List.mem_cons_of_mem _ z)
    · rcases List.mem_cons.mp h with z | z
      · exact .inr (by rw [z]; exact List.mem_cons_self ..)
      · rcases fput_mem z with z | z
        · exact .inl z
        · exact .inr (List.mem_cons_of_mem _ z)
theorem DensF.length {H : Hp} {m : Mp} {n : Nat} : ∀ {fs : List (Nat × P)} {gs : List (Str × V)}, DensF K N H m n fs gs → fs.length = gs.length
  | [], gs, h => by cases h; rfl
  | (j, q) :: r, gs, h => by
    obtain ⟨w, t, rfl, dq, h⟩ := h
    show r.length + 1 = t.length + 1
    rw [DensF.length h]
/-- an attribute is set -/
theorem st_fld {ok : Nat → Nat → Bool} (hok : ∀ c k, ok c k = true → L2.Cls K (N.cls c) ∧ L2.NoAttr K (N.cls c) (N.fld k)) {H : Hp} {m : Mp} {s s' : S} {p q : P} {k : Nat} {v w : V} {u : Unit} (r : Rel K N H m s) (d : Den K H m s.length p v) (dq : Den K H m s.length q w) (e : stF ok p k q s = .ok u s') :
    ∃ a C dx fs, v = .ref a ∧ H a = some (.ins C dx fs) ∧ L2.Cls K C ∧ L2.NoAttr K C (N.fld k) ∧ fs.length < 1000 ∧ Rel K N (upd H a (.ins C dx (L2.putF (N.fld k) w fs))) m s' ∧ Ext s.length H m s'.length (upd H a (.ins C dx (L2.putF (N.fld k) w fs))) m := by
  unfold stF at e
  cases p <;> try (cases e; done)
  rename_i n
  dsimp only at e
  split at e
  · rename_i c fs hn
    split at e
    · rename_i hc
      cases e
      obtain ⟨hl, rfl⟩ := d
      obtain ⟨dx, fs', h1, df, hcl, hno⟩ := r.obj n _ hn
      have lenS : (s.set n (.ins c (fput k q fs))).length = s.length := List.length_set ..
      have hw := Wx.set (u := .ins (N.cls c) dx (L2.putF (N.fld k) w fs')) r hl
      refine ⟨m n, _, dx, fs', rfl, h1, hcl, (hok c k hc.1).2, by rw [← df.length]; exact hc.2, r.set hl ⟨dx, _, upd_same, DensF.mono hw _ _ (df.put dq), hcl, fun x hx => ?_⟩, ?_⟩
      · rcases fput_mem hx with z | z
        · rw [z]; exact (hok c k hc.1).2
        · exact hno x z
      · rw [lenS]; exact Ext.set r hl fun o w' e' => by rw [h1] at e'; cases e'
    · cases e
  · cases e
end
section
variable {X : Cx} {N : Nm} {x y z : Expr} {pos : Pos} (G : Env) {e a b c : Ex} {xs : List Expr} {es : Exs}
def gFld (K : PySem.W.Frag) (ta : TE) (f : Str) : TG := fun v σ H Q => ta σ H fun x H2 => ∃ a C dx fs, x = .ref a ∧ H2 a = some (.ins C dx fs) ∧ L2.Cls K C ∧ L2.NoAttr K C f ∧ fs.length < 1000 ∧ Q σ (upd H2 a (.ins C dx (L2.putF f v fs)))
theorem pg_fld {ta : TE} {f : Str} (ho : PE X x ta) : PG X (.Attribute x f pos) (gFld X.K ta f) := by
  refine ⟨fun pins s σ H v u Q I r h => ?_⟩
  show wpAny _ _ (do
    let ov ← PySem.holding [u] (eval x X.env)
    PySem.standAt pos.atName
    PySem.holding [u, ov] (PySem.setAttr ov f u)
    PySem.release [u, ov] []) _ _ s
  refine wpAny_bind (wpAny_holding (L2.thn (ho.run pins s σ H _ I h) fun ov s1 ⟨y, H1, I1, r1, a, C, dx, fs, e1, e2, c1, c2, c3, q⟩ => ?_))
  subst e1
  obtain rfl : ov = Value.ref a := r1
  refine wpAny_bind (wpAny_standAt (wpAny_bind (wpAny_holding (L2.setattr_ok I1 e2 c1 c2 c3 r fun s' I' => ?_))))
  exact PySem.wpAny_release ⟨σ, _, I', q⟩
theorem get_ok (hu : X.A.units + 1 < cLine) : L2.PGet X (rA X.K N ixG) := by
  rintro pins s σ H o i ov iv Q I ro ri ⟨m, S, p, q, r, S', hr, dp, dq, e, k⟩
  unfold ixG at e
  cases p <;> try (cases e; done)
  rename_i n
  dsimp only at e
  split at e
  · rename_i xs hn
    cases q <;> try (cases e; done)
    rename_i j
    cases (show i = _ from dq)
    obtain ⟨e1, rfl⟩ := ofO_ok e
    obtain ⟨_, rfl⟩ := dp
    obtain ⟨_, vs, h1, d1⟩ := hr.lst hn
    obtain ⟨w, hw, dw⟩ := d1.atI e1
    cases ro
    obtain ⟨t, rfl⟩ := ri
    obtain ⟨its, rr, pl, hz⟩ := I.list (SqL.of h1)
    obtain ⟨j', g1, g2, g3, g4, g5⟩ := L2.atI_get hw
    obtain ⟨w', ew, rw'⟩ := rr.get g2
    have hl := rr.length
    have hn := L2.line63
    have fin : EP X pins σ Q w' s := ⟨w, H, I, rw', k.same hr dw⟩
    by_cases h0 : 0 ≤ j
    · have hj : j.toNat = j' := by
        rw [PySem.seqIndex_of h0 g5] at g1
        exact Option.some.inj g1
      exact PySem.wpAny_getItem_list pl.isList h0 (by omega) (by rw [hj]; simpa using ew) fin
    · have hj : (j + (its.toArray.size : Int)).toNat = j' := by
        have q1 := PySem.seqIndex_neg (n := its.toArray.size) (k := j) (by omega) (by simp; omega)
        have e2 : its.toArray.size = vs.length := by simp; omega
        rw [e2] at q1 ⊢
        rw [q1] at g1
        exact Option.some.inj g1
      exact PySem.wpAny_getItem_list_neg pl.isList (by omega) (by simp; omega) (by omega) (by rw [hj]; simpa using ew) fin
  · rename_i lk kvs hn
    split at e
    · rename_i c
      obtain ⟨e1, rfl⟩ := ofO_ok e
      obtain ⟨_, rfl⟩ := dp
      cases ro
      obtain ⟨H1, o, I1, r1, x1, g, h⟩ := dict_get I hr hn dq c
      rcases h with ⟨a, _⟩ | ⟨q', w, a, b, dw⟩
      · rw [a] at e1; cases e1
      · rw [e1] at a
        cases a
        subst b
        exact L2.d_getItem hu I1 g ri fun w' s' I' rw' => ⟨w, H1, I', rw', k _ _ m r1 x1 dw⟩
    · cases e
  · cases e

/-! ### the statements -/
theorem tF_nx {K : PySem.W.Frag} {D : Ends} {σ : L2.St} {H : Hp} {f : Loc → S → R P} {g : Loc → P → S → R Fl} (h : tF K N (fun l s => (f l s).bind fun p s => g l p s) D σ H) :
    tA K N f σ H fun v H1 => ∃ m l s p fl s', At K N σ H1 m l s ∧ Den K H1 m s.length p v ∧ g l p s = .ok fl s' ∧ FlK K N D m H1 s fl s' := by
  obtain ⟨m, l, s, fl, s', at0, e, k⟩ := h
  obtain ⟨p, s1, e1, e2⟩ := bind_eq_ok e
  exact tA_step at0 e1 fun v H1 m1 at1 x1 d1 => ⟨m1, l, s1, p, fl, s', at1, d1, e2, k.step x1⟩
theorem d_ex (h : PE X x (tA X.K N (ev G e))) (hx : nocomp x = true) : PS X (.Expr x pos) (tF X.K N (ex G (.ex e))) :=
  PS.imp (L2.ps_expr h (swaps_no hx)) fun D σ H hh => by
    have q := tF_nx (N := N) (f := ev G e) (g := fun l _ s => .ok (.nx l) s) (by simpa only [ex] using hh)
    obtain ⟨m, l, s, p, s', at0, e, k⟩ := q
    refine ⟨m, l, s, p, s', at0, e, fun v H1 m1 r1 x1 d1 => ?_⟩
    obtain ⟨m2, l2, s2, p2, fl, s3, at2, d2, e2, k2⟩ := k v H1 m1 r1 x1 d1
    cases e2
    exact k2 σ H1 m2 at2 Ext.refl
theorem d_asgN {i : Nat} {nm : Str} {p' : Pos} (hN : X.N.Nodup) (hi : X.N[i]? = some nm) (hl : L2.Loc X.env.scope nm) (hf : X.fn nm = true ∨ X.env.scope.names.lookup nm = some .local) (h : PE X x (tA X.K N (ev G e))) (hs : PySem.swapsWith x (some (.Name nm p')) pos.line X.env = pure false) :
    PS X (.Assign [.Name nm p'] x pos) (tF X.K N (ex G (.asg (.v i) e))) :=
  PS.imp (L2.ps_set hN hi hl h hs hf) fun D σ H hh => by
    obtain ⟨m, l, s, p, s', at0, e, k⟩ := tF_nx (N := N) (f := ev G e) (g := fun l p s => (ofO (bindT (.v i) p l) s).bind fun l s => .ok (.nx l) s) (by simpa only [ex] using hh)
    refine ⟨m, l, s, p, s', at0, e, fun v H1 m1 r1 x1 d1 => ?_⟩
    obtain ⟨m2, l2, s2, p2, fl, s3, at2, d2, e2, k2⟩ := k v H1 m1 r1 x1 d1
    obtain ⟨l3, s4, e3, e4⟩ := bind_eq_ok e2
    obtain ⟨e5, rfl⟩ := ofO_ok e3
    cases e4
    unfold bindT at e5
    split at e5
    · cases e5
      exact k2 _ H1 m2 ⟨at2.rel, at2.loc.set d2 i⟩ Ext.refl
    · cases e5
/-- a comprehension that is kept by a local name -/
theorem asg_rd {i : Nat} {t : TE} (ht : ∀ σ H Q, tA X.K N (ev G e) σ H Q → t σ H Q) : ∀ D σ H, tF X.K N (ex G (.asg (.v i) e)) D σ H → L2.tAsg t (L2.gName i) D σ H := by
  intro D σ H hh
  obtain ⟨m, l, s, p, s', at0, e, k⟩ := tF_nx (N := N) (f := ev G e) (g := fun l p s => (ofO (bindT (.v i) p l) s).bind fun l s => .ok (.nx l) s) (by simpa only [ex] using hh)
  refine ht _ _ _ ⟨m, l, s, p, s', at0, e, fun v H1 m1 r1 x1 d1 => ?_⟩
  obtain ⟨m2, l2, s2, p2, fl, s3, at2, d2, e2, k2⟩ := k v H1 m1 r1 x1 d1
  obtain ⟨l3, s4, e3, e4⟩ := bind_eq_ok e2
  obtain ⟨e5, rfl⟩ := ofO_ok e3
  cases e4
  unfold bindT at e5
  split at e5
  · cases e5
    exact k2 _ H1 m2 ⟨at2.rel, at2.loc.set d2 i⟩ Ext.refl
  · cases e5
theorem d_asg {t : Tg} {tg : Expr} (hg : PG X tg (tG X.K N (bindT t) (slots t))) (h : PE X x (tA X.K N (ev G e))) (hx : nocomp x = true) (ht : isTupE x = false) (hn : nost tg = true) :
    PS X (.Assign [tg] x pos) (tF X.K N (ex G (.asg t e))) :=
  PS.imp (L2.ps_asg h hg (swap_no hx) (stores_no ht) (each_one hn)) fun D σ H hh => by
    obtain ⟨m, l, s, p, s', at0, e, k⟩ := tF_nx (N := N) (f := ev G e) (g := fun l p s => (ofO (bindT t p l) s).bind fun l s => .ok (.nx l) s) (by simpa only [ex] using hh)
    refine ⟨m, l, s, p, s', at0, e, fun v H1 m1 r1 x1 d1 => ?_⟩
    obtain ⟨m2, l2, s2, p2, fl, s3, at2, d2, e2, k2⟩ := k v H1 m1 r1 x1 d1
    obtain ⟨l3, s4, e3, e4⟩ := bind_eq_ok e2
    obtain ⟨e5, rfl⟩ := ofO_ok e3
    cases e4
    exact ⟨m2, l2, _, p2, l3, at2, d2, e5, fun σ' lr _ => k2 σ' H1 m2 ⟨at2.rel, lr⟩ Ext.refl⟩
theorem d_asgI {p' : Pos} (hu : X.A.units + 1 < cLine) (hx : PE X x (tA X.K N (ev G a))) (hy : PE X y (tA X.K N (ev G b))) (hz : PE X z (tA X.K N (ev G c))) (hny : nost y = true) (hnz : nocomp z = true) (htz : isTupE z = false) :
    PS X (.Assign [.Subscript x y p'] z pos) (tF X.K N (ex G (.asgI a b c))) :=
  PS.imp (L2.ps_asg hz (L2.pg_sub hx hy (st_ok (N := N) hu) (fun v => by cases y <;> first | rfl | (cases hny; done))) (swap_no hnz) (stores_no htz) (each_one rfl)) fun D σ H ⟨m, l, s, fl, s', at0, e, k⟩ => by
    unfold ex at e
    obtain ⟨q, s1, e1, e⟩ := bind_eq_ok e
    obtain ⟨p, s2, e2, e⟩ := bind_eq_ok e
    obtain ⟨i, s3, e3, e⟩ := bind_eq_ok e
    obtain ⟨_, s4, e4, e⟩ := bind_eq_ok e
    cases e
    refine tA_step at0 e1 fun v1 H1 m1 at1 x1 d1 => ?_
    refine tA_step at1 e2 fun v2 H2 m2 at2 x2 d2 => ?_
    refine tA_step at2 e3 fun v3 H3 m3 at3 x3 d3 => ?_
    exact ⟨m3, s3, p, i, q, s', at3.rel, at2.rel.den x3 d2, d3, at2.rel.den x3 (at1.rel.den x2 d1), e4, fun H4 m4 r4 x4 => k σ H4 m4 (at3.step r4 x4) (((x1.trans x2).trans x3).trans x4)⟩
theorem d_asgF {k : Nat} {p' : Pos} (hok : ∀ c k, G.fok c k = true → L2.Cls X.K (N.cls c) ∧ L2.NoAttr X.K (N.cls c) (N.fld k)) (hx : PE X x (tA X.K N (ev G a))) (hz : PE X z (tA X.K N (ev G c))) (hnz : nocomp z = true) :
    PS X (.Assign [.Attribute x (N.fld k) p'] z pos) (tF X.K N (ex G (.asgF a k c))) :=
  PS.imp (L2.ps_fld hx hz (swaps_no hnz)) fun D σ H ⟨m, l, s, fl, s', at0, e, kk⟩ => by
    unfold ex at e
    obtain ⟨q, s1, e1, e⟩ := bind_eq_ok e
    obtain ⟨p, s2, e2, e⟩ := bind_eq_ok e
    obtain ⟨_, s4, e4, e⟩ := bind_eq_ok e
    cases e
    refine tA_step at0 e1 fun v1 H1 m1 at1 x1 d1 => ?_
    refine tA_step at1 e2 fun v2 H2 m2 at2 x2 d2 => ?_
    obtain ⟨ad, C, dx, fs, g1, g2, g3, g4, g5, g6, g7⟩ := st_fld hok at2.rel d2 (at1.rel.den x2 d1) e4
    exact ⟨ad, C, dx, fs, g1, g2, g3, g4, g5, kk σ _ m2 (at2.step g6 g7) ((x1.trans x2).trans g7)⟩
theorem d_aug {i : Nat} {nm : Str} {p' : Pos} {o : BinO} (hN : X.N.Nodup) (hi : X.N[i]? = some nm) (hl : L2.Loc X.env.scope nm) (hf : X.fn nm = true ∨ X.env.scope.names.lookup nm = some .local) (h : PE X x (tA X.K N (ev G e))) :
    PS X (.AugAssign (.Name nm p') (opB o) x pos) (tF X.K N (ex G (.aug i o e))) :=
  PS.imp (L2.ps_aug hN hi hl h (aug_ok (N := N) o) hf) fun D σ H ⟨m, l, s, fl, s', at0, e, kk⟩ => by
    unfold ex at e
    split at e
    · rename_i p hp
      obtain ⟨q, s1, e1, e⟩ := bind_eq_ok e
      obtain ⟨r, s2, e2, e⟩ := bind_eq_ok e
      cases e
      obtain ⟨v, g1, g2⟩ := at0.loc.2 i p hp
      refine ⟨v, g1, tA_step at0 e1 fun v1 H1 m1 at1 x1 d1 => ?_⟩
      exact ⟨m1, s1, p, q, r, s', at1.rel, at0.rel.den x1 g2, d1, e2, fun v2 H2 m2 r2 x2 d2 => kk _ H2 m2 ⟨r2, (at1.loc.ext at1.rel x2).set d2 i⟩ (x1.trans x2)⟩
    · cases e
theorem d_augI {p' : Pos} {o : BinO} (hu : X.A.units + 1 < cLine) (hx : PE X x (tA X.K N (ev G a))) (hy : PE X y (tA X.K N (ev G b))) (hz : PE X z (tA X.K N (ev G c))) (hny : nost y = true) :
    PS X (.AugAssign (.Subscript x y p') (opB o) z pos) (tF X.K N (ex G (.augI a b o c))) :=
  PS.imp (L2.ps_augS hx hy (get_ok (N := N) hu) hz (aug_ok (N := N) o) (st_ok (N := N) hu) (by intro ov iv new; cases y <;> first | rfl | (cases hny; done))) fun D σ H ⟨m, l, s, fl, s', at0, e, k⟩ => by
    unfold ex at e
    obtain ⟨p, s1, e1, e⟩ := bind_eq_ok e
    obtain ⟨i, s2, e2, e⟩ := bind_eq_ok e
    obtain ⟨x0, s3, e3, e⟩ := bind_eq_ok e
    obtain ⟨y0, s4, e4, e⟩ := bind_eq_ok e
    obtain ⟨z0, s5, e5, e⟩ := bind_eq_ok e
    obtain ⟨_, s6, e6, e⟩ := bind_eq_ok e
    cases e
    refine tA_step at0 e1 fun v1 H1 m1 at1 x1 d1 => ?_
    refine tA_step at1 e2 fun v2 H2 m2 at2 x2 d2 => ?_
    have d1' := at1.rel.den x2 d1
    refine ⟨m2, s2, p, i, x0, s3, at2.rel, d1', d2, e3, fun v3 H3 m3 r3 x3 d3 => ?_⟩
    have at3 := at2.step r3 x3
    refine tA_step at3 e4 fun v4 H4 m4 at4 x4 d4 => ?_
    refine ⟨m4, s4, x0, y0, z0, s5, at4.rel, r3.den x4 d3, d4, e5, fun v5 H5 m5 r5 x5 d5 => ?_⟩
    have at5 := at4.step r5 x5
    have xx := (x3.trans x4).trans x5
    exact ⟨m5, s5, p, i, z0, s', at5.rel, at2.rel.den xx d1', at2.rel.den xx d2, d5, e6, fun H6 m6 r6 x6 => k σ H6 m6 (at5.step r6 x6) (((x1.trans x2).trans xx).trans x6)⟩
theorem d_augF {k : Nat} {p' : Pos} {o : BinO} (hok : ∀ c k, G.fok c k = true → L2.Cls X.K (N.cls c) ∧ L2.NoAttr X.K (N.cls c) (N.fld k)) (hx : PE X x (tA X.K N (ev G a))) (hz : PE X z (tA X.K N (ev G c))) :
    PS X (.AugAssign (.Attribute x (N.fld k) p') (opB o) z pos) (tF X.K N (ex G (.augF a k o c))) :=
  PS.imp (L2.ps_fldaug hx hz (aug_ok (N := N) o)) fun D σ H ⟨m, l, s, fl, s', at0, e, kk⟩ => by
    unfold ex at e
    obtain ⟨p, s1, e1, e⟩ := bind_eq_ok e
    obtain ⟨x0, s2, e2, e⟩ := bind_eq_ok e
    obtain ⟨y0, s3, e3, e⟩ := bind_eq_ok e
    obtain ⟨z0, s4, e4, e⟩ := bind_eq_ok e
    split at e
    · rename_i hcl
      obtain ⟨_, s6, e6, e⟩ := bind_eq_ok e
      cases e
      refine tA_step at0 e1 fun v1 H1 m1 at1 x1 d1 => ?_
      obtain ⟨n, rfl⟩ : ∃ n, p = .loc n := by cases p <;> first | exact ⟨_, rfl⟩ | cases e2
      unfold fldP at e2
      dsimp only at e2
      split at e2
      · rename_i c fs hn
        obtain ⟨e7, rfl⟩ := ofO_ok e2
        have dL := d1
        obtain ⟨hl, rfl⟩ := d1
        obtain ⟨dx, fs', h1, df, hc, hno⟩ := at1.rel.obj _ _ hn
        have g := df.get (k := k)
        rw [e7] at g
        obtain ⟨w, g1, g2⟩ := g
        refine ⟨m1 n, _, dx, fs', w, rfl, h1, hc, hno _ (fget_mem e7), g1, ?_⟩
        refine tA_step at1 e3 fun v3 H3 m3 at3 x3 d3 => ?_
        refine ⟨m3, s3, x0, y0, z0, s4, at3.rel, at1.rel.den x3 g2, d3, e4, fun v4 H4 m4 r4 x4 d4 => ?_⟩
        have at4 := at3.step r4 x4
        obtain ⟨ad, C, dx', fs2, q1, q2, q3, q4, q5, q6, q7⟩ := st_fld hok at4.rel (at1.rel.den (x3.trans x4) dL) d4 e6
        cases q1
        have eC : C = N.cls c := by
          have h8 : clsOf s4 (.loc n) = some c := by rw [hcl]; unfold clsOf; dsimp only; rw [hn]
          unfold clsOf at h8
          dsimp only at h8
          split at h8
          · rename_i c' fs3 h9
            cases h8
            obtain ⟨dx3, fs4, q8, _⟩ := r4.obj _ _ h9
            have em : m4 n = m1 n := (x3.trans x4).map n hl
            rw [em, q2] at q8
            cases q8; rfl
          · cases h8
        subst eC
        exact ⟨dx', fs2, q2, q5, kk σ _ m4 (at4.step q6 q7) (((x1.trans x3).trans x4).trans q7)⟩
      · cases e2
    · cases e
end
end Pa
/-! Pa, part V: the soundness of statements. -/
namespace Pa
open PySem (Str PyData Addr Value Obj Shared Expr Stmt Pos model wpAny wpAny_bind wpAny_holding wpAny_standAt sizeLine cLine Heap sysModules starEach backTo eval BoolOp bootBuiltins Scope NameKind)
open L2 (V HO Hp Rd SqL SqT upd upd_same upd_ne VK TE TT TA TS TG TGs TI TSet Ends Cx Inv PE PT PA PS PSs PG PGs PI PW PTs RelV Vals EP Key kV R2 OpR CallR)

theorem kind_blk {env : PySem.Env} (h : env.scope.kind = .function) : env.blockKind = .function := by unfold PySem.Env.blockKind; rw [h]; rfl
def lastly : Expr → Bool
  | .Starred .. => true | _ => false
theorem not_star {e : Expr} (h : nost e = true) : (match e with | .Starred .. => true | _ => false) = false := by
  cases e <;> first | rfl | (cases h; done)
theorem stores_par {x y : Str} {px py pt pt2 : Pos} {kt k2 : Nat} {a b : Expr} {env : PySem.Env} (hk : env.scope.kind = .function) (hx : env.scope.names.lookup x = some .local) (hy : env.scope.names.lookup y = some .local) (hxy : x ≠ y) (hl : (py.line == px.line) = true)
    (ha : nost a = true) (hb : nost b = true) (hf : [a, b].all (PySem.foldedForSure 8) = false) (hc : [a, b].all (PySem.constantsAlone 8) = false) :
    PySem.swappedStores [.Tuple [.Name x px, .Name y py] kt pt] (.Tuple [a, b] k2 pt2) env = pure (some [x, y]) := by
  have kx : env.kindOf x = some .local := hx
  have ky : env.kindOf y = some .local := hy
  have hB := kind_blk hk
  have hst : ([a, b].any fun | .Starred .. => true | _ => false) = false := by
    simp only [List.any_cons, List.any_nil, Bool.or_false, Bool.or_eq_false_iff]
    exact ⟨by cases a <;> first | rfl | (cases ha; done), by cases b <;> first | rfl | (cases hb; done)⟩
  have hl' : py.line = px.line := by simpa using hl
  have ed : [x, y].eraseDups = [x, y] := by
    have : (y == x) = false := by simp [Ne.symm hxy]
    simp [List.eraseDups, List.eraseDupsBy, List.eraseDupsBy.loop, this]
  unfold PySem.swappedStores
  simp only [hst, hf, hc, hB]
  simp [kx, ky, hl', Expr.pos, ed]
  intro h
  exfalso
  simp only [List.any_cons, List.any_nil, Bool.or_false, Bool.or_eq_false_iff] at hst
  rcases h with h | h
  · cases a <;> first | (cases h; done) | (cases ha; done)
  · cases b <;> first | (cases h; done) | (cases hb; done)
theorem stores_fld {o1 o2 a b : Expr} {m1 m2 : Str} {p1 p2 pt pt2 : Pos} {kt k2 : Nat} {env : PySem.Env} (ha : nost a = true) (hb : nost b = true) :
    PySem.swappedStores [.Tuple [.Attribute o1 m1 p1, .Attribute o2 m2 p2] kt pt] (.Tuple [a, b] k2 pt2) env = pure none := by
  have hst : ([a, b].any fun | .Starred .. => true | _ => false) = false := by
    simp only [List.any_cons, List.any_nil, Bool.or_false, Bool.or_eq_false_iff]
    exact ⟨by cases a <;> first | rfl | (cases ha; done), by cases b <;> first | rfl | (cases hb; done)⟩
  unfold PySem.swappedStores
  simp only [hst]
  by_cases hB : env.blockKind = .function
  · simp [hB]
  · simp [hB]
section
variable {X : Cx} {N : Nm} {x y z : Expr} {pos : Pos} (G : Env) {e a b c : Ex} {xs : List Expr} {es : Exs}
theorem d_par {i j : Nat} {nx ny : Str} {px py pt pt2 : Pos} {kt k2 : Nat} (hc : X.calm = true) (hN : X.N.Nodup) (hi : X.N[i]? = some nx) (hj : X.N[j]? = some ny) (hij : i ≠ j) (hx : X.env.scope.names.lookup nx = some .local) (hy : X.env.scope.names.lookup ny = some .local)
    (hw : PySem.swappedStores [.Tuple [.Name nx px, .Name ny py] kt pt] (.Tuple [x, y] k2 pt2) X.env = pure (some [nx, ny])) (hnx : nost x = true) (hny : nost y = true)
    (ha : PE X x (tA X.K N (ev G a))) (hb : PE X y (tA X.K N (ev G b))) : PS X (.Assign [.Tuple [.Name nx px, .Name ny py] kt pt] (.Tuple [x, y] k2 pt2) pos) (tF X.K N (ex G (.par [i, j] (.cons a (.cons b .nil))))) :=
  PS.imp (L2.ps_par hc hN hi hj hij hx hy (L2.pa_cons ha (L2.pa_cons hb L2.pa_nil (star_cons hny)) (star_cons hnx)) hw rfl) fun D σ H ⟨m, l, s, fl, s', at0, e, k⟩ => by
    unfold ex at e
    obtain ⟨ps, s1, e1, ea⟩ := bind_eq_ok e
    obtain ⟨l2, s2, e2, eb⟩ := bind_eq_ok ea
    obtain ⟨e2', rfl⟩ := ofO_ok e2
    cases eb
    clear e ea e2
    simp only [evs] at e1
    obtain ⟨p, s3, e3, e1⟩ := bind_eq_ok e1
    obtain ⟨qs, s4, e4, e1⟩ := bind_eq_ok e1
    cases e1
    obtain ⟨q, s5, e5, e4⟩ := bind_eq_ok e4
    cases e4
    refine tA_step at0 e3 fun v1 H1 m1 at1 x1 d1 => ?_
    refine tA_step at1 e5 fun v2 H2 m2 at2 x2 d2 => ?_
    refine ⟨v1, v2, rfl, ?_⟩
    unfold setN at e2'
    split at e2'
    · unfold setN at e2'
      split at e2'
      · unfold setN at e2'
        cases e2'
        exact k _ H2 m2 ⟨at2.rel, (at2.loc.set (at1.rel.den x2 d1) i).set d2 j⟩ (x1.trans x2)
      · cases e2'
    · cases e2'
theorem d_parF {k1 k2 : Nat} {z2 : Expr} {p1 p2 pt pt2 : Pos} {kt kk : Nat} (hc : X.calm = true) (hok : ∀ c k, G.fok c k = true → L2.Cls X.K (N.cls c) ∧ L2.NoAttr X.K (N.cls c) (N.fld k)) (hnx : nost x = true) (hny : nost y = true)
    (hz : PE X z (tA X.K N (ev G c))) (hz2 : PE X z2 (tA X.K N (ev G c))) (ha : PE X x (tA X.K N (ev G a))) (hb : PE X y (tA X.K N (ev G b))) :
    PS X (.Assign [.Tuple [.Attribute z (N.fld k1) p1, .Attribute z2 (N.fld k2) p2] kt pt] (.Tuple [x, y] kk pt2) pos) (tF X.K N (ex G (.parF c k1 k2 a b))) :=
  PS.imp (L2.ps_asg (L2.pe_tup (L2.pa_cons ha (L2.pa_cons hb L2.pa_nil (star_cons hny)) (star_cons hnx))) (L2.pg_tup (n := 2) hc (L2.pgs_cons (pg_fld hz) (L2.pgs_cons (pg_fld hz2) L2.pgs_nil rfl) rfl) rfl rfl) rfl (stores_fld hnx hny) rfl) fun D σ H ⟨m, l, s, fl, s', at0, e, k⟩ => by
    unfold ex at e
    obtain ⟨px, s1, e1, e⟩ := bind_eq_ok e
    obtain ⟨py, s2, e2, e⟩ := bind_eq_ok e
    obtain ⟨q, s3, e3, e⟩ := bind_eq_ok e
    obtain ⟨_, s4, e4, e⟩ := bind_eq_ok e
    obtain ⟨q2, s5, e5, e⟩ := bind_eq_ok e
    obtain ⟨_, s6, e6, e⟩ := bind_eq_ok e
    cases e
    refine tA_step at0 e1 fun v1 H1 m1 at1 x1 d1 => ?_
    refine tA_step at1 e2 fun v2 H2 m2 at2 x2 d2 => ?_
    refine ⟨by show 2 ≤ sizeLine; decide, fun tp htp => ?_⟩
    have xt := Ext.fresh (u := .tup [v1, v2]) (n := s2.length) (m := m2) htp
    have at2' := at2.step (at2.rel.fresh htp) xt
    refine ⟨tp, [v1, v2], rfl, SqT.of upd_same, rfl, v1, [v2], rfl, ?_⟩
    refine tA_step at2' e3 fun v3 H3 m3 at3 x3 d3 => ?_
    have x13 := (x2.trans xt).trans x3
    obtain ⟨ad, C, dx, fs, g1, g2, g3, g4, g5, g6, g7⟩ := st_fld hok at3.rel d3 (at1.rel.den x13 d1) e4
    refine ⟨ad, C, dx, fs, g1, g2, g3, g4, g5, v2, [], rfl, ?_⟩
    have at4 := at3.step g6 g7
    refine tA_step at4 e5 fun v5 H5 m5 at5 x5 d5 => ?_
    have x25 := (xt.trans x3).trans (g7.trans x5)
    obtain ⟨ad', C', dx', fs', q1, q2', q3, q4, q5, q6, q7⟩ := st_fld hok at5.rel d5 (at2.rel.den x25 d2) e6
    exact ⟨ad', C', dx', fs', q1, q2', q3, q4, q5, rfl, k σ _ m5 (at5.step q6 q7) (((x1.trans x2).trans x25).trans q7)⟩
theorem d_ret (h : PE X x (tA X.K N (ev G e))) : PS X (.Return (some x) pos) (tF X.K N (ex G (.ret e))) :=
  PS.imp (L2.ps_ret h) fun D σ H ⟨m, l, s, fl, s', at0, e, k⟩ => by
    unfold ex at e
    obtain ⟨p, s1, e1, e⟩ := bind_eq_ok e
    cases e
    exact tA_step at0 e1 fun v H1 m1 at1 x1 d1 => k v H1 m1 at1.rel x1 d1
theorem d_retN : PS X (.Return none pos) (tF X.K N (ex G .retN)) :=
  PS.imp L2.ps_retN fun D σ H ⟨m, l, s, fl, s', at0, e, k⟩ => by
    unfold ex at e
    cases e
    exact k .non H m at0.rel Ext.refl rfl
theorem d_pass {st : Stmt} (h : PS X st L2.tNext) : PS X st (tF X.K N (ex G .pass)) :=
  PS.imp h fun D σ H ⟨m, l, s, fl, s', at0, e, k⟩ => by
    unfold ex at e
    cases e
    exact k σ H m at0 Ext.refl
theorem d_brk : PS X (.Break pos) (tF X.K N (ex G .brk)) :=
  PS.imp L2.ps_break fun D σ H ⟨m, l, s, fl, s', at0, e, k⟩ => by
    unfold ex at e
    cases e
    exact k σ H m at0 Ext.refl
theorem d_cnt : PS X (.Continue pos) (tF X.K N (ex G .cnt)) :=
  PS.imp L2.ps_continue fun D σ H ⟨m, l, s, fl, s', at0, e, k⟩ => by
    unfold ex at e
    cases e
    exact k σ H m at0 Ext.refl
theorem d_ife {u v : Sms} {us vs : List Stmt} (h : PT X x (tAT X.K N (cond G e))) (hu : PSs X us (tF X.K N (exs G u))) (hv : PSs X vs (tF X.K N (exs G v))) : PS X (.If x us vs pos) (tF X.K N (ex G (.ife e u v))) :=
  PS.imp (L2.ps_if h hu hv) fun D σ H ⟨m, l, s, fl, s', at0, e, k⟩ => by
    unfold ex at e
    obtain ⟨b, s1, e1, e⟩ := bind_eq_ok e
    refine tAT_step at0 e1 fun H1 m1 at1 x1 => ?_
    cases b with
    | true => exact ⟨m1, l, s1, fl, s', at1, e, k.step x1⟩
    | false => exact ⟨m1, l, s1, fl, s', at1, e, k.step x1⟩
theorem d_nil : PSs X [] (tF X.K N (exs G .nil)) :=
  PSs.imp L2.pss_nil fun D σ H ⟨m, l, s, fl, s', at0, e, k⟩ => by
    unfold exs at e
    cases e
    exact k σ H m at0 Ext.refl
theorem d_cons {st : Stmt} {sts : List Stmt} {u : Sm} {us : Sms} (h : PS X st (tF X.K N (ex G u))) (hs : PSs X sts (tF X.K N (exs G us))) : PSs X (st :: sts) (tF X.K N (exs G (.cons u us))) :=
  PSs.imp (L2.pss_cons h hs) fun D σ H ⟨m, l, s, fl, s', at0, e, k⟩ => by
    unfold exs at e
    obtain ⟨f2, s1, e1, e⟩ := bind_eq_ok e
    refine ⟨m, l, s, f2, s1, at0, e1, ?_⟩
    cases f2 with
    | nx l2 => exact fun σ' H' m' a x => ⟨m', l2, s1, fl, s', a, e, k.step x⟩
    | brk l2 => cases e; exact k
    | cnt l2 => cases e; exact k
    | ret p => cases e; exact k
end

/-! ### the checker -/
def isComp : Expr → Bool
  | .ListComp .. => true | _ => false
def isLc : Ex → Bool
  | .lc .. => true | .lcD .. => true | .lc2 .. => true | _ => false
def fnK (sc : Scope) : Bool := match sc.kind with | .function => true | _ => false
/-- does the comprehension's value go to the name within its own frame -/
def swC (sc : Scope) (nm : Str) (p : Pos) : Expr → Bool
  | .ListComp _ _ s q => (sc.names.lookup nm == some .local) && (p.line == q.line) && !(s.names.any fun (n, k) => n == nm && (k == .local || k == .cell))
  | _ => false
mutual
def chkS (T : Tx) (N : List Str) (sc : Scope) (fn : Str → Bool) : Sm → Stmt → Bool
  | .ex e, st => match st with
    | .Expr x _ => nocomp x && chkE T N e sc fn x
    | _ => false
  | .asg t e, st => match st with
    | .Assign [tg] x _ => (match t with
      | .v i => (match tg with
        | .Name nm p => decide (N[i]? = some nm) && locB sc fn nm && chkE T N e sc fn x && (nocomp x || (fnK sc && isLc e && isComp x))
        | _ => false)
      | .tup ts => chkT N sc fn (.tup ts) tg && chkE T N e sc fn x && nocomp x && !isTupE x && nost tg)
    | _ => false
  | .par is es, st => match is with
    | [i, j] => (match es with
      | .cons a (.cons b .nil) => (match st with
        | .Assign [.Tuple [.Name nx px, .Name ny py] _ _] (.Tuple [x, y] _ _) _ => fnK sc && decide (N[i]? = some nx) && decide (N[j]? = some ny) && decide (i ≠ j) && (sc.names.lookup nx == some .local) && (sc.names.lookup ny == some .local) && decide (nx ≠ ny) && (py.line == px.line) &&
            nost x && nost y && !([x, y].all (PySem.foldedForSure 8)) && !([x, y].all (PySem.constantsAlone 8)) && chkE T N a sc fn x && chkE T N b sc fn y
        | _ => false)
      | _ => false)
    | _ => false
  | .asgI a i e, st => match st with
    | .Assign [.Subscript x y _] z _ => nost y && nocomp z && !isTupE z && chkE T N a sc fn x && chkE T N i sc fn y && chkE T N e sc fn z
    | _ => false
  | .asgF a k e, st => match st with
    | .Assign [.Attribute x nm _] z _ => decide (T.ks[k]? = some nm) && nocomp z && chkE T N a sc fn x && chkE T N e sc fn z
    | _ => false
  | .parF c k1 k2 a b, st => match st with
    | .Assign [.Tuple [.Attribute z n1 _, .Attribute z2 n2 _] _ _] (.Tuple [x, y] _ _) _ => decide (T.ks[k1]? = some n1) && decide (T.ks[k2]? = some n2) && nost x && nost y && chkE T N c sc fn z && chkE T N c sc fn z2 && chkE T N a sc fn x && chkE T N b sc fn y
    | _ => false
  | .aug i o e, st => match st with
    | .AugAssign (.Name nm _) op x _ => decide (op = opB o) && decide (N[i]? = some nm) && locB sc fn nm && chkE T N e sc fn x
    | _ => false
  | .augI a i o e, st => match st with
    | .AugAssign (.Subscript x y _) op z _ => decide (op = opB o) && nost y && chkE T N a sc fn x && chkE T N i sc fn y && chkE T N e sc fn z
    | _ => false
  | .augF a k o e, st => match st with
    | .AugAssign (.Attribute x nm _) op z _ => decide (op = opB o) && decide (T.ks[k]? = some nm) && chkE T N a sc fn x && chkE T N e sc fn z
    | _ => false
  | .ife c a b, st => match st with
    | .If x us vs _ => chkE T N c sc fn x && chkSs T N sc fn a us && chkSs T N sc fn b vs
    | _ => false
  | .whl c b, st => match st with
    | .While x us [] _ => chkE T N c sc fn x && chkSs T N sc fn b us
    | _ => false
  | .for t it b, st => match st with
    | .For tg iter us [] _ => chkI T N it sc fn tg iter && nost iter && chkT N sc fn t tg && chkSs T N sc fn b us
    | _ => false
  | .forD t itm d b, st => match st with
    | .For tg iter us [] _ => (match itm with
        | true => (match iter with
          | .Call (.Attribute x nm ap) [] [] p => isTupE tg && decide (("items" : Str) = nm) && noc0 x && (ap.endLine == p.line) && chkE T N d sc fn x
          | _ => false)
        | false => nost iter && chkE T N d sc fn iter) && pthC d && chkT N sc fn t tg && chkSs T N sc fn b us
    | _ => false
  | .ret e, st => match st with
    | .Return (some x) _ => chkE T N e sc fn x
    | _ => false
  | .retN, st => match st with
    | .Return none _ => true
    | _ => false
  | .pass, st => match st with
    | .Pass _ => true
    | .Expr (.Constant (.str _) _ _) _ => true
    | _ => false
  | .brk, st => match st with
    | .Break _ => true
    | _ => false
  | .cnt, st => match st with
    | .Continue _ => true
    | _ => false
def chkSs (T : Tx) (N : List Str) (sc : Scope) (fn : Str → Bool) : Sms → List Stmt → Bool
  | .nil, sts => match sts with
    | [] => true
    | _ => false
  | .cons s ss, sts => match sts with
    | st :: r => chkS T N sc fn s st && chkSs T N sc fn ss r
    | _ => false
end
end Pa
/-! Pa, part W: what the checker of statements passes is run by the evaluator. -/
namespace Pa
open PySem (Str PyData Addr Value Obj Shared Expr Stmt Pos model wpAny wpAny_bind wpAny_holding wpAny_standAt sizeLine cLine Heap sysModules starEach backTo eval BoolOp bootBuiltins Scope NameKind PassesOwn)
open L2 (V HO Hp Rd SqL SqT upd upd_same upd_ne VK TE TT TA TS TG TGs TI TSet Ends Cx Inv PE PT PA PS PSs PG PGs PI PW PTs RelV Vals EP Key kV R2 OpR CallR)

theorem fnK_ok {sc : Scope} (h : fnK sc = true) : sc.kind = .function := by
  unfold fnK at h
  split at h
  · assumption
  · cases h
theorem swC_eq {elt : Expr} {gs : List PySem.Comprehension} {s : Scope} {q p : Pos} {nm : Str} {n : Nat} {env : PySem.Env} (hk : env.scope.kind = .function) :
    PySem.swapsWith (.ListComp elt gs s q) (some (.Name nm p)) n env = pure (swC env.scope nm p (.ListComp elt gs s q)) := by
  have hb := kind_blk hk
  unfold PySem.swapsWith swC
  have : env.kindOf nm = env.scope.names.lookup nm := rfl
  simp only [hb, this, Expr.pos]
  cases env.scope.names.lookup nm <;> rfl
section
variable {T : Tx} {G : Env} {N : Nm}
theorem s_setLc {X : Cx} (gd : Good T G N X) {i : Nat} {nm : Str} {p : Pos} {pos : Pos} {e : Ex} {x : Expr} (hi : X.N[i]? = some nm) (hk : X.env.scope.kind = .function) (hlc : isLc e = true) (h : chkE T X.N e X.env.scope X.fn x = true) (hsw : swC X.env.scope nm p x = true) (hx : isComp x = true) :
    PS X (.Assign [.Name nm p] x pos) (tF X.K N (ex G (.asg (.v i) e))) := by
  have hloc : ∀ {elt gs s q}, x = .ListComp elt gs s q → X.env.scope.names.lookup nm = some .local := by
    rintro elt gs s q rfl
    unfold swC at hsw
    simp only [Bool.and_eq_true] at hsw
    simpa using hsw.1.1
  cases e <;> first | (cases hlc; done) | skip
  · rename_i t it cs a own
    unfold chkE at h
    split at h
    · rename_i elt tg iter ifs scope cpos
      simp only [Bool.and_eq_true] at h
      obtain ⟨⟨⟨⟨⟨⟨h1, h2⟩, h3⟩, h4⟩, h5⟩, h6⟩, h7⟩ := h
      have q := L2.ps_setLc (spos := pos) (py := p) (elt := elt) (te := tA X.K N (ev G a)) (tt := tAT X.K N (evC G cs)) (g := tG X.K N (bindT t) (slots t)) (pos := cpos) gd.calm gd.nd hi (hloc rfl) (by rw [swC_eq hk, hsw]) (sI it X gd tg iter h1) (L2.blkOk_by h3)
        (fun s H C cl fp => sT (N := N) (X := X.blk s H scope (PySem.compEnvC scope cl C X.env) fp) gd.calm gd.nd t tg h5)
        (fun s H C cl fp => sC cs (X.blk s H scope (PySem.compEnvC scope cl C X.env) fp) (gd.blk ..) ifs h6)
        (fun s H C cl fp => (sE a (X.blk s H scope (PySem.compEnvC scope cl C X.env) fp) (gd.blk ..) elt h7).pe) (folded_ok h2)
      rw [own_map] at q
      exact PS.imp q (asg_rd G fun σ H Q h => lc_tA (sub_ok h4) (by simp only [ev] at h; exact h))
    · cases h
  · rename_i t itm d cs a own
    unfold chkE at h
    split at h
    · rename_i elt tg iter ifs scope cpos
      simp only [Bool.and_eq_true] at h
      obtain ⟨⟨⟨⟨⟨⟨h1, h2⟩, h3⟩, h4⟩, h5⟩, h6⟩, h7⟩ := h
      have pi : PI X tg iter (tI X.K N (fID (ev G d) itm)) ∧ nost iter = true := by
        cases itm with
        | true =>
          dsimp only at h1
          split at h1
          · simp only [Bool.and_eq_true, decide_eq_true_eq] at h1
            obtain ⟨⟨⟨⟨g1, rfl⟩, g3⟩, g4⟩, g5⟩ := h1
            obtain ⟨es, kk, tp, rfl⟩ := isTupE_ok g1
            exact ⟨wi_items (sE d X gd _ g5).pe (base_ok g3) g4, rfl⟩
          · cases h1
        | false =>
          simp only [Bool.and_eq_true] at h1
          exact ⟨wi_keys (sE d X gd _ h1.2).pe, h1.1⟩
      have q := L2.ps_lock (L2.ps_setLc (spos := pos) (py := p) (elt := elt) (te := tA X.K N (ev G a)) (tt := tAT X.K N (evC G cs)) (g := tG X.K N (bindT t) (slots t)) (pos := cpos) gd.calm gd.nd hi (hloc rfl) (by rw [swC_eq hk, hsw]) pi.1 (L2.blkOk_by h3)
        (fun s H C cl fp => sT (N := N) (X := X.blk s H scope (PySem.compEnvC scope cl C X.env) fp) gd.calm gd.nd t tg h5)
        (fun s H C cl fp => sC cs (X.blk s H scope (PySem.compEnvC scope cl C X.env) fp) (gd.blk ..) ifs h6)
        (fun s H C cl fp => (sE a (X.blk s H scope (PySem.compEnvC scope cl C X.env) fp) (gd.blk ..) elt h7).pe) (folded_ok pi.2))
      rw [own_map] at q
      refine PS.imp q fun D σ H hh => ?_
      have := asg_rd G (e := .lcD t itm d cs a own) (t := L2.tLockE (L2.tLc (tI X.K N (fID (ev G d) itm)) (tG X.K N (bindT t) (slots t)) (tAT X.K N (evC G cs)) (tA X.K N (ev G a)) own)) (fun σ H Q h => lcD_tA (pth_ok h2) (sub_ok h4) (by simp only [ev] at h; exact h)) D σ H hh
      exact this
    · cases h
  · rename_i t it cs t2 it2 cs2 a own own2
    unfold chkE at h
    split at h
    · rename_i elt tg iter ifs tg2 iter2 ifs2 scope cpos
      simp only [Bool.and_eq_true] at h
      obtain ⟨⟨⟨⟨⟨⟨⟨⟨⟨⟨⟨⟨h1, h2⟩, h3⟩, h4⟩, h5⟩, h6⟩, h7⟩, h8⟩, h9⟩, h10⟩, h11⟩, h12⟩, h13⟩ := h
      have q := L2.ps_setLc2 (spos := pos) (py := p) (vs1 := own2) (elt := elt) (te := tA X.K N (ev G a)) (tt := tAT X.K N (evC G cs)) (tt1 := tAT X.K N (evC G cs2)) (g := tG X.K N (bindT t) (slots t)) (g1 := tG X.K N (bindT t2) (slots t2)) (wi1 := tI X.K N (evI G it2)) (pos := cpos) gd.calm gd.nd hi (hloc rfl) (by rw [swC_eq hk, hsw]) (sI it X gd tg iter h1) (L2.blkOk_by h3) (by rw [own_map]; exact sub_ok h6)
        (fun s H C cl fp => sT (N := N) (X := X.blk s H scope (PySem.compEnvC scope cl C X.env) fp) gd.calm gd.nd t tg h7)
        (fun s H C cl fp => sC cs (X.blk s H scope (PySem.compEnvC scope cl C X.env) fp) (gd.blk ..) ifs h8)
        (fun s H C cl fp => sI it2 (X.blk s H scope (PySem.compEnvC scope cl C X.env) fp) (gd.blk ..) tg2 iter2 h9)
        (fun s H C cl fp => sT (N := N) (X := X.blk s H scope (PySem.compEnvC scope cl C X.env) fp) gd.calm gd.nd t2 tg2 h11)
        (fun s H C cl fp => sC cs2 (X.blk s H scope (PySem.compEnvC scope cl C X.env) fp) (gd.blk ..) ifs2 h12)
        (fun s H C cl fp => (sE a (X.blk s H scope (PySem.compEnvC scope cl C X.env) fp) (gd.blk ..) elt h13).pe) (folded_ok h2) (fun env => folded_ok h10)
      rw [own_map] at q
      exact PS.imp q (asg_rd G fun σ H Q h => lc2_tA (sub_ok h4) (sub_ok h5) (by simp only [ev] at h; exact h))
    · cases h
theorem s_asgC {X : Cx} (gd : Good T G N X) {i : Nat} {nm : Str} {p : Pos} {pos : Pos} {e : Ex} {x : Expr} (h1 : X.N[i]? = some nm) (l1 : L2.Loc X.env.scope nm) (l2 : X.fn nm = true ∨ X.env.scope.names.lookup nm = some .local) (hk : X.env.scope.kind = .function) (hlc : isLc e = true) (h : chkE T X.N e X.env.scope X.fn x = true)
    (hx : isComp x = true) (hpe : PE X x (tA X.K N (ev G e))) : PS X (.Assign [.Name nm p] x pos) (tF X.K N (ex G (.asg (.v i) e))) := by
  cases hs : swC X.env.scope nm p x with
  | true => exact s_setLc gd h1 hk hlc h hs hx
  | false =>
    refine d_asgN G gd.nd h1 l1 l2 hpe ?_
    cases x <;> first | (cases hx; done) | skip
    rw [swC_eq hk, hs]
set_option maxHeartbeats 4000000
mutual
theorem sS {X : Cx} (gd : Good T G N X) (hp : PassesOwn (model X.prog X.w) X.A X.env X.xe) : ∀ (e : Sm) (st : Stmt), chkS T X.N X.env.scope X.fn e st = true → PS X st (tF X.K N (ex G e))
  | .ex e, st, h => by
    unfold chkS at h
    split at h
    · simp only [Bool.and_eq_true] at h
      exact d_ex G (sE e X gd _ h.2).pe h.1
    · cases h
  | .asg t e, st, h => by
    unfold chkS at h
    split at h
    · split at h
      · split at h
        · simp only [Bool.and_eq_true, decide_eq_true_eq, Bool.or_eq_true] at h
          obtain ⟨⟨⟨h1, h2⟩, h3⟩, h4⟩ := h
          obtain ⟨l1, l2⟩ := locB_ok h2
          rcases h4 with h4 | ⟨⟨h4, h5⟩, h6⟩
          · exact d_asgN G gd.nd h1 l1 l2 (sE e X gd _ h3).pe (swaps_no h4)
          · exact s_asgC gd h1 l1 l2 (fnK_ok h4) h5 h3 h6 (sE e X gd _ h3).pe
        · cases h
      · simp only [Bool.and_eq_true, Bool.not_eq_true'] at h
        obtain ⟨⟨⟨⟨h1, h2⟩, h3⟩, h4⟩, h5⟩ := h
        exact d_asg G (sT gd.calm gd.nd _ _ h1) (sE e X gd _ h2).pe h3 h4 h5
    · cases h
  | .par is es, st, h => by
    unfold chkS at h
    split at h
    · split at h
      · split at h
        · simp only [Bool.and_eq_true, decide_eq_true_eq, Bool.not_eq_true', beq_iff_eq] at h
          obtain ⟨⟨⟨⟨⟨⟨⟨⟨⟨⟨⟨⟨⟨h1, h2⟩, h3⟩, h4⟩, h5⟩, h6⟩, h7⟩, h8⟩, h9⟩, h10⟩, h11⟩, h12⟩, h13⟩, h14⟩ := h
          exact d_par G gd.calm gd.nd h2 h3 h4 h5 h6 (stores_par (fnK_ok h1) h5 h6 h7 (by simpa using h8) h9 h10 h11 h12) h9 h10 (sE _ X gd _ h13).pe (sE _ X gd _ h14).pe
        · cases h
      · cases h
    · cases h
  | .asgI a i e, st, h => by
    unfold chkS at h
    split at h
    · simp only [Bool.and_eq_true, Bool.not_eq_true'] at h
      obtain ⟨⟨⟨⟨⟨h1, h2⟩, h3⟩, h4⟩, h5⟩, h6⟩ := h
      exact d_asgI G (by have := gd.un; omega) (sE a X gd _ h4).pe (sE i X gd _ h5).pe (sE e X gd _ h6).pe h1 h2 h3
    · cases h
  | .asgF a k e, st, h => by
    unfold chkS at h
    split at h
    · simp only [Bool.and_eq_true, decide_eq_true_eq] at h
      obtain ⟨⟨⟨h1, h2⟩, h3⟩, h4⟩ := h
      rw [← gd.fld k _ h1]
      exact d_asgF G gd.fok (sE a X gd _ h3).pe (sE e X gd _ h4).pe h2
    · cases h
  | .parF c k1 k2 a b, st, h => by
    unfold chkS at h
    split at h
    · simp only [Bool.and_eq_true, decide_eq_true_eq] at h
      obtain ⟨⟨⟨⟨⟨⟨⟨h1, h2⟩, h3⟩, h4⟩, h5⟩, h6⟩, h7⟩, h8⟩ := h
      rw [← gd.fld k1 _ h1, ← gd.fld k2 _ h2]
      exact d_parF G gd.calm gd.fok h3 h4 (sE c X gd _ h5).pe (sE c X gd _ h6).pe (sE a X gd _ h7).pe (sE b X gd _ h8).pe
    · cases h
  | .aug i o e, st, h => by
    unfold chkS at h
    split at h
    · simp only [Bool.and_eq_true, decide_eq_true_eq] at h
      obtain ⟨⟨⟨rfl, h1⟩, h2⟩, h3⟩ := h
      obtain ⟨l1, l2⟩ := locB_ok h2
      exact d_aug G gd.nd h1 l1 l2 (sE e X gd _ h3).pe
    · cases h
  | .augI a i o e, st, h => by
    unfold chkS at h
    split at h
    · simp only [Bool.and_eq_true, decide_eq_true_eq] at h
      obtain ⟨⟨⟨⟨rfl, h1⟩, h2⟩, h3⟩, h4⟩ := h
      exact d_augI G (by have := gd.un; omega) (sE a X gd _ h2).pe (sE i X gd _ h3).pe (sE e X gd _ h4).pe h1
    · cases h
  | .augF a k o e, st, h => by
    unfold chkS at h
    split at h
    · simp only [Bool.and_eq_true, decide_eq_true_eq] at h
      obtain ⟨⟨⟨rfl, h1⟩, h2⟩, h3⟩ := h
      rw [← gd.fld k _ h1]
      exact d_augF G gd.fok (sE a X gd _ h2).pe (sE e X gd _ h3).pe
    · cases h
  | .ife c a b, st, h => by
    unfold chkS at h
    split at h
    · simp only [Bool.and_eq_true] at h
      exact d_ife G (sE c X gd _ h.1.1).pt (sSs gd hp a _ h.1.2) (sSs gd hp b _ h.2)
    · cases h
  | .whl c b, st, h => by
    unfold chkS at h
    split at h
    · simp only [Bool.and_eq_true] at h
      exact PS.imp (L2.ps_while hp (sE c X gd _ h.1).pt (sSs gd hp b _ h.2)) fun D σ H q => while_tF (by simp only [ex] at q; exact q)
    · cases h
  | .for t it b, st, h => by
    unfold chkS at h
    split at h
    · simp only [Bool.and_eq_true] at h
      obtain ⟨⟨⟨h1, h2⟩, h3⟩, h4⟩ := h
      exact PS.imp (L2.ps_for hp gd.calm (sI it X gd _ _ h1) (sT gd.calm gd.nd t _ h3) (sSs gd hp b _ h4) (folded_ok h2)) fun D σ H q => for_tF (by simp only [ex] at q; exact q)
    · cases h
  | .forD t itm d b, st, h => by
    unfold chkS at h
    split at h
    · rename_i tg iter us pos
      simp only [Bool.and_eq_true] at h
      obtain ⟨⟨⟨h1, h2⟩, h3⟩, h4⟩ := h
      have pi : PI X tg iter (tI X.K N (fID (ev G d) itm)) ∧ nost iter = true := by
        cases itm with
        | true =>
          dsimp only at h1
          split at h1
          · simp only [Bool.and_eq_true, decide_eq_true_eq] at h1
            obtain ⟨⟨⟨⟨g1, rfl⟩, g3⟩, g4⟩, g5⟩ := h1
            obtain ⟨es, kk, tp, rfl⟩ := isTupE_ok g1
            exact ⟨wi_items (sE d X gd _ g5).pe (base_ok g3) g4, rfl⟩
          · cases h1
        | false =>
          simp only [Bool.and_eq_true] at h1
          exact ⟨wi_keys (sE d X gd _ h1.2).pe, h1.1⟩
      exact PS.imp (L2.ps_lock (L2.ps_for hp gd.calm pi.1 (sT gd.calm gd.nd t _ h3) (sSs gd hp b _ h4) (folded_ok pi.2))) fun D σ H q => forD_tF (pth_ok h2) (by simp only [ex] at q; exact q)
    · cases h
  | .ret e, st, h => by
    unfold chkS at h
    split at h
    · exact d_ret G (sE e X gd _ h).pe
    · cases h
  | .retN, st, h => by
    unfold chkS at h
    split at h
    · exact d_retN G
    · cases h
  | .pass, st, h => by
    unfold chkS at h
    split at h
    · exact d_pass G L2.ps_pass
    · exact d_pass G L2.ps_doc
    · cases h
  | .brk, st, h => by
    unfold chkS at h
    split at h
    · exact d_brk G
    · cases h
  | .cnt, st, h => by
    unfold chkS at h
    split at h
    · exact d_cnt G
    · cases h
theorem sSs {X : Cx} (gd : Good T G N X) (hp : PassesOwn (model X.prog X.w) X.A X.env X.xe) : ∀ (es : Sms) (sts : List Stmt), chkSs T X.N X.env.scope X.fn es sts = true → PSs X sts (tF X.K N (exs G es))
  | .nil, sts, h => by
    unfold chkSs at h
    split at h
    · exact d_nil G
    · cases h
  | .cons s ss, sts, h => by
    unfold chkSs at h
    split at h
    · simp only [Bool.and_eq_true] at h
      exact d_cons G (sS gd hp s _ h.1) (sSs gd hp ss _ h.2)
    · cases h
end
end
end Pa
/-! Pa, part X: defs by their levels, the law's own end. -/
namespace Pa
open PySem (Str PyData Addr Value Obj Shared Expr Stmt Pos model wpAny sizeLine cLine Heap Scope NameKind PassesOwn Program World FuncData)
open L2 (V HO Hp Rd SqL SqT upd upd_same upd_ne VK TE TT TA TS Ends Cx Inv PE PSs RelV Vals defScope defBody defArgs Sp XK)

/-! ### what a call's frame leaves behind -/
section
variable {K : PySem.W.Frag} {N : Nm} {H H' : Hp} {m m' : Mp} {n n' : Nat} {s s1 : S}
mutual
theorem Den.bnd : ∀ (p : P) (v : V), Den K H m n p v → Pa.bnd n p = true
  | .non, v, h => rfl
  | .bl b, v, h => rfl
  | .int i, v, h => rfl
  | .str x, v, h => rfl
  | .tup ps, v, h => by
    obtain ⟨a, vs, e, q, d⟩ := h
    exact Dens.bnd ps vs d
  | .rol ps, v, h => by
    obtain ⟨a, vs, e, q, d⟩ := h
    exact Dens.bnd ps vs d
  | .loc k, v, h => decide_eq_true h.1
theorem Dens.bnd : ∀ (ps : List P) (vs : List V), Dens K H m n ps vs → bnds n ps = true
  | [], vs, h => rfl
  | p :: ps, vs, h => by
    obtain ⟨v, r, e, d, t⟩ := h
    show (Pa.bnd n p && bnds n ps) = true
    rw [Den.bnd p v d, Dens.bnd ps r t]; rfl
end
mutual
theorem Den.low : ∀ (p : P) (v : V), Den K H m n' p v → Pa.bnd n p = true → Den K H m n p v
  | .non, v, h, _ => h
  | .bl b, v, h, _ => h
  | .int i, v, h, _ => h
  | .str x, v, h, _ => h
  | .tup ps, v, h, b => by
    obtain ⟨a, vs, e, q, d⟩ := h
    exact ⟨a, vs, e, q, Dens.low ps vs d b⟩
  | .rol ps, v, h, b => by
    obtain ⟨a, vs, e, q, d⟩ := h
    exact ⟨a, vs, e, q, Dens.low ps vs d b⟩
  | .loc k, v, h, b => ⟨of_decide_eq_true b, h.2⟩
theorem Dens.low : ∀ (ps : List P) (vs : List V), Dens K H m n' ps vs → bnds n ps = true → Dens K H m n ps vs
  | [], vs, h, _ => h
  | p :: ps, vs, h, b => by
    obtain ⟨v, r, e, d, t⟩ := h
    have b' : (Pa.bnd n p && bnds n ps) = true := b
    rw [Bool.and_eq_true] at b'
    exact ⟨v, r, e, Den.low p v d b'.1, Dens.low ps r t b'.2⟩
end
theorem DensD.bndL {κ : Type} {f : P → Option κ} (hk : ∀ p k, f p = some k → Pa.bnd n p = true) : ∀ {kvs : List (P × P)} {ks : List (κ × V)}, DensD K H m n f kvs ks → (kvs.all fun kv => Pa.bnd n kv.1 && Pa.bnd n kv.2) = true
  | [], ks, h => rfl
  | (p, q) :: r, ks, h => by
    obtain ⟨k, v, t, e, e1, d, t'⟩ := h
    rw [List.all_cons, DensD.bndL hk t', hk p k e1, Den.bnd q v d]; rfl
theorem DensD.low {κ : Type} {f : P → Option κ} : ∀ {kvs : List (P × P)} {ks : List (κ × V)}, DensD K H m n' f kvs ks → (kvs.all fun kv => Pa.bnd n kv.1 && Pa.bnd n kv.2) = true → DensD K H m n f kvs ks
  | [], ks, h, _ => h
  | (p, q) :: r, ks, h, b => by
    obtain ⟨k, v, t, e, e1, d, t'⟩ := h
    rw [List.all_cons, Bool.and_eq_true, Bool.and_eq_true] at b
    exact ⟨k, v, t, e, e1, Den.low q v d b.1.2, DensD.low t' b.2⟩
theorem DensF.bndL : ∀ {kvs : List (Nat × P)} {ks : List (Str × V)}, DensF K N H m n kvs ks → (kvs.all fun kv => Pa.bnd n kv.2) = true
  | [], ks, h => rfl
  | (k, p) :: r, ks, h => by
    obtain ⟨v, t, e, d, t'⟩ := h
    rw [List.all_cons, DensF.bndL t', Den.bnd p v d]; rfl
theorem DensF.low : ∀ {kvs : List (Nat × P)} {ks : List (Str × V)}, DensF K N H m n' kvs ks → (kvs.all fun kv => Pa.bnd n kv.2) = true → DensF K N H m n kvs ks
  | [], ks, h, _ => h
  | (k, p) :: r, ks, h, b => by
    obtain ⟨v, t, e, d, t'⟩ := h
    rw [List.all_cons, Bool.and_eq_true] at b
    exact ⟨v, t, e, Den.low p v d b.1, DensF.low t' b.2⟩
theorem keyP_bnd (p : P) (k : L2.Key) (h : keyP p = some k) : Pa.bnd n p = true := by cases p <;> first | rfl | (cases h; done)
theorem KeysP_bnd : ∀ (ps : List P) (ks : List L2.Key), KeysP ps = some ks → bnds n ps = true
  | [], _, _ => rfl
  | p :: ps, ks, h => by
    unfold KeysP at h
    cases e : keyP p with
    | none => rw [e] at h; cases h
    | some k =>
      rw [e] at h
      cases e2 : KeysP ps with
      | none => rw [e2] at h; cases h
      | some r =>
        show (Pa.bnd n p && bnds n ps) = true
        rw [keyP_bnd p k e, KeysP_bnd ps r e2]; rfl
theorem tkeyP_bnd (p : P) (k : List L2.Key) (h : tkeyP p = some k) : Pa.bnd n p = true := by
  cases p <;> first | (cases h; done) | exact KeysP_bnd _ _ h
theorem ORel.bnd {o : O} {a : Addr} (h : ORel K N H m n o a) : bndO n o = true := by
  cases o with
  | lst ps => obtain ⟨vs, _, d⟩ := h; exact Dens.bnd _ _ d
  | dct lk kvs =>
    rcases h with ⟨ks, _, d⟩ | ⟨ks, _, d⟩
    · exact d.bndL keyP_bnd
    · exact d.bndL tkeyP_bnd
  | ins c fs => obtain ⟨dx, fs', _, d, _⟩ := h; exact d.bndL
theorem ORel.low {o : O} {a : Addr} (h : ORel K N H m n' o a) (b : bndO n o = true) : ORel K N H m n o a := by
  cases o with
  | lst ps => obtain ⟨vs, e, d⟩ := h; exact ⟨vs, e, Dens.low _ _ d b⟩
  | dct lk kvs =>
    rcases h with ⟨ks, e, d⟩ | ⟨ks, e, d⟩
    · exact .inl ⟨ks, e, d.low b⟩
    · exact .inr ⟨ks, e, d.low b⟩
  | ins c fs => obtain ⟨dx, fs', e, d, q⟩ := h; exact ⟨dx, fs', e, d.low b, q⟩
theorem gc_ok {r : R P} {p : P} {s' : S} (h : gc s r = .ok p s') : ∃ s1, r = .ok p s1 ∧ (s' = s1 ∨ (Clean s p s1 ∧ s' = s1.take s.length)) := by
  unfold gc at h
  cases r with
  | ok q s1 =>
    dsimp only at h
    split at h
    · rename_i c; cases h; exact ⟨s1, rfl, .inr ⟨c, rfl⟩⟩
    · cases h; exact ⟨_, rfl, .inl rfl⟩
  | exc c xs s => cases h
  | bad => cases h
theorem clean_rel {p : P} {v : V} (r : Rel K N H m s) (r' : Rel K N H' m' s1) (x : Ext s.length H m s1.length H' m') (d : Den K H' m' s1.length p v) (c : Clean s p s1) :
    Rel K N H' m' (s1.take s.length) ∧ Ext s.length H m (s1.take s.length).length H' m' ∧ Den K H' m' (s1.take s.length).length p v := by
  have el : (s1.take s.length).length = s.length := by rw [List.length_take]; exact Nat.min_eq_left x.le
  rw [el]
  refine ⟨⟨fun i j hi hj e => ?_, fun i o h => ?_⟩, ⟨Nat.le_refl _, x.map, x.keep, x.there, fun i h1 h2 => absurd h1 (by omega), x.frz⟩, Den.low _ _ d c.1⟩
  · rw [el] at hi hj
    exact r'.inj i j (Nat.lt_of_lt_of_le hi x.le) (Nat.lt_of_lt_of_le hj x.le) e
  · rw [el]
    have hi : i < s.length := by
      have := (List.getElem?_eq_some_iff.mp h).1
      rwa [el] at this
    rw [List.getElem?_take, if_pos hi] at h
    refine (r'.obj i o h).low ?_
    rcases c.2 i hi with e | ⟨o', e, b⟩
    · rw [h] at e
      exact (r.obj i o e.symm).bnd
    · rw [h] at e; cases e; exact b
end

/-! ### a program's defs -/
structure DfT where
  nm : Str
  qual : Str
  st : Stmt
  N : List Str
  np : Nat
def scC (N P : List Str) (sc : Scope) : Bool :=
  decide (sc.kind = .function) && !sc.isCoroutine && !sc.isGenerator && decide N.Nodup && decide (N.take P.length = P) && P.all (fun x => decide (sc.names.lookup x = some .local) || decide (sc.names.lookup x = some .cell)) && sc.names.all (fun y => !decide (y.2 = .free))
theorem scC_ok {N P : List Str} {sc : Scope} (h : scC N P sc = true) : L2.FnScope N P sc := by
  unfold scC at h
  simp only [Bool.and_eq_true, Bool.not_eq_true', decide_eq_true_eq, List.all_eq_true, Bool.or_eq_true, decide_eq_false_iff_not] at h
  obtain ⟨⟨⟨⟨⟨⟨h1, h2⟩, h3⟩, h4⟩, h5⟩, h6⟩, h7⟩ := h
  exact ⟨h1, h2, h3, h4, h5, h6, h7⟩
def chkD (T : Tx) (d : DfT) (b : Df) : Bool := scC d.N (d.N.take d.np) (defScope d.st) && decide (d.np ≤ d.N.length) && decide (b.ps = d.np) && decide (b.ns = d.N.length) && chkSs T d.N (defScope d.st) (fun _ => true) b.body (defBody d.st)
def arOf (pg : Pg) (i : Nat) : Nat := match pg.defs[i]? with
  | some d => d.ps
  | none => 0
structure Facts (T : Tx) (pg : Pg) (ds : List DfT) (N : Nm) (K : PySem.W.Frag) (mg : Str → Option Value) (f : Nat → Addr) (fd : Nat → FuncData) : Prop where
  chk : ∀ i b, pg.defs[i]? = some b → ∃ d, ds[i]? = some d ∧ chkD T d b = true ∧ L2.Fun K d.nm d.qual d.st (f i) (fd i) ∧ L2.Binds K (fd i) (d.N.take d.np) []
  gl : ∀ i nm, T.fs[i]? = some nm → T.ar i = arOf pg i ∧ (∃ b, pg.defs[i]? = some b) ∧ mg nm = some (.ref (f i)) ∧ PySem.W.keepIn K (.ref (f i)) = true
  cl : ∀ c nm, T.cs[c]? = some nm → ∃ fi b, pg.inits[c]? = some fi ∧ pg.defs[fi]? = some b ∧ b.ps = T.car c + 1 ∧ mg nm = some (.ref (N.cls c)) ∧ L2.Mk K (N.cls c) (f fi) ∧ L2.Cls K (N.cls c)
  mt : ∀ c k i, pg.mts c k = some i → ∃ b, pg.defs[i]? = some b ∧ b.ps = T.mar k + 1 ∧ L2.Meth K (N.cls c) (N.fld k) (f i)
  fok : ∀ c k, pg.fok c k = true → L2.Cls K (N.cls c) ∧ L2.NoAttr K (N.cls c) (N.fld k)
  bl : ∀ nm ∈ bltN, mg nm = none
  fld : ∀ k nm, T.ks[k]? = some nm → N.fld k = nm
/-- what stands for `new` at a level -/
noncomputable def newN (pg : Pg) (n : Nat) (c : Nat) (xs : List P) (s : S) : R P := match n with
  | 0 => .bad
  | m + 1 => match pg.inits[c]? with
    | some i => (callN pg m i (.loc s.length :: xs) (s ++ [.ins c []])).bind fun r s' => match r with
      | .non => .ok (.loc s.length) s'
      | _ => .bad
    | none => .bad
noncomputable def envN (pg : Pg) (n : Nat) : Env := ⟨callN pg n, newN pg n, pg.mts, pg.fok⟩
theorem callN_succ {pg : Pg} {n i : Nat} {b : Df} (h : pg.defs[i]? = some b) (xs : List P) (s : S) : callN pg (n + 1) i xs s = run (envN pg n) b xs s := by
  unfold callN
  rw [h]
  rfl
theorem start_len {Ns : List Str} {vs : List V} (h : vs.length ≤ Ns.length) : (L2.start Ns vs).length = Ns.length := by
  unfold L2.start; simp; omega
theorem start_rel {K : PySem.W.Frag} {H : Hp} {m : Mp} {n : Nat} {ps : List P} {vs : List V} {Ns : List Str} (d : Dens K H m n ps vs) (hl : vs.length ≤ Ns.length) : LRel K H m n (ps.map some ++ List.replicate (Ns.length - ps.length) none) (L2.start Ns vs) := by
  have hd := d.length
  refine ⟨by rw [start_len hl]; simp; omega, fun i p e => ?_⟩
  by_cases hi : i < ps.length
  · rw [List.getElem?_append_left (by simpa using hi), List.getElem?_map] at e
    obtain ⟨q, e1, e2⟩ := Option.map_eq_some_iff.mp e
    cases e2
    obtain ⟨v, h1, h2⟩ := d.get e1
    refine ⟨v, ?_, h2⟩
    unfold L2.start
    rw [List.getElem?_append_left (by simp; omega), List.getElem?_map, h1]; rfl
  · rw [List.getElem?_append_right (by simpa using Nat.le_of_not_lt hi), List.getElem?_replicate] at e
    split at e <;> cases e
section
variable {T : Tx} {pg : Pg} {ds : List DfT} {N : Nm} {P0 : Program} {w : World} {K : PySem.W.Frag} {mg : Str → Option Value} {base : Heap} {f : Nat → Addr} {fd : Nat → FuncData}
theorem spF_imp {n n' : Nat} {g g' : List P → S → R P} (hn : n = n') (hg : g' = g) : ∀ vs H Q E, spF K N n' g' vs H Q E → spF K N n g vs H Q E := by
  subst hn hg; intro vs H Q E h; exact h
theorem lvl (F : Facts T pg ds N K mg f fd) : ∀ (n i : Nat) (b : Df), pg.defs[i]? = some b → ∃ d, ds[i]? = some d ∧ d.np = b.ps ∧ L2.FnOk P0 w K mg base CX0 n (f i) (fd i) (d.N.take d.np) (spF K N b.ps (callN pg n i)) ∧ L2.Binds K (fd i) (d.N.take d.np) [] := by
  intro n
  induction n using Nat.strongRecOn with
  | _ n ih =>
  intro i b hb
  obtain ⟨d, h1, h2, h3, h4⟩ := F.chk i b hb
  unfold chkD at h2
  simp only [Bool.and_eq_true, decide_eq_true_eq] at h2
  obtain ⟨⟨⟨⟨c1, c2⟩, c3⟩, c4⟩, c5⟩ := h2
  refine ⟨d, h1, c3.symm, ?_, h4⟩
  have hpl : (d.N.take d.np).length = b.ps := by rw [List.length_take]; omega
  cases n with
  | zero =>
    refine ⟨fun vs H Q E h => by rw [hpl]; exact h.1, fun A outer s H args us vs Q E hr e0 hb' rv h => ?_⟩
    obtain ⟨_, m, st, ps, r, s', _, _, e, _⟩ := h
    exact absurd e (by unfold callN; intro z; cases z)
  | succ n =>
    have ihn := ih n (Nat.lt_succ_self n)
    refine L2.Fun.ok h3 (scC_ok c1) (fun vs H Q E h => by rw [hpl]; exact h.1) fun cdv A outer s H vs Q E hr h => ?_
    obtain ⟨hvl, m, st, ps, r, s', rl, ds', e, k⟩ := h
    rw [callN_succ hb] at e
    unfold run at e
    split at e
    · rename_i hlen
      obtain ⟨s1, e1, e2⟩ := gc_ok e
      obtain ⟨fl, s2, e3, e4⟩ := bind_eq_ok e1
      refine ⟨tF K N (exs (envN pg n) b.body), ?_, ?_⟩
      · refine sSs (T := T) (G := envN pg n) (N := N) ?_ PassesOwn.never b.body (defBody d.st) c5
        have S := scC_ok c1
        constructor
        · rfl
        · show (A.deeper _).units + 200 < cLine
          have := hr.un
          omega
        · exact S.nd
        · intro j nm hj
          obtain ⟨g1, ⟨b', g2⟩, g3, g4⟩ := F.gl j nm hj
          obtain ⟨d', k1, k2, k3, k4⟩ := ihn j b' g2
          refine ⟨f j, n, g3, g4, ⟨⟨fd j, _, k4, ?_⟩, hr⟩⟩
          have : T.ar j = b'.ps := by rw [g1]; unfold arOf; rw [g2]
          rw [this]
          exact k3
        · intro c nm hc
          obtain ⟨fi, b', g1, g2, g3, g4, g5, g6⟩ := F.cl c nm hc
          cases n with
          | zero => exact .inr fun xs s => rfl
          | succ n' =>
            obtain ⟨d', k1, k2, k3, k4⟩ := ih n' (by omega) fi b' g2
            refine .inl ⟨f fi, n', callN pg n' fi, g4, ⟨⟨fd fi, _, k4, by rw [← g3]; exact k3⟩, hr.mono (by omega)⟩, hr, g5, g6, ?_⟩
            show newN pg (n' + 1) c = newOf (callN pg n' fi) c
            funext xs s
            unfold newN newOf
            dsimp only
            rw [g1]
            try rfl
        · intro ci kk fi hm
          obtain ⟨b', g1, g2, g3⟩ := F.mt ci kk fi hm
          obtain ⟨d', k1, k2, k3, k4⟩ := ihn fi b' g1
          exact ⟨f fi, n, ⟨⟨fd fi, _, k4, by rw [← g2]; exact k3⟩, hr⟩, g3⟩
        · exact F.fok
        · exact F.bl
        · exact F.fld
      · have hns : ps.map some ++ List.replicate (b.ns - ps.length) none = ps.map some ++ List.replicate (d.N.length - ps.length) (none : Option P) := by rw [c4]
        rw [hns] at e3
        refine ⟨m, _, st, fl, s2, ⟨rl, start_rel ds' (by omega)⟩, e3, ?_⟩
        have fin : ∀ (p : P) (v : V) (H' : Hp) (m' : Mp), r = p → s2 = s1 → Rel K N H' m' s1 → Ext st.length H m s1.length H' m' → Den K H' m' s1.length p v → Q v H' := by
          intro p v H' m' ep _ r1 x1 d1
          subst ep
          rcases e2 with rfl | ⟨c, rfl⟩
          · exact k v H' m' r1 x1 d1
          · obtain ⟨q1, q2, q3⟩ := clean_rel rl r1 x1 d1 c
            exact k v H' m' q1 q2 q3
        cases fl with
        | nx l => cases e4; exact fun σ' H' m' a x => fin .non .non H' m' rfl rfl a.rel x rfl
        | ret p => cases e4; exact fun v H' m' r1 x1 d1 => fin _ v H' m' rfl rfl r1 x1 d1
        | brk l => cases e4
        | cnt l => cases e4
    · cases e
end
end Pa
/-! Pa, part Y: the facts of a program, the law's end. -/
namespace Pa
open PySem (Str PyData Addr Value Obj Shared Expr Stmt Pos model wpAny sizeLine cLine Heap Scope NameKind PassesOwn Program World FuncData mainGlobals Params DefRec callerA BindsTo)
open L2 (V HO Hp Rd SqL SqT upd upd_same upd_ne VK TE TT TA TS Ends Cx Inv PE PSs RelV Vals defScope defBody defArgs Sp XK)

def All2 {α β : Type} (R : α → β → Prop) : List α → List β → Prop
  | [], [] => True
  | a :: as, b :: bs => R a b ∧ All2 R as bs
  | _, _ => False
theorem All2.get {α β : Type} {R : α → β → Prop} : ∀ {as : List α} {bs : List β} {i : Nat} {a : α}, All2 R as bs → as[i]? = some a → ∃ b, bs[i]? = some b ∧ R a b
  | [], [], _, _, _, e => by simp at e
  | [], _ :: _, _, _, h, _ => h.elim
  | _ :: _, [], _, _, h, _ => h.elim
  | a :: as, b :: bs, 0, x, h, e => by
    have : a = x := by simpa using e
    subst this
    exact ⟨b, rfl, h.1⟩
  | a :: as, b :: bs, i + 1, x, h, e => by
    obtain ⟨c, h1, h2⟩ := All2.get (i := i) h.2 (by simpa using e)
    exact ⟨c, by simpa using h1, h2⟩
theorem All2.get' {α β : Type} {R : α → β → Prop} : ∀ {as : List α} {bs : List β} {i : Nat} {b : β}, All2 R as bs → bs[i]? = some b → ∃ a, as[i]? = some a ∧ R a b
  | [], [], _, _, _, e => by simp at e
  | [], _ :: _, _, _, h, _ => h.elim
  | _ :: _, [], _, _, h, _ => h.elim
  | a :: as, b :: bs, 0, x, h, e => by
    have : b = x := by simpa using e
    subst this
    exact ⟨a, rfl, h.1⟩
  | a :: as, b :: bs, i + 1, x, h, e => by
    obtain ⟨c, h1, h2⟩ := All2.get' (i := i) h.2 (by simpa using e)
    exact ⟨c, by simpa using h1, h2⟩
def AllP {α : Type} (p : α → Prop) : List α → Prop
  | [] => True
  | a :: as => p a ∧ AllP p as
theorem AllP.mem {α : Type} {p : α → Prop} : ∀ {as : List α} {a : α}, AllP p as → a ∈ as → p a
  | a :: as, x, h, e => by
    rcases List.mem_cons.mp e with z | z
    · rw [z]; exact h.1
    · exact AllP.mem h.2 z
/-- attribute names -/
def fldOf (ks : List Str) (k : Nat) : Str := match ks[k]? with
  | some x => x
  | none => ⟨(List.replicate (k + 1) 0).toArray⟩
def ksOk (ks : List Str) : Bool := decide ks.Nodup && ks.all fun x => x.cps.toList.any (· != 0)
theorem fldOf_inj {ks : List Str} (h : ksOk ks = true) (i j : Nat) (e : fldOf ks i = fldOf ks j) : i = j := by
  unfold ksOk at h
  simp only [Bool.and_eq_true, decide_eq_true_eq, List.all_eq_true] at h
  have zz : ∀ (k : Nat), ((⟨(List.replicate (k + 1) 0).toArray⟩ : Str).cps.toList.any (· != 0)) = false := fun k => by simp
  have mem : ∀ {k : Nat} {x : Str}, ks[k]? = some x → x ∈ ks := fun e => List.mem_of_getElem? e
  unfold fldOf at e
  cases hi : ks[i]? with
  | some x =>
    cases hj : ks[j]? with
    | some y =>
      rw [hi, hj] at e
      have e' : x = y := e
      subst e'
      obtain ⟨i1, i2⟩ := List.getElem?_eq_some_iff.mp hi
      obtain ⟨j1, j2⟩ := List.getElem?_eq_some_iff.mp hj
      exact (List.getElem_inj h.1).mp (i2.trans j2.symm)
    | none =>
      rw [hi, hj] at e
      have e' : x = _ := e
      have := h.2 x (mem hi)
      rw [e', zz] at this; cases this
  | none =>
    cases hj : ks[j]? with
    | some y =>
      rw [hi, hj] at e
      have e' : _ = y := e
      have := h.2 y (mem hj)
      rw [← e', zz] at this; cases this
    | none =>
      rw [hi, hj] at e
      have e' : (⟨(List.replicate (i + 1) 0).toArray⟩ : Str) = ⟨(List.replicate (j + 1) 0).toArray⟩ := e
      have := congrArg (fun x : Str => x.cps.toList.length) e'
      simpa using this
def nmOf (ks : List Str) (h : ksOk ks = true) (Cs : List Addr) : Nm := ⟨fun c => Cs.getD c 0, fldOf ks, fldOf_inj h⟩
/-- a def as it stands behind the top -/
structure Row (K : PySem.W.Frag) (nm qual : Str) (st : Stmt) (f : Addr) : Prop where
  ex : ∃ (oc : Value) (od : Option Addr) (kV doc pm : Value) (an : Option Addr) (cdv ct : Value) (osl : Array (Option Value)),
    K.lookup f = some ⟨oc, od, .func (PySem.W.fnOf nm qual (defArgs st) (defBody st) (defScope st) .none kV doc pm an cdv ct), osl⟩ ∧ PySem.W.codeIn K cdv qual = true
  kp : PySem.W.keepIn K (.ref f) = true
/-- how its arguments bind -/
def Bnd (d : DfT) : Prop := ∀ (kV doc pm : Value) (an : Option Addr) (cdv ct : Value) (us : List Value), us.length = (d.N.take d.np).length →
  PySem.bindArgs (PySem.W.fnOf d.nm d.qual (defArgs d.st) (defBody d.st) (defScope d.st) .none kV doc pm an cdv ct) ⟨us, []⟩ = pure ((d.N.take d.np).zip us)
theorem Row.fn {K : PySem.W.Frag} {d : DfT} {f : Addr} (r : Row K d.nm d.qual d.st f) (b : Bnd d) : ∃ fd, L2.Fun K d.nm d.qual d.st f fd ∧ L2.Binds K fd (d.N.take d.np) [] ∧ ∀ (s : Shared) (us : List Value), us.length = (d.N.take d.np).length → BindsTo s fd ⟨us, []⟩ ((d.N.take d.np).zip us) := by
  obtain ⟨⟨oc, od, kV, doc, pm, an, cdv, ct, osl, l, c⟩, k⟩ := r
  have F := L2.fun_mk l c k
  exact ⟨_, F, .all (b kV doc pm an cdv ct), fun s us hl => .of_eq (b kV doc pm an cdv ct us hl)⟩
/-- a class as it stands behind the top -/
structure ClsR (K : PySem.W.Frag) (C f : Addr) : Prop where
  made : L2.Mk K C f
  cl : L2.Cls K C
section
variable {T : Tx} {pg : Pg} {ds : List DfT} {K : PySem.W.Frag} {mg : Str → Option Value} {h : Heap}
theorem facts_of (X : K.In h) (G : h.Ns mainGlobals mg) (hk : ksOk T.ks = true) {fs Cs : List Addr} {mtl : List (Nat × Nat × Nat)} {fokl : List (Nat × Nat)}
    (e1 : pg.mts = fun c k => (mtl.find? fun x => x.1 == c && x.2.1 == k).map (·.2.2)) (e2 : pg.fok = fun c k => fokl.contains (c, k)) (e3 : T.ar = arOf pg)
    (hrow : All2 (fun d f => Row K d.nm d.qual d.st f) ds fs) (hchk : All2 (fun d b => chkD T d b = true ∧ Bnd d) ds pg.defs)
    (hgl : All2 (fun nm f => PySem.W.nsIn K mainGlobals nm = some (some (.ref f))) T.fs (fs.take T.fs.length))
    (hcl : All2 (fun (nm : Str) (C : Addr) => PySem.W.nsIn K mainGlobals nm = some (some (.ref C))) T.cs Cs) (hci : All2 (fun (i : Nat) C => ClsR K C (fs.getD i 0)) pg.inits Cs)
    (hcn : ∀ c i, pg.inits[c]? = some i → ∃ b, pg.defs[i]? = some b ∧ b.ps = T.car c + 1)
    (hmt : AllP (fun (x : Nat × Nat × Nat) => (∃ b, pg.defs[x.2.2]? = some b ∧ b.ps = T.mar x.2.1 + 1) ∧ L2.Meth K (Cs.getD x.1 0) (fldOf T.ks x.2.1) (fs.getD x.2.2 0)) mtl)
    (hfok : AllP (fun (x : Nat × Nat) => L2.Cls K (Cs.getD x.1 0) ∧ L2.NoAttr K (Cs.getD x.1 0) (fldOf T.ks x.2)) fokl)
    (hbl : AllP (fun nm => PySem.W.nsIn K mainGlobals nm = some none) bltN) :
    ∃ (fd : Nat → FuncData), Facts T pg ds (nmOf T.ks hk Cs) K mg (fun i => fs.getD i 0) fd ∧ ∀ i d, ds[i]? = some d → ∀ (s : Shared) (us : List Value), us.length = (d.N.take d.np).length → BindsTo s (fd i) ⟨us, []⟩ ((d.N.take d.np).zip us) := by
  have key : ∀ i : Nat, ∃ fd : FuncData, ∀ d, ds[i]? = some d → L2.Fun K d.nm d.qual d.st (fs.getD i 0) fd ∧ L2.Binds K fd (d.N.take d.np) [] ∧ ∀ (s : Shared) (us : List Value), us.length = (d.N.take d.np).length → BindsTo s fd ⟨us, []⟩ ((d.N.take d.np).zip us) := by
    intro i
    cases hd : ds[i]? with
    | none => exact ⟨PySem.W.fnOf Str.empty Str.empty (defArgs (.Pass ⟨0, 0, 0, 0⟩)) [] (defScope (.Pass ⟨0, 0, 0, 0⟩)) .none .none .none .none none .none .none, fun d e => by cases e⟩
    | some d =>
      obtain ⟨f, g1, g2⟩ := hrow.get hd
      obtain ⟨b, g3, g4, g5⟩ := hchk.get hd
      obtain ⟨fd, q1, q2, q3⟩ := g2.fn g5
      have ef : fs.getD i 0 = f := by rw [List.getD_eq_getElem?_getD, g1]; rfl
      exact ⟨fd, fun d' e => by cases e; rw [ef]; exact ⟨q1, q2, q3⟩⟩
  obtain ⟨fd, hfd⟩ := Classical.skolem.mp key
  refine ⟨fd, ?_, fun i d hd => (hfd i d hd).2.2⟩
  constructor
  · intro i b hb
    obtain ⟨d, g1, g2, g3⟩ := hchk.get' hb
    exact ⟨d, g1, g2, (hfd i d g1).1, (hfd i d g1).2.1⟩
  · intro i nm hi
    obtain ⟨f, g1, g2⟩ := hgl.get hi
    have hl : i < T.fs.length := (List.getElem?_eq_some_iff.mp hi).1
    rw [List.getElem?_take, if_pos hl] at g1
    obtain ⟨d, g3, g4⟩ := hrow.get' g1
    obtain ⟨b, g5, g6⟩ := hchk.get g3
    have ef : fs.getD i 0 = f := by rw [List.getD_eq_getElem?_getD, g1]; rfl
    exact ⟨by rw [e3], ⟨b, g5⟩, by rw [ef]; exact PySem.W.mg_of X G g2, by rw [ef]; exact g4.kp⟩
  · intro c nm hc
    obtain ⟨C, g1, g2⟩ := hcl.get hc
    obtain ⟨i, g3, g4⟩ := hci.get' g1
    obtain ⟨b, g5, g6⟩ := hcn c i g3
    have eC : (nmOf T.ks hk Cs).cls c = C := by show Cs.getD c 0 = C; rw [List.getD_eq_getElem?_getD, g1]; rfl
    rw [eC]
    exact ⟨i, b, g3, g5, g6, PySem.W.mg_of X G g2, g4.made, g4.cl⟩
  · intro c k i hm
    rw [e1] at hm
    dsimp only at hm
    obtain ⟨x, g1, g2⟩ := Option.map_eq_some_iff.mp hm
    have hx := List.mem_of_find?_eq_some g1
    have hp := List.find?_some g1
    simp only [Bool.and_eq_true, beq_iff_eq] at hp
    obtain ⟨⟨b, g3, g4⟩, g5⟩ := hmt.mem hx
    rw [g2] at g3 g5
    rw [hp.2] at g4 g5
    rw [hp.1] at g5
    exact ⟨b, g3, g4, g5⟩
  · intro c k hf
    rw [e2] at hf
    dsimp only at hf
    have := hfok.mem (a := (c, k)) (by simpa using hf)
    exact this
  · exact fun nm hn => PySem.W.mg_none_of X G (hbl.mem hn)
  · intro k nm hkk
    show fldOf T.ks k = nm
    unfold fldOf; rw [hkk]
end
/-! ### the end -/
def spLaw (K : PySem.W.Frag) (most : Nat) : Sp := fun vs H Q E => ∃ (a : Addr) (ns : List Int), vs = [.ref a] ∧ SqL K H a (ns.map V.int) ∧ ns.length ≤ most ∧ L2.Only H ∧ Q (.bl true) H ∧ ∀ H', Q (.bl true) H'
theorem ints_dens {K : PySem.W.Frag} {H : Hp} {m : Mp} {n : Nat} : ∀ ns : List Int, Dens K H m n (ns.map P.int) (ns.map V.int)
  | [] => rfl
  | i :: r => ⟨.int i, r.map V.int, rfl, rfl, ints_dens r⟩
theorem rel0 {K : PySem.W.Frag} {N : Nm} {H : Hp} {m : Mp} : Rel K N H m [] := ⟨fun i j hi => absurd hi (by simp), fun i o h => by simp at h⟩
theorem law_sp {K : PySem.W.Frag} {N : Nm} {most : Nat} {g : List P → S → R P} (math : ∀ ns : List Int, ns.length ≤ most → ∃ s', g [.rol (ns.map P.int)] [] = .ok (.bl true) s') : ∀ vs H Q E, spLaw K most vs H Q E → spF K N 1 g vs H Q E := by
  rintro vs H Q E ⟨a, ns, rfl, hS, hl, ho, _, hq⟩
  obtain ⟨s', e⟩ := math ns hl
  refine ⟨rfl, fun _ => 0, [], _, _, s', rel0, ?_, e, fun v H' m' r x d => by cases d; exact hq H'⟩
  refine Dens.single ⟨a, ns.map V.int, rfl, ?_, ints_dens ns⟩
  rcases hS with (hS | ⟨o, hS⟩) | hS
  · rcases ho a with z | ⟨o, xs, z⟩
    · rw [z] at hS; cases hS
    · rw [z] at hS; cases hS
  · exact .inl ⟨o, hS⟩
  · exact .inr hS
theorem walk {l : PySem.W.OpenLaw} {q : Program} {loose : List Str} {XP : (Str → Option Value) → Heap → Prop} {YP : World → Heap → Prop} {d : DefRec} {K : Params → PySem.W.Frag} {most n L : Nat} {pg : Pg} {b : Df} (hn : l.most = some most) (hm : most ≤ sizeLine) (hdf : d.params.defaults = []) (hr : L2.Room n callerA)
    (hY : ∀ (w : World) (h : Heap), YP w h → (K w.params).In h) (hb : pg.defs[L]? = some b) (hps : b.ps = 1)
    (F : ∀ (w : World) (mg : Str → Option Value) (fa : Addr) (h : Heap), (K w.params).In h → h.Ns mainGlobals mg → mg d.name = some (.ref fa) →
      ∃ (T : Tx) (ds : List DfT) (N : Nm) (f : Nat → Addr) (fd : Nat → FuncData) (dL : DfT), Facts T pg ds N (K w.params) mg f fd ∧ f L = fa ∧ ds[L]? = some dL ∧ dL.N.take dL.np = [("script" : Str)] ∧ ∀ (s : Shared) (u : Value), BindsTo s (fd L) ⟨[u], []⟩ [("script", u)])
    (math : ∀ ns : List Int, ns.length ≤ most → ∃ s', callN pg n L [.rol (ns.map P.int)] [] = .ok (.bl true) s') :
    PySem.W.WalkO q loose XP YP l.row.toRowW d [] (fun f vs => PySem.call f vs) :=
  L2.walk_of (n := most) (k := n) (x := "script") (CX := fun _ => CX0) (sp := fun w => spLaw (K w.params) most) hn hm hdf hr hY
    (fun w mg fa h X G hfa => by
      obtain ⟨T, ds, N, f, fd, dL, FF, rfl, hdL, hN, hbd⟩ := F w mg fa h X G hfa
      refine ⟨fd L, hbd, fun base _ _ => ?_⟩
      obtain ⟨d', k1, k2, k3, k4⟩ := lvl (P0 := l.prog) (w := w) (base := base) FF n L b hb
      rw [hdL] at k1
      cases k1
      rw [hN, hps] at k3
      exact k3.imp (law_sp math))
    (fun _ H a ns hl ho hS => ⟨a, ns, rfl, hS, hl, ho, rfl, fun _ => rfl⟩) fun _ _ _ _ _ z => z
end Pa
open PySem (Str Stmt)
namespace K98
def top (i : Nat) : Stmt := PySem.Challenge.pw_whopickswhen_k98_whole_counts.main.body.getD i (.Pass ⟨0, 0, 0, 0⟩)
/-- 0: counts_of -/
def b0 : Pa.Sms := (.cons (.ret (.bin .mul (.tup (.cons (.int 0) .nil)) (.b1 .len (.ix (.v 0) (.int 1))))) .nil)
def d0 : Pa.Df := ⟨1, 1, b0⟩
def t0 : Pa.DfT := ⟨"counts_of", "counts_of", top 1, ["claim"], 1⟩
/-- 1: top_taken -/
def b1 : Pa.Sms := (.cons (.asg (.v 3) (.lst .nil)) (.cons (.asg (.v 4) (.int 0)) (.cons (.for (.tup (.cons (.tup (.cons (.v 6) (.cons (.v 7) (.cons (.v 8) .nil)))) (.cons (.v 5) .nil))) (.zip (.ix (.v 0) (.int 1)) (.v 1)) (.cons (.ife (.and (.cmp .eq (.v 6) (.v 2)) (.cmp .lt (.v 5) (.v 7))) (.cons (.ex (.m1 .append (.v 3) (.bin .add (.v 5) (.int 1)))) .nil) (.cons (.ex (.m1 .append (.v 3) (.v 5))) (.cons (.aug 4 .add (.ife (.cmp .eq (.v 6) (.v 2)) (.v 8) (.int 0))) .nil))) .nil)) (.cons (.ret (.tup (.cons (.b1 .tuple (.v 3)) (.cons (.v 4) .nil)))) .nil))))
def d1 : Pa.Df := ⟨3, 9, b1⟩
def t1 : Pa.DfT := ⟨"top_taken", "top_taken", top 2, ["claim", "counts", "person", "found", "number", "count", "other", "without", "many"], 3⟩
/-- 2: turn_moves -/
def b2 : Pa.Sms := (.cons (.asg (.v 3) (.lst (.cons (.call 1 (.cons (.v 0) (.cons (.v 2) (.cons (.v 1) .nil)))) .nil))) (.cons (.ife (.cmp .ne (.v 1) (.ix (.v 0) (.int 0))) (.cons (.ex (.m1 .append (.v 3) (.tup (.cons (.v 2) (.cons (.int 0) .nil))))) .nil) .nil) (.cons (.ret (.v 3)) .nil)))
def d2 : Pa.Df := ⟨3, 4, b2⟩
def t2 : Pa.DfT := ⟨"turn_moves", "turn_moves", top 3, ["claim", "person", "counts", "found"], 3⟩
/-- 3: next_place -/
def b3 : Pa.Sms := (.cons (.asg (.tup (.cons (.v 2) (.cons (.v 3) .nil))) (.v 0)) (.cons (.ife (.cmp .lt (.bin .add (.v 1) (.int 1)) (.b1 .len (.v 2))) (.cons (.ret (.bin .add (.v 1) (.int 1))) .nil) .nil) (.cons (.ife (.cmp .eq (.bin .add (.v 1) (.int 1)) (.b1 .len (.v 2))) (.cons (.ret (.ife (.isN (.v 3)) (.bin .add (.v 1) (.int 1)) (.v 3))) .nil) .nil) (.cons (.ret .non) .nil))))
def d3 : Pa.Df := ⟨2, 4, b3⟩
def t3 : Pa.DfT := ⟨"next_place", "next_place", top 4, ["track", "place", "turns", "back"], 2⟩
/-- 4: go_ons -/
def b4 : Pa.Sms := (.cons (.asg (.v 4) (.call 3 (.cons (.v 1) (.cons (.v 2) .nil)))) (.cons (.ife (.isN (.v 4)) (.cons (.ret (.tup .nil)) .nil) .nil) (.cons (.asg (.v 5) (.call 2 (.cons (.v 0) (.cons (.ix (.ix (.v 1) (.int 0)) (.v 2)) (.cons (.v 3) .nil))))) (.cons (.ret (.b1 .tuple (.lc (.tup (.cons (.v 6) (.cons (.v 7) .nil))) (.ex (.v 5)) .nil (.tup (.cons (.v 4) (.cons (.v 6) (.cons (.v 7) .nil)))) [6, 7]))) .nil))))
def d4 : Pa.Df := ⟨4, 8, b4⟩
def t4 : Pa.DfT := ⟨"go_ons", "go_ons", top 5, ["claim", "track", "place", "counts", "following", "moves", "behind", "number"], 4⟩
/-- 5: counted_rows -/
def b5 : Pa.Sms := (.cons (.asg (.v 2) (.new 0 (.cons (.v 0) .nil))) (.cons (.for (.v 3) (.ex (.v 1)) (.cons (.ex (.meth (.v 2) 4 (.cons (.v 3) .nil))) .nil)) (.cons (.ret (.meth (.v 2) 5 .nil)) .nil)))
def d5 : Pa.Df := ⟨2, 4, b5⟩
def t5 : Pa.DfT := ⟨"counted_rows", "counted_rows", top 8, ["claim", "turns", "counting", "person"], 2⟩
/-- 6: choice_number -/
def b6 : Pa.Sms := (.cons (.ret (.b1 .sum (.lc (.tup (.cons (.v 2) (.cons (.v 3) .nil))) (.ex (.call 5 (.cons (.v 0) (.cons (.v 1) .nil)))) .nil (.v 3) [2, 3]))) .nil)
def d6 : Pa.Df := ⟨2, 4, b6⟩
def t6 : Pa.DfT := ⟨"choice_number", "choice_number", top 9, ["claim", "turns", "_", "many"], 2⟩
/-- 7: choices_by_tops -/
def b7 : Pa.Sms := (.cons (.asg (.v 2) (.bin .mul (.lst (.cons (.int 0) .nil)) (.bin .add (.b1 .len (.v 1)) (.int 1)))) (.cons (.for (.tup (.cons (.v 3) (.cons (.v 4) .nil))) (.ex (.call 5 (.cons (.v 0) (.cons (.v 1) .nil)))) (.cons (.augI (.v 2) (.ix (.v 3) (.int 0)) .add (.v 4)) .nil)) (.cons (.ret (.b1 .tuple (.v 2))) .nil)))
def d7 : Pa.Df := ⟨2, 5, b7⟩
def t7 : Pa.DfT := ⟨"choices_by_tops", "choices_by_tops", top 10, ["claim", "turns", "found", "key", "many"], 2⟩
/-- 8: number_counts -/
def b8 : Pa.Sms := (.cons (.asg (.v 2) .dct) (.cons (.for (.tup (.cons (.v 3) (.cons (.v 4) .nil))) (.ex (.call 5 (.cons (.v 0) (.cons (.v 1) .nil)))) (.cons (.asgI (.v 2) (.ix (.v 3) (.int 1)) (.bin .add (.m2 .get (.v 2) (.ix (.v 3) (.int 1)) (.int 0)) (.v 4))) .nil)) (.cons (.ret (.b1 .tuple (.sortI (.v 2)))) .nil)))
def d8 : Pa.Df := ⟨2, 5, b8⟩
def t8 : Pa.DfT := ⟨"number_counts", "number_counts", top 11, ["claim", "turns", "found", "key", "many"], 2⟩
/-- 9: bad_number -/
def b9 : Pa.Sms := (.cons (.ret (.b1 .sum (.lc (.tup (.cons (.v 2) (.cons (.v 3) .nil))) (.ex (.call 8 (.cons (.v 0) (.cons (.v 1) .nil)))) (.cons (.cmp .lt (.v 2) (.int 0)) .nil) (.v 3) [2, 3]))) .nil)
def d9 : Pa.Df := ⟨2, 4, b9⟩
def t9 : Pa.DfT := ⟨"bad_number", "bad_number", top 12, ["claim", "turns", "number", "many"], 2⟩
/-- 10: state_key -/
def b10 : Pa.Sms := (.cons (.ret (.bin .add (.tup (.cons (.v 0) .nil)) (.v 1))) .nil)
def d10 : Pa.Df := ⟨2, 2, b10⟩
def t10 : Pa.DfT := ⟨"state_key", "state_key", top 14, ["place", "counts"], 2⟩
/-- 11: reached_states -/
def b11 : Pa.Sms := (.cons (.asg (.v 2) (.lst (.cons (.tup (.cons (.int 0) (.cons (.call 0 (.cons (.v 0) .nil)) .nil))) .nil))) (.cons (.asg (.v 3) .dct) (.cons (.asgI (.v 3) (.call 10 (.cons (.int 0) (.cons (.call 0 (.cons (.v 0) .nil)) .nil))) (.bl true)) (.cons (.asg (.v 4) (.int 0)) (.cons (.whl (.cmp .lt (.v 4) (.b1 .len (.v 2))) (.cons (.for (.tup (.cons (.v 5) (.cons (.v 6) (.cons (.v 7) .nil)))) (.ex (.call 4 (.cons (.v 0) (.cons (.v 1) (.cons (.ix (.ix (.v 2) (.v 4)) (.int 0)) (.cons (.ix (.ix (.v 2) (.v 4)) (.int 1)) .nil)))))) (.cons (.ife (.cmp .nin (.call 10 (.cons (.v 5) (.cons (.v 6) .nil))) (.v 3)) (.cons (.asgI (.v 3) (.call 10 (.cons (.v 5) (.cons (.v 6) .nil))) (.bl true)) (.cons (.ex (.m1 .append (.v 2) (.tup (.cons (.v 5) (.cons (.v 6) .nil))))) .nil)) .nil) .nil)) (.cons (.aug 4 .add (.int 1)) .nil))) (.cons (.ret (.v 2)) .nil))))))
def d11 : Pa.Df := ⟨2, 8, b11⟩
def t11 : Pa.DfT := ⟨"reached_states", "reached_states", top 15, ["claim", "track", "found", "seen", "at", "place", "counts", "_"], 2⟩
/-- 12: lowered -/
def b12 : Pa.Sms := (.cons (.asg (.v 4) (.lst (.cons (.int 0) .nil))) (.cons (.for (.tup (.cons (.v 5) (.cons (.v 6) (.cons (.v 7) .nil)))) (.ex (.call 4 (.cons (.v 0) (.cons (.v 1) (.cons (.ix (.v 3) (.int 0)) (.cons (.ix (.v 3) (.int 1)) .nil)))))) (.cons (.ex (.m1 .append (.v 4) (.bin .add (.v 7) (.ix (.v 2) (.call 10 (.cons (.v 5) (.cons (.v 6) .nil))))))) .nil)) (.cons (.ret (.b1 .min (.v 4))) .nil)))
def d12 : Pa.Df := ⟨4, 8, b12⟩
def t12 : Pa.DfT := ⟨"lowered", "lowered", top 16, ["claim", "track", "table", "state", "found", "place", "counts", "number"], 4⟩
/-- 13: lower_all -/
def b13 : Pa.Sms := (.cons (.asg (.v 4) (.bl false)) (.cons (.for (.tup (.cons (.v 5) (.cons (.v 6) .nil))) (.rev (.v 3)) (.cons (.asg (.v 7) (.call 12 (.cons (.v 0) (.cons (.v 1) (.cons (.v 2) (.cons (.tup (.cons (.v 5) (.cons (.v 6) .nil))) .nil)))))) (.cons (.asg (.v 4) (.or (.v 4) (.cmp .lt (.v 7) (.ix (.v 2) (.call 10 (.cons (.v 5) (.cons (.v 6) .nil))))))) (.cons (.asgI (.v 2) (.call 10 (.cons (.v 5) (.cons (.v 6) .nil))) (.v 7)) .nil)))) (.cons (.ret (.v 4)) .nil)))
def d13 : Pa.Df := ⟨4, 8, b13⟩
def t13 : Pa.DfT := ⟨"lower_all", "lower_all", top 17, ["claim", "track", "table", "states", "changed", "place", "counts", "least"], 4⟩
/-- 14: states_by_counts -/
def b14 : Pa.Sms := (.cons (.asg (.v 1) .dct) (.cons (.for (.tup (.cons (.v 3) (.cons (.v 4) .nil))) (.ex (.b1 .sorted (.v 0))) (.cons (.ex (.m1 .append (.m2 .setdefault (.v 1) (.v 4) (.lst .nil)) (.tup (.cons (.v 3) (.cons (.v 4) .nil))))) .nil)) (.cons (.asg (.v 2) (.b1 .sorted (.lcD (.v 4) false (.v 1) .nil (.tup (.cons (.b1 .sum (.v 4)) (.cons (.v 4) .nil))) [4]))) (.cons (.ret (.lc (.tup (.cons (.v 5) (.cons (.v 4) .nil))) (.rev (.v 2)) .nil (.ix (.v 1) (.v 4)) [4, 5])) .nil))))
def d14 : Pa.Df := ⟨1, 6, b14⟩
def t14 : Pa.DfT := ⟨"states_by_counts", "states_by_counts", top 18, ["states", "found", "rows", "place", "counts", "_"], 1⟩
/-- 15: is_settled_by -/
def b15 : Pa.Sms := (.cons (.for (.v 4) (.rng1 (.int 3)) (.cons (.ife (.not (.call 13 (.cons (.v 0) (.cons (.v 1) (.cons (.v 2) (.cons (.v 3) .nil)))))) (.cons (.ret (.bl true)) .nil) .nil) .nil)) (.cons (.ret (.bl false)) .nil))
def d15 : Pa.Df := ⟨4, 5, b15⟩
def t15 : Pa.DfT := ⟨"is_settled_by", "is_settled_by", top 19, ["claim", "track", "table", "states", "_"], 4⟩
/-- 16: least_table -/
def b16 : Pa.Sms := (.cons (.asg (.v 2) (.call 11 (.cons (.v 0) (.cons (.v 1) .nil)))) (.cons (.asg (.v 3) (.b1 .dict (.lc (.tup (.cons (.v 5) (.cons (.v 6) .nil))) (.ex (.v 2)) .nil (.tup (.cons (.call 10 (.cons (.v 5) (.cons (.v 6) .nil))) (.cons (.int 0) .nil))) [5, 6]))) (.cons (.for (.v 4) (.ex (.call 14 (.cons (.v 2) .nil))) (.cons (.ife (.not (.call 15 (.cons (.v 0) (.cons (.v 1) (.cons (.v 3) (.cons (.v 4) .nil)))))) (.cons (.ret .non) .nil) .nil) .nil)) (.cons (.ret (.v 3)) .nil))))
def d16 : Pa.Df := ⟨2, 7, b16⟩
def t16 : Pa.DfT := ⟨"least_table", "least_table", top 20, ["claim", "track", "states", "table", "rows", "place", "counts"], 2⟩
/-- 17: turns_track -/
def b17 : Pa.Sms := (.cons (.ret (.tup (.cons (.v 0) (.cons .non .nil)))) .nil)
def d17 : Pa.Df := ⟨1, 1, b17⟩
def t17 : Pa.DfT := ⟨"turns_track", "turns_track", top 22, ["turns"], 1⟩
/-- 18: counted_number -/
def b18 : Pa.Sms := (.cons (.asg (.v 3) (.call 0 (.cons (.v 0) .nil))) (.cons (.asg (.v 4) (.int 0)) (.cons (.for (.tup (.cons (.v 5) (.cons (.v 6) .nil))) (.zip (.v 1) (.v 2)) (.cons (.ife (.v 6) (.cons (.asg (.tup (.cons (.v 3) (.cons (.v 7) .nil))) (.call 1 (.cons (.v 0) (.cons (.v 3) (.cons (.v 5) .nil))))) (.cons (.aug 4 .add (.v 7)) .nil)) .nil) .nil)) (.cons (.ret (.v 4)) .nil))))
def d18 : Pa.Df := ⟨3, 8, b18⟩
def t18 : Pa.DfT := ⟨"counted_number", "counted_number", top 24, ["claim", "turns", "choices", "counts", "found", "person", "top", "number"], 3⟩
/-- 19: is_choice -/
def b19 : Pa.Sms := (.cons (.ife (.or (.not (.isi (.v 2) .tup)) (.cmp .ne (.b1 .len (.v 2)) (.b1 .len (.v 1)))) (.cons (.ret (.bl false)) .nil) .nil) (.cons (.ife (.cmp .gt (.b1 .len (.lc (.v 4) (.ex (.v 2)) (.cons (.not (.isi (.v 4) .bool)) .nil) (.v 4) [4])) (.int 0)) (.cons (.ret (.bl false)) .nil) .nil) (.cons (.asg (.v 3) (.call 20 (.cons (.v 2) .nil))) (.cons (.ife (.isN (.v 3)) (.cons (.ret (.bl true)) .nil) .nil) (.cons (.ret (.cmp .eq (.b1 .len (.lc (.v 5) (.rng1 (.v 3)) (.cons (.and (.cmp .eq (.ix (.v 1) (.v 5)) (.ix (.v 0) (.int 0))) (.not (.ix (.v 2) (.v 5)))) .nil) (.v 5) [5])) (.int 0))) .nil)))))
def d19 : Pa.Df := ⟨3, 6, b19⟩
def t19 : Pa.DfT := ⟨"is_choice", "is_choice", top 25, ["claim", "turns", "thing", "last", "one", "at"], 3⟩
/-- 20: last_top -/
def b20 : Pa.Sms := (.cons (.asg (.v 1) (.lc (.tup (.cons (.v 2) (.cons (.v 3) .nil))) (.enum (.v 0)) (.cons (.v 3) .nil) (.v 2) [2, 3])) (.cons (.ret (.ife (.cmp .gt (.b1 .len (.v 1)) (.int 0)) (.ix (.v 1) (.bin .sub (.b1 .len (.v 1)) (.int 1))) .non)) .nil))
def d20 : Pa.Df := ⟨1, 4, b20⟩
def t20 : Pa.DfT := ⟨"last_top", "last_top", top 26, ["choices", "tops", "at", "top"], 1⟩
/-- 21: all_choices -/
def b21 : Pa.Sms := (.cons (.asg (.v 2) (.lst (.cons (.tup .nil) .nil))) (.cons (.for (.v 3) (.ex (.v 1)) (.cons (.asg (.v 2) (.lc2 (.v 4) (.ex (.v 2)) .nil (.v 5) (.ex (.tup (.cons (.bl false) (.cons (.bl true) .nil)))) .nil (.bin .add (.v 4) (.tup (.cons (.v 5) .nil))) [4, 5] [5])) .nil)) (.cons (.ret (.b1 .tuple (.lc (.v 4) (.ex (.v 2)) (.cons (.call 19 (.cons (.v 0) (.cons (.v 1) (.cons (.v 4) .nil)))) .nil) (.v 4) [4]))) .nil)))
def d21 : Pa.Df := ⟨2, 6, b21⟩
def t21 : Pa.DfT := ⟨"all_choices", "all_choices", top 27, ["claim", "turns", "found", "_", "row", "top"], 2⟩
/-- 22: least_counted -/
def b22 : Pa.Sms := (.cons (.ret (.ix (.call 16 (.cons (.v 0) (.cons (.call 17 (.cons (.v 1) .nil)) .nil))) (.bin .add (.tup (.cons (.int 0) .nil)) (.call 0 (.cons (.v 0) .nil))))) .nil)
def d22 : Pa.Df := ⟨2, 2, b22⟩
def t22 : Pa.DfT := ⟨"least_counted", "least_counted", top 28, ["claim", "turns"], 2⟩
/-- 23: holds_for -/
def b23 : Pa.Sms := (.cons (.ret (.cmp .eq (.ix (.call 16 (.cons (.v 0) (.cons (.call 17 (.cons (.v 1) .nil)) .nil))) (.bin .add (.tup (.cons (.int 0) .nil)) (.call 0 (.cons (.v 0) .nil)))) (.int 0))) .nil)
def d23 : Pa.Df := ⟨2, 2, b23⟩
def t23 : Pa.DfT := ⟨"holds_for", "holds_for", top 30, ["claim", "turns"], 2⟩
/-- 24: _law_jar -/
def b24 : Pa.Sms := (.cons (.asg (.v 1) (.lst (.cons (.int 0) (.cons (.int 6653) .nil)))) (.cons (.for (.v 2) (.rng1 (.b1 .len (.v 0))) (.cons (.asg (.v 3) (.bin .mod (.b1 .abs (.b1 .int (.ix (.v 0) (.v 2)))) (.bin .shl (.int 1) (.int 2000)))) (.cons (.asgI (.v 1) (.int 1) (.bin .mod (.b1 .int (.bin .add (.bin .add (.bin .mul (.ix (.v 1) (.int 1)) (.int 797)) (.v 3)) (.bin .mul (.int 101) (.v 2)))) (.int 32452843))) (.cons (.ife (.cmp .lt (.v 3) (.bin .pow (.int 10) (.int 18))) (.cons (.asg (.v 5) (.bin .mod (.b1 .int (.bin .add (.bin .add (.bin .mul (.v 3) (.int 7411)) (.bin .mul (.int 4507) (.v 2))) (.int 19))) (.int 32452843))) (.cons (.ex (.m1 .append (.v 1) (.bin .fdiv (.bin .mod (.b1 .int (.bin .add (.bin .mul (.v 5) (.v 5)) (.bin .mul (.int 61) (.v 5)))) (.int 32452843)) (.int 7)))) (.cons .cnt .nil))) .nil) (.cons (.for (.v 4) (.rng1 (.int 60)) (.cons (.ife (.cmp .eq (.v 3) (.int 0)) (.cons .brk .nil) .nil) (.cons (.ex (.m1 .append (.v 1) (.bin .mod (.b1 .int (.v 3)) (.int 10253)))) (.cons (.asg (.v 3) (.bin .fdiv (.v 3) (.int 10253))) .nil)))) .nil))))) (.cons (.ret (.v 1)) .nil)))
def d24 : Pa.Df := ⟨1, 6, b24⟩
def t24 : Pa.DfT := ⟨"_law_jar", "_law_jar", top 32, ["script", "jar", "k", "cell", "turn", "mixed"], 1⟩
/-- 25: _law_draw -/
def b25 : Pa.Sms := (.cons (.asg (.v 2) (.ix (.v 0) (.int 0))) (.cons (.asgI (.v 0) (.int 0) (.bin .add (.v 2) (.int 1))) (.cons (.ife (.cmp .lt (.bin .add (.v 2) (.int 2)) (.b1 .len (.v 0))) (.cons (.ret (.bin .mod (.b1 .int (.ix (.v 0) (.bin .add (.v 2) (.int 2)))) (.v 1))) .nil) .nil) (.cons (.asg (.v 3) (.bin .mod (.b1 .int (.bin .add (.ix (.v 0) (.int 1)) (.bin .mul (.int 66029) (.v 2)))) (.int 32452843))) (.cons (.asg (.v 3) (.bin .mod (.b1 .int (.bin .add (.bin .add (.bin .mul (.v 3) (.v 3)) (.bin .mul (.int 8219) (.v 2))) (.int 23))) (.int 49979687))) (.cons (.ret (.bin .mod (.bin .fdiv (.bin .mod (.b1 .int (.bin .add (.bin .mul (.v 3) (.int 1801)) (.v 2))) (.int 49979687)) (.int 11)) (.v 1))) .nil))))))
def d25 : Pa.Df := ⟨2, 4, b25⟩
def t25 : Pa.DfT := ⟨"_law_draw", "_law_draw", top 33, ["jar", "many", "turn", "mixed"], 2⟩
/-- 26: _law_same -/
def b26 : Pa.Sms := (.cons (.asg (.v 2) (.lst (.cons (.tup (.cons (.v 0) (.cons (.v 1) .nil))) .nil))) (.cons (.for (.v 3) (.rng1 (.int 400000)) (.cons (.ife (.cmp .eq (.v 2) (.lst .nil)) (.cons (.ret (.bl true)) .nil) .nil) (.cons (.asg (.tup (.cons (.v 4) (.cons (.v 5) .nil))) (.m0 .pop (.v 2))) (.cons (.ife (.isN (.v 5)) (.cons (.ife (.notN (.v 4)) (.cons (.ret (.bl false)) .nil) .nil) (.cons .cnt .nil)) .nil) (.cons (.ife (.or (.isi (.v 5) .tup) (.isi (.v 5) .lst)) (.cons (.ife (.or (.and (.isi (.v 5) .tup) (.not (.isi (.v 4) .tup))) (.and (.isi (.v 5) .lst) (.not (.isi (.v 4) .lst)))) (.cons (.ret (.bl false)) .nil) .nil) (.cons (.ife (.cmp .ne (.b1 .len (.v 4)) (.b1 .len (.v 5))) (.cons (.ret (.bl false)) .nil) .nil) (.cons (.ex (.m1 .extend (.v 2) (.lc (.v 6) (.rng1 (.b1 .len (.v 5))) .nil (.tup (.cons (.ix (.v 4) (.v 6)) (.cons (.ix (.v 5) (.v 6)) .nil))) [6]))) (.cons .cnt .nil)))) .nil) (.cons (.ife (.or (.isi (.v 5) .bool) (.isi (.v 4) .bool)) (.cons (.ife (.or (.not (.isi (.v 5) .bool)) (.or (.not (.isi (.v 4) .bool)) (.cmp .ne (.v 4) (.v 5)))) (.cons (.ret (.bl false)) .nil) .nil) .nil) (.cons (.ife (.or (.and (.isi (.v 5) .int) (.not (.isi (.v 4) .int))) (.and (.isi (.v 5) .str) (.not (.isi (.v 4) .str)))) (.cons (.ret (.bl false)) .nil) (.cons (.ife (.cmp .ne (.v 4) (.v 5)) (.cons (.ret (.bl false)) .nil) .nil) .nil)) .nil)) .nil)))))) (.cons (.ret (.bl false)) .nil)))
def d26 : Pa.Df := ⟨2, 7, b26⟩
def t26 : Pa.DfT := ⟨"_law_same", "_law_same", top 34, ["told", "due", "stack", "turn", "one", "other", "k"], 2⟩
/-- 27: _law_claim -/
def b27 : Pa.Sms := (.cons (.asg (.v 2) (.lst .nil)) (.cons (.asg (.v 3) (.int 64)) (.cons (.for (.v 4) (.rng1 (.bin .add (.int 1) (.call 25 (.cons (.v 0) (.cons (.int 4) .nil))))) (.cons (.asg (.v 5) (.call 25 (.cons (.v 0) (.cons (.v 1) .nil)))) (.cons (.asg (.v 6) (.call 25 (.cons (.v 0) (.cons (.int 4) .nil)))) (.cons (.ife (.or (.cmp .ge (.v 6) (.v 3)) (.cmp .ne (.lc (.v 8) (.ex (.v 2)) (.cons (.and (.cmp .eq (.ix (.v 8) (.int 0)) (.v 5)) (.cmp .eq (.ix (.v 8) (.int 1)) (.v 6))) .nil) (.v 8) [8]) (.lst .nil))) (.cons (.asg (.v 6) (.int 0)) .nil) .nil) (.cons (.ife (.cmp .ne (.lc (.v 8) (.ex (.v 2)) (.cons (.and (.cmp .eq (.ix (.v 8) (.int 0)) (.v 5)) (.cmp .eq (.ix (.v 8) (.int 1)) (.v 6))) .nil) (.v 8) [8]) (.lst .nil)) (.cons .cnt .nil) .nil) (.cons (.asg (.v 3) (.bin .fdiv (.v 3) (.bin .add (.v 6) (.int 1)))) (.cons (.asg (.v 7) (.bin .add (.int 1) (.call 25 (.cons (.v 0) (.cons (.ix (.lst (.cons (.int 3) (.cons (.int 3) (.cons (.int 99) .nil)))) (.call 25 (.cons (.v 0) (.cons (.int 3) .nil)))) .nil))))) (.cons (.ex (.m1 .append (.v 2) (.tup (.cons (.v 5) (.cons (.v 6) (.cons (.ix (.lst (.cons (.v 7) (.cons (.bin .sub (.int 0) (.v 7)) .nil))) (.call 25 (.cons (.v 0) (.cons (.int 2) .nil)))) .nil)))))) .nil)))))))) (.cons (.ret (.tup (.cons (.call 25 (.cons (.v 0) (.cons (.v 1) .nil))) (.cons (.b1 .tuple (.b1 .sorted (.v 2))) .nil)))) .nil))))
def d27 : Pa.Df := ⟨2, 9, b27⟩
def t27 : Pa.DfT := ⟨"_law_claim", "_law_claim", top 35, ["jar", "persons", "terms", "left", "turn", "other", "without", "number", "term"], 2⟩
/-- 28: _law_choices -/
def b28 : Pa.Sms := (.cons (.asg (.v 2) (.lst (.cons (.tup .nil) .nil))) (.cons (.asg (.v 3) (.lst (.cons (.b1 .tuple (.lc (.v 8) (.ex (.v 1)) .nil (.bl false) [8])) .nil))) (.cons (.for (.v 4) (.rng1 (.b1 .len (.v 1))) (.cons (.asg (.v 5) (.b1 .tuple (.lc (.v 8) (.ex (.slL (.v 1) (.bin .add (.v 4) (.int 1)))) .nil (.bl false) [8]))) (.cons (.asg (.v 6) (.lc (.v 7) (.ex (.v 2)) .nil (.bin .add (.v 7) (.tup (.cons (.bl true) .nil))) [7])) (.cons (.ex (.m1 .extend (.v 3) (.lc (.v 7) (.ex (.v 6)) .nil (.bin .add (.v 7) (.v 5)) [7]))) (.cons (.asg (.v 2) (.bin .add (.v 6) (.lc (.v 7) (.ex (.v 2)) (.cons (.cmp .ne (.ix (.v 1) (.v 4)) (.v 0)) .nil) (.bin .add (.v 7) (.tup (.cons (.bl false) .nil))) [7]))) .nil))))) (.cons (.ret (.b1 .sorted (.v 3))) .nil))))
def d28 : Pa.Df := ⟨2, 9, b28⟩
def t28 : Pa.DfT := ⟨"_law_choices", "_law_choices", top 36, ["person", "turns", "live", "told", "k", "rest", "tops", "some", "turn"], 2⟩
/-- 29: _law_counted -/
def b29 : Pa.Sms := (.cons (.asg (.v 3) (.lst (.cons (.int 0) (.cons (.int 0) (.cons (.int 0) (.cons (.int 0) (.cons (.int 0) .nil))))))) (.cons (.for (.v 4) (.rng1 (.b1 .len (.v 1))) (.cons (.asgI (.v 3) (.ix (.v 1) (.v 4)) (.bin .add (.ix (.v 3) (.ix (.v 1) (.v 4))) (.b1 .int (.ix (.v 2) (.v 4))))) .nil)) (.cons (.ret (.b1 .sum (.lc (.v 5) (.ex (.ix (.v 0) (.int 1))) .nil (.bin .mul (.ix (.v 5) (.int 2)) (.b2 .max (.int 0) (.bin .sub (.ix (.v 3) (.ix (.v 5) (.int 0))) (.ix (.v 5) (.int 1))))) [5]))) .nil)))
def d29 : Pa.Df := ⟨3, 6, b29⟩
def t29 : Pa.DfT := ⟨"_law_counted", "_law_counted", top 37, ["claim", "turns", "choices", "tops", "k", "term"], 3⟩
/-- 30: _law_is_choice -/
def b30 : Pa.Sms := (.cons (.ife (.or (.not (.isi (.v 2) .tup)) (.cmp .ne (.b1 .len (.v 2)) (.b1 .len (.v 1)))) (.cons (.ret (.bl false)) .nil) .nil) (.cons (.for (.v 3) (.ex (.v 2)) (.cons (.ife (.not (.isi (.v 3) .bool)) (.cons (.ret (.bl false)) .nil) .nil) .nil)) (.cons (.asg (.v 4) (.bl false)) (.cons (.for (.v 5) (.rng1 (.b1 .len (.v 1))) (.cons (.asg (.v 6) (.bin .sub (.bin .sub (.b1 .len (.v 1)) (.int 1)) (.v 5))) (.cons (.ife (.and (.v 4) (.and (.cmp .eq (.ix (.v 1) (.v 6)) (.v 0)) (.not (.ix (.v 2) (.v 6))))) (.cons (.ret (.bl false)) .nil) .nil) (.cons (.asg (.v 4) (.or (.v 4) (.ix (.v 2) (.v 6)))) .nil)))) (.cons (.ret (.bl true)) .nil)))))
def d30 : Pa.Df := ⟨3, 7, b30⟩
def t30 : Pa.DfT := ⟨"_law_is_choice", "_law_is_choice", top 38, ["person", "turns", "thing", "top", "behind", "k", "at"], 3⟩
/-- 31: _law_bent -/
def b31 : Pa.Sms := (.cons (.asg (.v 3) (.b1 .list (.v 2))) (.cons (.asg (.v 4) (.call 25 (.cons (.v 0) (.cons (.int 7) .nil)))) (.cons (.ife (.cmp .eq (.v 4) (.int 0)) (.cons (.ret (.v 3)) .nil) .nil) (.cons (.ife (.cmp .eq (.v 4) (.int 1)) (.cons (.ret (.b1 .tuple (.bin .add (.v 3) (.lst (.cons (.ix (.lst (.cons (.bl false) (.cons (.bl true) .nil))) (.call 25 (.cons (.v 0) (.cons (.int 2) .nil)))) .nil))))) .nil) .nil) (.cons (.ife (.cmp .eq (.v 4) (.int 2)) (.cons (.ret (.b1 .tuple (.lc (.v 6) (.ex (.v 3)) .nil (.b1 .int (.v 6)) [6]))) .nil) .nil) (.cons (.ife (.cmp .eq (.v 4) (.int 3)) (.cons (.ret (.ix (.lst (.cons .non (.cons (.bl true) (.cons (.tup .nil) (.cons (.int 0) (.cons (.str "TF") (.cons (.b1 .tuple (.slU (.v 3) (.bin .sub (.b1 .len (.v 3)) (.int 1)))) .nil))))))) (.call 25 (.cons (.v 0) (.cons (.int 6) .nil))))) .nil) .nil) (.cons (.ife (.cmp .ne (.v 3) (.lst .nil)) (.cons (.asg (.v 5) (.call 25 (.cons (.v 0) (.cons (.b1 .len (.v 3)) .nil)))) (.cons (.asgI (.v 3) (.v 5) (.ix (.lst (.cons (.not (.ix (.v 3) (.v 5))) (.cons (.ix (.lst (.cons (.int 0) (.cons (.int 1) (.cons .non (.cons (.str "1") .nil))))) (.call 25 (.cons (.v 0) (.cons (.int 4) .nil)))) .nil))) (.b1 .int (.cmp .eq (.v 4) (.int 4))))) .nil)) .nil) (.cons (.ret (.b1 .tuple (.v 3))) .nil))))))))
def d31 : Pa.Df := ⟨3, 7, b31⟩
def t31 : Pa.DfT := ⟨"_law_bent", "_law_bent", top 39, ["jar", "turns", "choices", "row", "form", "place", "top"], 3⟩
/-- 32: _law_asked -/
def b32 : Pa.Sms := (.cons (.asg (.v 3) (.ix (.v 1) (.int 0))) (.cons (.asg (.v 4) (.call 28 (.cons (.v 3) (.cons (.v 2) .nil)))) (.cons (.asg (.v 5) (.lc (.v 14) (.ex (.v 4)) .nil (.call 29 (.cons (.v 1) (.cons (.v 2) (.cons (.v 14) .nil)))) [14])) (.cons (.asg (.v 6) (.lc (.v 8) (.rng1 (.bin .add (.b1 .len (.v 2)) (.int 1))) .nil (.int 0) [8])) (.cons (.asg (.v 7) .dct) (.cons (.for (.v 8) (.rng1 (.b1 .len (.v 4))) (.cons (.augI (.v 6) (.b1 .len (.lc (.v 17) (.ex (.ix (.v 4) (.v 8))) (.cons (.v 17) .nil) (.v 17) [17])) .add (.int 1)) (.cons (.ife (.cmp .nin (.ix (.v 5) (.v 8)) (.v 7)) (.cons (.asgI (.v 7) (.ix (.v 5) (.v 8)) (.int 0)) .nil) .nil) (.cons (.augI (.v 7) (.ix (.v 5) (.v 8)) .add (.int 1)) .nil)))) (.cons (.asg (.v 9) (.b1 .len (.lc (.v 15) (.ex (.v 5)) (.cons (.cmp .lt (.v 15) (.int 0)) .nil) (.v 15) [15]))) (.cons (.asg (.v 10) (.b1 .tuple (.lc (.v 15) (.ex (.b1 .sorted (.m0 .keys (.v 7)))) .nil (.tup (.cons (.v 15) (.cons (.ix (.v 7) (.v 15)) .nil))) [15]))) (.cons (.ife (.or (.not (.call 26 (.cons (.call 21 (.cons (.v 1) (.cons (.v 2) .nil))) (.cons (.b1 .tuple (.v 4)) .nil)))) (.not (.call 26 (.cons (.call 6 (.cons (.v 1) (.cons (.v 2) .nil))) (.cons (.b1 .len (.v 4)) .nil))))) (.cons (.ret (.bl false)) .nil) .nil) (.cons (.ife (.or (.not (.call 26 (.cons (.call 7 (.cons (.v 1) (.cons (.v 2) .nil))) (.cons (.b1 .tuple (.v 6)) .nil)))) (.not (.call 26 (.cons (.call 9 (.cons (.v 1) (.cons (.v 2) .nil))) (.cons (.v 9) .nil))))) (.cons (.ret (.bl false)) .nil) .nil) (.cons (.ife (.or (.not (.call 26 (.cons (.call 8 (.cons (.v 1) (.cons (.v 2) .nil))) (.cons (.v 10) .nil)))) (.not (.call 26 (.cons (.call 22 (.cons (.v 1) (.cons (.v 2) .nil))) (.cons (.b1 .min (.v 5)) .nil))))) (.cons (.ret (.bl false)) .nil) .nil) (.cons (.ife (.not (.call 26 (.cons (.call 23 (.cons (.v 1) (.cons (.v 2) .nil))) (.cons (.cmp .eq (.v 9) (.int 0)) .nil)))) (.cons (.ret (.bl false)) .nil) .nil) (.cons (.for (.v 11) (.rng1 (.int 6)) (.cons (.asg (.v 8) (.call 25 (.cons (.v 0) (.cons (.b1 .len (.v 4)) .nil)))) (.cons (.ife (.not (.call 26 (.cons (.call 18 (.cons (.v 1) (.cons (.v 2) (.cons (.ix (.v 4) (.v 8)) .nil)))) (.cons (.ix (.v 5) (.v 8)) .nil)))) (.cons (.ret (.bl false)) .nil) .nil) (.cons (.asg (.v 12) (.lc (.v 16) (.rng1 (.b1 .len (.v 2))) (.cons (.ix (.ix (.v 4) (.v 8)) (.v 16)) .nil) (.v 16) [16])) (.cons (.ife (.not (.call 26 (.cons (.call 20 (.cons (.ix (.v 4) (.v 8)) .nil)) (.cons (.ix (.bin .add (.slL (.v 12) (.bin .sub (.b1 .len (.v 12)) (.int 1))) (.lst (.cons .non .nil))) (.int 0)) .nil)))) (.cons (.ret (.bl false)) .nil) .nil) (.cons (.asg (.v 13) (.ix (.lst (.cons (.ix (.v 4) (.v 8)) (.cons (.call 31 (.cons (.v 0) (.cons (.v 2) (.cons (.ix (.v 4) (.v 8)) .nil)))) .nil))) (.b1 .int (.cmp .gt (.v 11) (.int 0))))) (.cons (.ife (.not (.call 26 (.cons (.call 19 (.cons (.v 1) (.cons (.v 2) (.cons (.v 13) .nil)))) (.cons (.call 30 (.cons (.v 3) (.cons (.v 2) (.cons (.v 13) .nil)))) .nil)))) (.cons (.ret (.bl false)) .nil) .nil) .nil))))))) (.cons (.ret (.bl true)) .nil))))))))))))))
def d32 : Pa.Df := ⟨3, 18, b32⟩
def t32 : Pa.DfT := ⟨"_law_asked", "_law_asked", top 40, ["jar", "claim", "turns", "person", "every", "numbers", "by_tops", "table", "k", "bad", "pairs", "turn", "tops", "thing", "choices", "number", "place", "top"], 3⟩
/-- 33: law -/
def b33 : Pa.Sms := (.cons (.asg (.v 1) (.call 24 (.cons (.v 0) .nil))) (.cons (.for (.v 2) (.rng1 (.int 5)) (.cons (.asg (.v 6) (.bin .add (.int 2) (.call 25 (.cons (.v 1) (.cons (.int 4) .nil))))) (.cons (.asg (.v 5) (.b1 .tuple (.lc (.v 7) (.rng1 (.call 25 (.cons (.v 1) (.cons (.int 9) .nil)))) .nil (.call 25 (.cons (.v 1) (.cons (.v 6) .nil))) [7]))) (.cons (.ife (.not (.call 32 (.cons (.v 1) (.cons (.call 27 (.cons (.v 1) (.cons (.v 6) .nil))) (.cons (.v 5) .nil))))) (.cons (.ret (.bl false)) .nil) .nil) .nil)))) (.cons (.asg (.v 3) (.call 25 (.cons (.v 1) (.cons (.int 2) .nil)))) (.cons (.asg (.v 4) (.tup (.cons (.v 3) (.cons (.b1 .tuple (.b1 .sorted (.lst (.cons (.tup (.cons (.v 3) (.cons (.int 0) (.cons (.int 1) .nil)))) (.cons (.tup (.cons (.bin .sub (.int 1) (.v 3)) (.cons (.int 0) (.cons (.neg (.int 1)) .nil)))) .nil))))) .nil)))) (.cons (.for (.v 5) (.ex (.lst (.cons (.tup (.cons (.v 3) (.cons (.bin .sub (.int 1) (.v 3)) (.cons (.v 3) (.cons (.bin .sub (.int 1) (.v 3)) .nil))))) (.cons (.tup (.cons (.bin .sub (.int 1) (.v 3)) (.cons (.v 3) .nil))) (.cons (.tup (.cons (.bin .sub (.int 1) (.v 3)) .nil)) .nil))))) (.cons (.ife (.not (.call 32 (.cons (.v 1) (.cons (.v 4) (.cons (.v 5) .nil))))) (.cons (.ret (.bl false)) .nil) .nil) .nil)) (.cons (.ife (.or (.cmp .ne (.call 9 (.cons (.v 4) (.cons (.tup (.cons (.v 3) (.cons (.bin .sub (.int 1) (.v 3)) .nil))) .nil))) (.int 0)) (.cmp .lt (.call 9 (.cons (.v 4) (.cons (.tup (.cons (.bin .sub (.int 1) (.v 3)) (.cons (.v 3) .nil))) .nil))) (.int 1))) (.cons (.ret (.bl false)) .nil) .nil) (.cons (.ife (.cmp .eq (.call 25 (.cons (.v 1) (.cons (.int 7) .nil))) (.int 5)) (.cons (.asg (.v 5) (.b1 .tuple (.lc (.v 7) (.rng1 (.bin .add (.int 10) (.call 25 (.cons (.v 1) (.cons (.int 3) .nil))))) .nil (.call 25 (.cons (.v 1) (.cons (.int 3) .nil))) [7]))) (.cons (.ret (.call 32 (.cons (.v 1) (.cons (.call 27 (.cons (.v 1) (.cons (.int 3) .nil))) (.cons (.v 5) .nil))))) .nil)) .nil) (.cons (.ret (.bl true)) .nil))))))))
def d33 : Pa.Df := ⟨1, 8, b33⟩
def t33 : Pa.DfT := ⟨"law", "law", top 41, ["script", "jar", "turn", "one", "envy", "turns", "persons", "k"], 1⟩
/-- 34: Counting.__init__ -/
def b34 : Pa.Sms := (.cons (.asgF (.v 0) 0 (.v 1)) (.cons (.asgF (.v 0) 1 .dct) (.cons (.asgI (.fld (.v 0) 1) (.bin .add (.tup (.cons (.int 0) (.cons (.int 0) .nil))) (.call 0 (.cons (.v 1) .nil))) (.int 1)) (.cons (.asgF (.v 0) 2 .dct) .nil))))
def d34 : Pa.Df := ⟨2, 2, b34⟩
def t34 : Pa.DfT := ⟨"__init__", "Counting.__init__", L2.inClass (top 7) 0, ["self", "claim"], 2⟩
/-- 35: Counting.add -/
def b35 : Pa.Sms := (.cons (.asgI (.v 1) (.v 2) (.bin .add (.m2 .get (.v 1) (.v 2) (.int 0)) (.v 3))) .nil)
def d35 : Pa.Df := ⟨4, 4, b35⟩
def t35 : Pa.DfT := ⟨"add", "Counting.add", L2.inClass (top 7) 1, ["self", "rows", "key", "many"], 4⟩
/-- 36: Counting.go -/
def b36 : Pa.Sms := (.cons (.par [2, 3] (.cons .dct (.cons .dct .nil))) (.cons (.forD (.tup (.cons (.v 4) (.cons (.v 5) .nil))) true (.fld (.v 0) 2) (.cons (.ex (.meth (.v 0) 3 (.cons (.v 3) (.cons (.v 4) (.cons (.v 5) .nil))))) .nil)) (.cons (.forD (.tup (.cons (.v 4) (.cons (.v 5) .nil))) true (.fld (.v 0) 1) (.cons (.asg (.tup (.cons (.v 6) (.cons (.v 7) .nil))) (.call 1 (.cons (.fld (.v 0) 0) (.cons (.slL (.v 4) (.int 2)) (.cons (.v 1) .nil))))) (.cons (.ex (.meth (.v 0) 3 (.cons (.v 2) (.cons (.bin .add (.tup (.cons (.bin .add (.ix (.v 4) (.int 0)) (.int 1)) (.cons (.bin .add (.ix (.v 4) (.int 1)) (.v 7)) .nil))) (.v 6)) (.cons (.v 5) .nil))))) (.cons (.ife (.cmp .eq (.v 1) (.ix (.fld (.v 0) 0) (.int 0))) (.cons (.ex (.meth (.v 0) 3 (.cons (.v 3) (.cons (.v 4) (.cons (.v 5) .nil))))) .nil) (.cons (.ex (.meth (.v 0) 3 (.cons (.v 2) (.cons (.v 4) (.cons (.v 5) .nil))))) .nil)) .nil)))) (.cons (.parF (.v 0) 1 2 (.v 2) (.v 3)) .nil))))
def d36 : Pa.Df := ⟨2, 8, b36⟩
def t36 : Pa.DfT := ⟨"go", "Counting.go", L2.inClass (top 7) 2, ["self", "person", "going", "over", "key", "many", "counts", "number"], 2⟩
/-- 37: Counting.rows -/
def b37 : Pa.Sms := (.cons (.ret (.bin .add (.m0 .items (.fld (.v 0) 1)) (.m0 .items (.fld (.v 0) 2)))) .nil)
def d37 : Pa.Df := ⟨1, 1, b37⟩
def t37 : Pa.DfT := ⟨"rows", "Counting.rows", L2.inClass (top 7) 3, ["self"], 1⟩
def ds : List Pa.DfT := [t0, t1, t2, t3, t4, t5, t6, t7, t8, t9, t10, t11, t12, t13, t14, t15, t16, t17, t18, t19, t20, t21, t22, t23, t24, t25, t26, t27, t28, t29, t30, t31, t32, t33, t34, t35, t36, t37]
def mtl : List (Nat × Nat × Nat) := [(0, 3, 35), (0, 4, 36), (0, 5, 37)]
def fokl : List (Nat × Nat) := [(0, 0), (0, 1), (0, 2)]
def pg : Pa.Pg := ⟨[d0, d1, d2, d3, d4, d5, d6, d7, d8, d9, d10, d11, d12, d13, d14, d15, d16, d17, d18, d19, d20, d21, d22, d23, d24, d25, d26, d27, d28, d29, d30, d31, d32, d33, d34, d35, d36, d37], [34], fun c k => (mtl.find? fun x => x.1 == c && x.2.1 == k).map (·.2.2), fun c k => fokl.contains (c, k)⟩
def tx : Pa.Tx where
  fs := ([Str.ofString "counts_of", Str.ofString "top_taken", Str.ofString "turn_moves", Str.ofString "next_place", Str.ofString "go_ons", Str.ofString "counted_rows", Str.ofString "choice_number", Str.ofString "choices_by_tops", Str.ofString "number_counts", Str.ofString "bad_number", Str.ofString "state_key", Str.ofString "reached_states", Str.ofString "lowered", Str.ofString "lower_all", Str.ofString "states_by_counts", Str.ofString "is_settled_by", Str.ofString "least_table", Str.ofString "turns_track", Str.ofString "counted_number", Str.ofString "is_choice", Str.ofString "last_top", Str.ofString "all_choices", Str.ofString "least_counted", Str.ofString "holds_for", Str.ofString "_law_jar", Str.ofString "_law_draw", Str.ofString "_law_same", Str.ofString "_law_claim", Str.ofString "_law_choices", Str.ofString "_law_counted", Str.ofString "_law_is_choice", Str.ofString "_law_bent", Str.ofString "_law_asked", Str.ofString "law"] : List Str)
  ar := Pa.arOf pg
  cs := ([Str.ofString "Counting"] : List Str)
  car := fun c => ([1] : List Nat).getD c 0
  mar := fun k => ([0, 0, 0, 3, 1, 0] : List Nat).getD k 0
  ks := ([Str.ofString "claim", Str.ofString "going", Str.ofString "over", Str.ofString "add", Str.ofString "go", Str.ofString "rows"] : List Str)
end K98
/-! Pb, part A: plain tools for running Pa texts. No machine here. -/
namespace Pa
noncomputable def newL (pg : Pg) (n : Nat) (c : Nat) (xs : List P) (s : S) : R P := match n with
  | 0 => .bad
  | m + 1 => match pg.inits[c]? with
    | some i => (callN pg m i (.loc s.length :: xs) (s ++ [.ins c []])).bind fun r s' => match r with
      | .non => .ok (.loc s.length) s'
      | _ => .bad
    | none => .bad
noncomputable def envL (pg : Pg) (n : Nat) : Env := ⟨callN pg n, newL pg n, pg.mts, pg.fok⟩
theorem cal {pg : Pg} {n i : Nat} {b : Df} (h : pg.defs[i]? = some b) (xs : List P) (s : S) : callN pg (n + 1) i xs s = run (envL pg n) b xs s := by
  unfold callN
  rw [h]
  rfl
@[simp] theorem envL_cal {pg : Pg} {n : Nat} : (envL pg n).cal = callN pg n := rfl
@[simp] theorem envL_new {pg : Pg} {n : Nat} : (envL pg n).new = newL pg n := rfl
@[simp] theorem envL_mt {pg : Pg} {n : Nat} : (envL pg n).mt = pg.mts := rfl
@[simp] theorem envL_fok {pg : Pg} {n : Nat} : (envL pg n).fok = pg.fok := rfl
theorem gc_same {s : S} {p : P} : gc s (.ok p s) = .ok p s := by
  unfold gc
  dsimp only
  split
  · rw [List.take_length]
  · rfl
theorem take_app (s t : S) : (s ++ t).take s.length = s := by simp
theorem gc_app {s t : S} {p : P} (h : bnd s.length p = true) : gc s (.ok p (s ++ t)) = .ok p s := by
  unfold gc
  dsimp only
  have c : Clean s p (s ++ t) := ⟨h, fun i hi => .inl (List.getElem?_append_left hi)⟩
  rw [if_pos c, take_app]
theorem gc_new {s s' : S} {p : P} (h : bnd s.length p = false) : gc s (.ok p s') = .ok p s' := by
  unfold gc
  dsimp only
  rw [if_neg]
  intro c
  have c1 := c.1
  rw [h] at c1
  cases c1
/-- more of the store, the old unchanged -/
def Grow (s s' : S) : Prop := ∃ t, s' = s ++ t
theorem Grow.refl {s : S} : Grow s s := ⟨[], by simp⟩
theorem Grow.trans {a b c : S} (h : Grow a b) (k : Grow b c) : Grow a c := by
  obtain ⟨t, rfl⟩ := h
  obtain ⟨u, rfl⟩ := k
  exact ⟨t ++ u, by simp⟩
theorem Grow.add {s : S} {t : S} : Grow s (s ++ t) := ⟨t, rfl⟩
theorem Grow.at {s s' : S} (h : Grow s s') {i : Nat} {o : O} (e : s[i]? = some o) : s'[i]? = some o := by
  obtain ⟨t, rfl⟩ := h
  rw [List.getElem?_append_left (List.getElem?_eq_some_iff.mp e).1]
  exact e
theorem Grow.len {s s' : S} (h : Grow s s') : s.length ≤ s'.length := by obtain ⟨t, rfl⟩ := h; simp
/-- a new object is changed: the old stays -/
theorem Grow.set {s s' : S} (h : Grow s s') {i : Nat} {o : O} (hi : s.length ≤ i) : Grow s (s'.set i o) := by
  obtain ⟨t, rfl⟩ := h
  exact ⟨t.set (i - s.length) o, by rw [List.set_append_right _ _ hi]⟩
theorem gc_grow {s s' : S} {p : P} (h : bnd s.length p = true) (g : Grow s s') : gc s (.ok p s') = .ok p s := by
  obtain ⟨t, rfl⟩ := g
  exact gc_app h
theorem forL_run {g : S → Prop} {f : P → Loc → S → R Fl} {xs : List P} {l : Loc} {s : S} (Inv : Nat → Loc → S → Prop) (Post : Fl → S → Prop) (h0 : Inv 0 l s) (hg : ∀ i l s, i ≤ xs.length → Inv i l s → g s)
    (step : ∀ i x l s, xs[i]? = some x → Inv i l s → ∃ fl s', f x l s = .ok fl s' ∧ match fl with
      | .nx l' => Inv (i + 1) l' s'
      | .cnt l' => Inv (i + 1) l' s'
      | .brk l' => Post (.nx l') s'
      | .ret p => Post (.ret p) s') (hd : ∀ l s, Inv xs.length l s → Post (.nx l) s) : ∃ fl s', forL g f xs l s = .ok fl s' ∧ Post fl s' := by
  have key : ∀ (n i : Nat) (l : Loc) (s : S), n = xs.length - i → i ≤ xs.length → Inv i l s → ∃ fl s', forL g f (xs.drop i) l s = .ok fl s' ∧ Post fl s' := by
    intro n
    induction n with
    | zero =>
      intro i l s hn hi iv
      have e : i = xs.length := by omega
      subst e
      rw [List.drop_length]
      unfold forL
      rw [if_pos (hg _ _ _ (Nat.le_refl _) iv)]
      exact ⟨_, _, rfl, hd _ _ iv⟩
    | succ n ih =>
      intro i l s hn hi iv
      have hl : i < xs.length := by omega
      rw [List.drop_eq_getElem_cons hl]
      unfold forL
      rw [if_pos (hg _ _ _ hi iv)]
      obtain ⟨fl, s', e1, e2⟩ := step i xs[i] l s (List.getElem?_eq_getElem hl) iv
      rw [e1, bind_ok]
      cases fl with
      | nx l' => exact ih (i + 1) l' s' (by omega) (by omega) e2
      | cnt l' => exact ih (i + 1) l' s' (by omega) (by omega) e2
      | brk l' => exact ⟨_, _, rfl, e2⟩
      | ret p => exact ⟨_, _, rfl, e2⟩
  have := key xs.length 0 l s (by omega) (Nat.zero_le _) h0
  rwa [List.drop_zero] at this
/-- a for that always goes on -/
theorem forL_all {g : S → Prop} {f : P → Loc → S → R Fl} {xs : List P} {l : Loc} {s : S} (Inv : Nat → Loc → S → Prop) (h0 : Inv 0 l s) (hg : ∀ i l s, i ≤ xs.length → Inv i l s → g s)
    (step : ∀ i x l s, xs[i]? = some x → Inv i l s → ∃ l' s', (f x l s = .ok (.nx l') s' ∨ f x l s = .ok (.cnt l') s') ∧ Inv (i + 1) l' s') : ∃ l' s', forL g f xs l s = .ok (.nx l') s' ∧ Inv xs.length l' s' := by
  obtain ⟨fl, s', e, h⟩ := forL_run Inv (fun fl s' => ∃ l', fl = .nx l' ∧ Inv xs.length l' s') h0 hg (fun i x l s hx iv => by
    obtain ⟨l', s', e, h⟩ := step i x l s hx iv
    rcases e with e | e
    · exact ⟨_, _, e, h⟩
    · exact ⟨_, _, e, h⟩) (fun l s h => ⟨l, rfl, h⟩)
  obtain ⟨l', rfl, h⟩ := h
  exact ⟨l', s', e, h⟩
/-- a comprehension -/
theorem lcL_run {g : S → Prop} {f : P → S → R (Option P)} {xs : List P} {acc : List P} {s : S} (Inv : Nat → List P → S → Prop) (h0 : Inv 0 acc s) (hg : ∀ i acc s, i ≤ xs.length → Inv i acc s → g s)
    (step : ∀ i x acc s, xs[i]? = some x → Inv i acc s → ∃ o s', f x s = .ok o s' ∧ match o with
      | some y => acc.length < SZ ∧ Inv (i + 1) (acc ++ [y]) s'
      | none => Inv (i + 1) acc s') : ∃ acc' s', lcL g f xs acc s = .ok acc' s' ∧ Inv xs.length acc' s' := by
  have key : ∀ (n i : Nat) (acc : List P) (s : S), n = xs.length - i → i ≤ xs.length → Inv i acc s → ∃ acc' s', lcL g f (xs.drop i) acc s = .ok acc' s' ∧ Inv xs.length acc' s' := by
    intro n
    induction n with
    | zero =>
      intro i acc s hn hi iv
      have e : i = xs.length := by omega
      subst e
      rw [List.drop_length]
      unfold lcL
      rw [if_pos (hg _ _ _ (Nat.le_refl _) iv)]
      exact ⟨_, _, rfl, iv⟩
    | succ n ih =>
      intro i acc s hn hi iv
      have hl : i < xs.length := by omega
      rw [List.drop_eq_getElem_cons hl]
      unfold lcL
      rw [if_pos (hg _ _ _ hi iv)]
      obtain ⟨o, s', e1, e2⟩ := step i xs[i] acc s (List.getElem?_eq_getElem hl) iv
      rw [e1, bind_ok]
      cases o with
      | some y =>
        dsimp only at e2 ⊢
        rw [if_pos e2.1]
        exact ih (i + 1) _ s' (by omega) (by omega) e2.2
      | none => exact ih (i + 1) acc s' (by omega) (by omega) e2
  have := key xs.length 0 acc s (by omega) (Nat.zero_le _) h0
  rwa [List.drop_zero] at this
/-- a comprehension whose elements change nothing -/
theorem lcL_pure {g : S → Prop} {f : P → S → R (Option P)} {xs : List P} {s : S} (o : P → Option P) (hg : g s) (hf : ∀ x ∈ xs, f x s = .ok (o x) s) (hl : xs.length ≤ SZ) : lcL g f xs [] s = .ok (xs.filterMap o) s := by
  obtain ⟨acc', s', e, h⟩ := lcL_run (g := g) (f := f) (xs := xs) (acc := []) (s := s) (fun i acc s' => s' = s ∧ acc = (xs.take i).filterMap o) ⟨rfl, by simp⟩ (fun i acc s' _ h => by rw [h.1]; exact hg) (fun i x acc s' hx h => by
    obtain ⟨rfl, rfl⟩ := h
    obtain ⟨hi, rfl⟩ := List.getElem?_eq_some_iff.mp hx
    refine ⟨o xs[i], s', hf _ (List.getElem_mem hi), ?_⟩
    have et : (xs.take (i + 1)).filterMap o = (xs.take i).filterMap o ++ (match o xs[i] with | some y => [y] | none => []) := by
      rw [List.take_succ, List.getElem?_eq_getElem hi, List.filterMap_append]
      congr 1
      show [xs[i]].filterMap o = _
      cases h : o xs[i] <;> simp [List.filterMap, h]
    have hle : ((xs.take i).filterMap o).length ≤ i := Nat.le_trans (List.length_filterMap_le _ _) (by rw [List.length_take]; omega)
    cases h : o xs[i] with
    | some y =>
      rw [h] at et
      exact ⟨by omega, rfl, et.symm⟩
    | none =>
      rw [h] at et
      exact ⟨rfl, by rw [et]; simp⟩)
  obtain ⟨rfl, rfl⟩ := h
  rw [e, List.take_length]
end Pa
/-! Pb, part B: the evaluator's equations for simp. -/
namespace Pa
/-! sealed names: the kernel must not run them -/
noncomputable def evA : Env → Ex → Loc → S → R P := Classical.choose (⟨ev, rfl⟩ : ∃ f, f = ev)
theorem evA_eq : evA = ev := Classical.choose_spec (⟨ev, rfl⟩ : ∃ f, f = ev)
noncomputable def evsA : Env → Exs → Loc → S → R (List P) := Classical.choose (⟨evs, rfl⟩ : ∃ f, f = evs)
theorem evsA_eq : evsA = evs := Classical.choose_spec (⟨evs, rfl⟩ : ∃ f, f = evs)
noncomputable def evCA : Env → Exs → Loc → S → R Bool := Classical.choose (⟨evC, rfl⟩ : ∃ f, f = evC)
theorem evCA_eq : evCA = evC := Classical.choose_spec (⟨evC, rfl⟩ : ∃ f, f = evC)
noncomputable def evIA : Env → It → Loc → S → R Walk := Classical.choose (⟨evI, rfl⟩ : ∃ f, f = evI)
theorem evIA_eq : evIA = evI := Classical.choose_spec (⟨evI, rfl⟩ : ∃ f, f = evI)
noncomputable def exA : Env → Sm → Loc → S → R Fl := Classical.choose (⟨ex, rfl⟩ : ∃ f, f = ex)
theorem exA_eq : exA = ex := Classical.choose_spec (⟨ex, rfl⟩ : ∃ f, f = ex)
noncomputable def exsA : Env → Sms → Loc → S → R Fl := Classical.choose (⟨exs, rfl⟩ : ∃ f, f = exs)
theorem exsA_eq : exsA = exs := Classical.choose_spec (⟨exs, rfl⟩ : ∃ f, f = exs)
noncomputable def callA : Pg → Nat → Nat → List P → S → R P := Classical.choose (⟨callN, rfl⟩ : ∃ f, f = callN)
theorem callA_eq : callA = callN := Classical.choose_spec (⟨callN, rfl⟩ : ∃ f, f = callN)
noncomputable def runA (G : Env) (d : Df) (args : List P) (s : S) : R P :=
  if args.length = d.ps ∧ d.ps ≤ d.ns then
    gc s ((exsA G d.body (args.map some ++ List.replicate (d.ns - args.length) none) s).bind fun fl s => match fl with
      | .nx _ => .ok .non s
      | .ret p => .ok p s
      | _ => .bad)
  else .bad
theorem runA_eq : runA = run := by
  funext G d args s
  unfold runA run
  rw [exsA_eq]
  all_goals rfl
noncomputable def newA (pg : Pg) (n : Nat) (c : Nat) (xs : List P) (s : S) : R P := match n with
  | 0 => .bad
  | m + 1 => match pg.inits[c]? with
    | some i => (callA pg m i (.loc s.length :: xs) (s ++ [.ins c []])).bind fun r s' => match r with
      | .non => .ok (.loc s.length) s'
      | _ => .bad
    | none => .bad
theorem newA_eq : newA = newL := by
  funext pg n c xs s
  unfold newA newL
  rw [callA_eq]
  all_goals rfl
noncomputable def envA (pg : Pg) (n : Nat) : Env := ⟨callA pg n, newA pg n, pg.mts, pg.fok⟩
theorem envA_eq : envA = envL := by
  funext pg n
  unfold envA envL
  rw [callA_eq, newA_eq]
@[simp] theorem envA_cal {pg : Pg} {n : Nat} : (envA pg n).cal = callA pg n := rfl
@[simp] theorem envA_new {pg : Pg} {n : Nat} : (envA pg n).new = newA pg n := rfl
@[simp] theorem envA_mt {pg : Pg} {n : Nat} : (envA pg n).mt = pg.mts := rfl
@[simp] theorem envA_fok {pg : Pg} {n : Nat} : (envA pg n).fok = pg.fok := rfl
theorem calA {pg : Pg} {n i : Nat} {b : Df} (h : pg.defs[i]? = some b) (xs : List P) (s : S) : callA pg (n + 1) i xs s = runA (envA pg n) b xs s := by
  rw [callA_eq, runA_eq, envA_eq]
  exact cal h xs s
section
variable (G : Env) (l : Loc) (s : S) (e a b c i lo hi : Ex) (es : Exs) (o o' : BinO) (k n : Nat) (t : Tg) (ss : Sms)
@[simp] theorem e_v : evA G (.v n) l s = match l[n]? with
    | some (some p) => .ok p s
    | _ => .bad := by first | (simp only [evA_eq, evsA_eq, evCA_eq, evIA_eq, exA_eq, exsA_eq, ev]; done) | (simp only [evA_eq, evsA_eq, evCA_eq, evIA_eq, exA_eq, exsA_eq, ev]; rfl)
@[simp] theorem e_int (j : Int) : evA G (.int j) l s = .ok (.int j) s := by first | (simp only [evA_eq, evsA_eq, evCA_eq, evIA_eq, exA_eq, exsA_eq, ev]; done) | (simp only [evA_eq, evsA_eq, evCA_eq, evIA_eq, exA_eq, exsA_eq, ev]; rfl)
@[simp] theorem e_bl (j : Bool) : evA G (.bl j) l s = .ok (.bl j) s := by first | (simp only [evA_eq, evsA_eq, evCA_eq, evIA_eq, exA_eq, exsA_eq, ev]; done) | (simp only [evA_eq, evsA_eq, evCA_eq, evIA_eq, exA_eq, exsA_eq, ev]; rfl)
@[simp] theorem e_non : evA G .non l s = .ok .non s := by first | (simp only [evA_eq, evsA_eq, evCA_eq, evIA_eq, exA_eq, exsA_eq, ev]; done) | (simp only [evA_eq, evsA_eq, evCA_eq, evIA_eq, exA_eq, exsA_eq, ev]; rfl)
@[simp] theorem e_str (x : PySem.Str) : evA G (.str x) l s = .ok (.str x) s := by first | (simp only [evA_eq, evsA_eq, evCA_eq, evIA_eq, exA_eq, exsA_eq, ev]; done) | (simp only [evA_eq, evsA_eq, evCA_eq, evIA_eq, exA_eq, exsA_eq, ev]; rfl)
@[simp] theorem e_tup : evA G (.tup es) l s = (evsA G es l s).bind fun xs s => .ok (.tup xs) s := by first | (simp only [evA_eq, evsA_eq, evCA_eq, evIA_eq, exA_eq, exsA_eq, ev]; done) | (simp only [evA_eq, evsA_eq, evCA_eq, evIA_eq, exA_eq, exsA_eq, ev]; rfl)
@[simp] theorem e_lst : evA G (.lst es) l s = (evsA G es l s).bind fun xs s => alloc (.lst xs) s := by first | (simp only [evA_eq, evsA_eq, evCA_eq, evIA_eq, exA_eq, exsA_eq, ev]; done) | (simp only [evA_eq, evsA_eq, evCA_eq, evIA_eq, exA_eq, exsA_eq, ev]; rfl)
@[simp] theorem e_dct : evA G .dct l s = alloc (.dct false []) s := by first | (simp only [evA_eq, evsA_eq, evCA_eq, evIA_eq, exA_eq, exsA_eq, ev]; done) | (simp only [evA_eq, evsA_eq, evCA_eq, evIA_eq, exA_eq, exsA_eq, ev]; rfl)
@[simp] theorem e_bin : evA G (.bin o a b) l s = (evA G a l s).bind fun p s => (evA G b l s).bind fun q s => binP o p q s := by first | (simp only [evA_eq, evsA_eq, evCA_eq, evIA_eq, exA_eq, exsA_eq, ev]; done) | (simp only [evA_eq, evsA_eq, evCA_eq, evIA_eq, exA_eq, exsA_eq, ev]; rfl)
@[simp] theorem e_neg : evA G (.neg a) l s = (evA G a l s).bind fun p s => match p with
    | .int i => .ok (.int (-i)) s
    | _ => .bad := by first | (simp only [evA_eq, evsA_eq, evCA_eq, evIA_eq, exA_eq, exsA_eq, ev]; done) | (simp only [evA_eq, evsA_eq, evCA_eq, evIA_eq, exA_eq, exsA_eq, ev]; rfl)
@[simp] theorem e_not : evA G (.not a) l s = (evA G a l s).bind fun p s => (ofO (truth s p) s).bind fun k s => .ok (.bl !k) s := by first | (simp only [evA_eq, evsA_eq, evCA_eq, evIA_eq, exA_eq, exsA_eq, ev]; done) | (simp only [evA_eq, evsA_eq, evCA_eq, evIA_eq, exA_eq, exsA_eq, ev]; rfl)
@[simp] theorem e_cmp (o : CmpO) : evA G (.cmp o a b) l s = (evA G a l s).bind fun p s => (evA G b l s).bind fun q s => cmpP o p q s := by first | (simp only [evA_eq, evsA_eq, evCA_eq, evIA_eq, exA_eq, exsA_eq, ev]; done) | (simp only [evA_eq, evsA_eq, evCA_eq, evIA_eq, exA_eq, exsA_eq, ev]; rfl)
@[simp] theorem e_isN : evA G (.isN a) l s = (evA G a l s).bind fun p s => .ok (.bl (match p with | .non => true | _ => false)) s := by first | (simp only [evA_eq, evsA_eq, evCA_eq, evIA_eq, exA_eq, exsA_eq, ev]; done) | (simp only [evA_eq, evsA_eq, evCA_eq, evIA_eq, exA_eq, exsA_eq, ev]; rfl)
@[simp] theorem e_notN : evA G (.notN a) l s = (evA G a l s).bind fun p s => .ok (.bl (match p with | .non => false | _ => true)) s := by first | (simp only [evA_eq, evsA_eq, evCA_eq, evIA_eq, exA_eq, exsA_eq, ev]; done) | (simp only [evA_eq, evsA_eq, evCA_eq, evIA_eq, exA_eq, exsA_eq, ev]; rfl)
@[simp] theorem e_and : evA G (.and a b) l s = (evA G a l s).bind fun p s => (ofO (truth s p) s).bind fun k s => if k = true then evA G b l s else .ok p s := by first | (simp only [evA_eq, evsA_eq, evCA_eq, evIA_eq, exA_eq, exsA_eq, ev]; done) | (simp only [evA_eq, evsA_eq, evCA_eq, evIA_eq, exA_eq, exsA_eq, ev]; rfl)
@[simp] theorem e_or : evA G (.or a b) l s = (evA G a l s).bind fun p s => (ofO (truth s p) s).bind fun k s => if k = true then .ok p s else evA G b l s := by first | (simp only [evA_eq, evsA_eq, evCA_eq, evIA_eq, exA_eq, exsA_eq, ev]; done) | (simp only [evA_eq, evsA_eq, evCA_eq, evIA_eq, exA_eq, exsA_eq, ev]; rfl)
@[simp] theorem e_ife : evA G (.ife c a b) l s = (evA G c l s).bind fun p s => (ofO (truth s p) s).bind fun k s => if k = true then evA G a l s else evA G b l s := by first | (simp only [evA_eq, evsA_eq, evCA_eq, evIA_eq, exA_eq, exsA_eq, ev]; done) | (simp only [evA_eq, evsA_eq, evCA_eq, evIA_eq, exA_eq, exsA_eq, ev]; rfl)
@[simp] theorem e_ix : evA G (.ix a i) l s = (evA G a l s).bind fun p s => (evA G i l s).bind fun q s => ixP p q s := by first | (simp only [evA_eq, evsA_eq, evCA_eq, evIA_eq, exA_eq, exsA_eq, ev]; done) | (simp only [evA_eq, evsA_eq, evCA_eq, evIA_eq, exA_eq, exsA_eq, ev]; rfl)
@[simp] theorem e_slL : evA G (.slL a lo) l s = (evA G a l s).bind fun p s => (evA G lo l s).bind fun x s => match x with
      | .int i => slP p (some i) none s
      | _ => .bad := by first | (simp only [evA_eq, evsA_eq, evCA_eq, evIA_eq, exA_eq, exsA_eq, ev]; done) | (simp only [evA_eq, evsA_eq, evCA_eq, evIA_eq, exA_eq, exsA_eq, ev]; rfl)
@[simp] theorem e_slU : evA G (.slU a hi) l s = (evA G a l s).bind fun p s => (evA G hi l s).bind fun y s => match y with
      | .int j => slP p none (some j) s
      | _ => .bad := by first | (simp only [evA_eq, evsA_eq, evCA_eq, evIA_eq, exA_eq, exsA_eq, ev]; done) | (simp only [evA_eq, evsA_eq, evCA_eq, evIA_eq, exA_eq, exsA_eq, ev]; rfl)
@[simp] theorem e_fld : evA G (.fld a k) l s = (evA G a l s).bind fun p s => fldP p k s := by first | (simp only [evA_eq, evsA_eq, evCA_eq, evIA_eq, exA_eq, exsA_eq, ev]; done) | (simp only [evA_eq, evsA_eq, evCA_eq, evIA_eq, exA_eq, exsA_eq, ev]; rfl)
@[simp] theorem e_call : evA G (.call k es) l s = (evsA G es l s).bind fun xs s => G.cal k xs s := by first | (simp only [evA_eq, evsA_eq, evCA_eq, evIA_eq, exA_eq, exsA_eq, ev]; done) | (simp only [evA_eq, evsA_eq, evCA_eq, evIA_eq, exA_eq, exsA_eq, ev]; rfl)
@[simp] theorem e_new : evA G (.new k es) l s = (evsA G es l s).bind fun xs s => G.new k xs s := by first | (simp only [evA_eq, evsA_eq, evCA_eq, evIA_eq, exA_eq, exsA_eq, ev]; done) | (simp only [evA_eq, evsA_eq, evCA_eq, evIA_eq, exA_eq, exsA_eq, ev]; rfl)
@[simp] theorem e_meth : evA G (.meth a k es) l s = (evA G a l s).bind fun p s => match p with
    | .loc n => match s[n]? with
      | some (.ins c fs) => match G.mt c k, fget k fs with
        | some f, none => (evsA G es l s).bind fun xs s => G.cal f (.loc n :: xs) s
        | _, _ => .bad
      | _ => .bad
    | _ => .bad := by first | (simp only [evA_eq, evsA_eq, evCA_eq, evIA_eq, exA_eq, exsA_eq, ev]; done) | (simp only [evA_eq, evsA_eq, evCA_eq, evIA_eq, exA_eq, exsA_eq, ev]; rfl)
@[simp] theorem e_b1 (f : B1) : evA G (.b1 f a) l s = (evA G a l s).bind fun p s => b1P f p s := by first | (simp only [evA_eq, evsA_eq, evCA_eq, evIA_eq, exA_eq, exsA_eq, ev]; done) | (simp only [evA_eq, evsA_eq, evCA_eq, evIA_eq, exA_eq, exsA_eq, ev]; rfl)
@[simp] theorem e_b2 (f : B2) : evA G (.b2 f a b) l s = (evA G a l s).bind fun p s => (evA G b l s).bind fun q s => b2P f p q s := by first | (simp only [evA_eq, evsA_eq, evCA_eq, evIA_eq, exA_eq, exsA_eq, ev]; done) | (simp only [evA_eq, evsA_eq, evCA_eq, evIA_eq, exA_eq, exsA_eq, ev]; rfl)
@[simp] theorem e_m0 (f : M0) : evA G (.m0 f a) l s = (evA G a l s).bind fun p s => m0P f p s := by first | (simp only [evA_eq, evsA_eq, evCA_eq, evIA_eq, exA_eq, exsA_eq, ev]; done) | (simp only [evA_eq, evsA_eq, evCA_eq, evIA_eq, exA_eq, exsA_eq, ev]; rfl)
@[simp] theorem e_m1 (f : M1) : evA G (.m1 f a b) l s = (evA G a l s).bind fun p s => if k1 f s p = true then (evA G b l s).bind fun q s => m1P f p q s else .bad := by first | (simp only [evA_eq, evsA_eq, evCA_eq, evIA_eq, exA_eq, exsA_eq, ev]; done) | (simp only [evA_eq, evsA_eq, evCA_eq, evIA_eq, exA_eq, exsA_eq, ev]; rfl)
@[simp] theorem e_m2 (f : M2) : evA G (.m2 f a b c) l s = (evA G a l s).bind fun p s => if k2 f s p = true then (evA G b l s).bind fun q s => (evA G c l s).bind fun r s => m2P f p q r s else .bad := by first | (simp only [evA_eq, evsA_eq, evCA_eq, evIA_eq, exA_eq, exsA_eq, ev]; done) | (simp only [evA_eq, evsA_eq, evCA_eq, evIA_eq, exA_eq, exsA_eq, ev]; rfl)
@[simp] theorem e_sortI : evA G (.sortI a) l s = (evA G a l s).bind fun p s => sortIP p s := by first | (simp only [evA_eq, evsA_eq, evCA_eq, evIA_eq, exA_eq, exsA_eq, ev]; done) | (simp only [evA_eq, evsA_eq, evCA_eq, evIA_eq, exA_eq, exsA_eq, ev]; rfl)
@[simp] theorem e_isi (t : Ty) : evA G (.isi a t) l s = (evA G a l s).bind fun p s => ofO ((isiP t p s).map .bl) s := by first | (simp only [evA_eq, evsA_eq, evCA_eq, evIA_eq, exA_eq, exsA_eq, ev]; done) | (simp only [evA_eq, evsA_eq, evCA_eq, evIA_eq, exA_eq, exsA_eq, ev]; rfl)
@[simp] theorem es_nil : evsA G .nil l s = .ok [] s := by first | (simp only [evA_eq, evsA_eq, evCA_eq, evIA_eq, exA_eq, exsA_eq, evs]; done) | (simp only [evA_eq, evsA_eq, evCA_eq, evIA_eq, exA_eq, exsA_eq, evs]; rfl)
@[simp] theorem es_cons : evsA G (.cons e es) l s = (evA G e l s).bind fun p s => (evsA G es l s).bind fun ps s => .ok (p :: ps) s := by first | (simp only [evA_eq, evsA_eq, evCA_eq, evIA_eq, exA_eq, exsA_eq, evs]; done) | (simp only [evA_eq, evsA_eq, evCA_eq, evIA_eq, exA_eq, exsA_eq, evs]; rfl)
@[simp] theorem ec_nil : evCA G .nil l s = .ok true s := by first | (simp only [evA_eq, evsA_eq, evCA_eq, evIA_eq, exA_eq, exsA_eq, evC]; done) | (simp only [evA_eq, evsA_eq, evCA_eq, evIA_eq, exA_eq, exsA_eq, evC]; rfl)
@[simp] theorem ec_cons : evCA G (.cons e es) l s = (evA G e l s).bind fun p s => (ofO (truth s p) s).bind fun k s => if k = true then evCA G es l s else .ok false s := by first | (simp only [evA_eq, evsA_eq, evCA_eq, evIA_eq, exA_eq, exsA_eq, evC]; done) | (simp only [evA_eq, evsA_eq, evCA_eq, evIA_eq, exA_eq, exsA_eq, evC]; rfl)
@[simp] theorem ei_ex : evIA G (.ex e) l s = (evA G e l s).bind fun p s => match seqOf s p with
    | some xs => .ok (xs, stays p s) s
    | none => .bad := by first | (simp only [evA_eq, evsA_eq, evCA_eq, evIA_eq, exA_eq, exsA_eq, evI]; done) | (simp only [evA_eq, evsA_eq, evCA_eq, evIA_eq, exA_eq, exsA_eq, evI]; rfl)
@[simp] theorem ei_rng1 : evIA G (.rng1 a) l s = (evA G a l s).bind fun p s => match p with
    | .int j => if rngOk j then .ok ((rngP 0 j.toNat, fun _ => True) : Walk) s else .bad
    | _ => .bad := by first | (simp only [evA_eq, evsA_eq, evCA_eq, evIA_eq, exA_eq, exsA_eq, evI]; done) | (simp only [evA_eq, evsA_eq, evCA_eq, evIA_eq, exA_eq, exsA_eq, evI]; rfl)
@[simp] theorem ei_zip : evIA G (.zip a b) l s = (evA G a l s).bind fun p s => (evA G b l s).bind fun q s => match zipOf s p q with
    | some xy => .ok (zipP xy.1 xy.2, fun s' => stays p s s' ∧ stays q s s') s
    | none => .bad := by first | (simp only [evA_eq, evsA_eq, evCA_eq, evIA_eq, exA_eq, exsA_eq, evI]; done) | (simp only [evA_eq, evsA_eq, evCA_eq, evIA_eq, exA_eq, exsA_eq, evI]; rfl)
@[simp] theorem ei_enum : evIA G (.enum a) l s = (evA G a l s).bind fun p s => match seqOf s p with
    | some xs => .ok (enumP 0 xs, stays p s) s
    | none => .bad := by first | (simp only [evA_eq, evsA_eq, evCA_eq, evIA_eq, exA_eq, exsA_eq, evI]; done) | (simp only [evA_eq, evsA_eq, evCA_eq, evIA_eq, exA_eq, exsA_eq, evI]; rfl)
@[simp] theorem ei_rev : evIA G (.rev a) l s = (evA G a l s).bind fun p s => match lstOf s p with
    | some xs => .ok (xs.reverse, stays p s) s
    | none => .bad := by first | (simp only [evA_eq, evsA_eq, evCA_eq, evIA_eq, exA_eq, exsA_eq, evI]; done) | (simp only [evA_eq, evsA_eq, evCA_eq, evIA_eq, exA_eq, exsA_eq, evI]; rfl)
@[simp] theorem cond_eq : cond G e l s = (evA G e l s).bind fun p s => ofO (truth s p) s := by rw [evA_eq]; rfl
@[simp] theorem x_ex : exA G (.ex e) l s = (evA G e l s).bind fun _ s => .ok (.nx l) s := by first | (simp only [evA_eq, evsA_eq, evCA_eq, evIA_eq, exA_eq, exsA_eq, ex]; done) | (simp only [evA_eq, evsA_eq, evCA_eq, evIA_eq, exA_eq, exsA_eq, ex]; rfl)
@[simp] theorem x_asg : exA G (.asg t e) l s = (evA G e l s).bind fun p s => (ofO (bindT t p l) s).bind fun l s => .ok (.nx l) s := by first | (simp only [evA_eq, evsA_eq, evCA_eq, evIA_eq, exA_eq, exsA_eq, ex]; done) | (simp only [evA_eq, evsA_eq, evCA_eq, evIA_eq, exA_eq, exsA_eq, ex]; rfl)
@[simp] theorem x_par (is : List Nat) : exA G (.par is es) l s = (evsA G es l s).bind fun ps s => (ofO (setN l is ps) s).bind fun l s => .ok (.nx l) s := by first | (simp only [evA_eq, evsA_eq, evCA_eq, evIA_eq, exA_eq, exsA_eq, ex]; done) | (simp only [evA_eq, evsA_eq, evCA_eq, evIA_eq, exA_eq, exsA_eq, ex]; rfl)
@[simp] theorem x_asgI : exA G (.asgI a i e) l s = (evA G e l s).bind fun x s => (evA G a l s).bind fun p s => (evA G i l s).bind fun q s => (stIx p q x s).bind fun _ s => .ok (.nx l) s := by first | (simp only [evA_eq, evsA_eq, evCA_eq, evIA_eq, exA_eq, exsA_eq, ex]; done) | (simp only [evA_eq, evsA_eq, evCA_eq, evIA_eq, exA_eq, exsA_eq, ex]; rfl)
@[simp] theorem x_asgF : exA G (.asgF a k e) l s = (evA G e l s).bind fun x s => (evA G a l s).bind fun p s => (stF G.fok p k x s).bind fun _ s => .ok (.nx l) s := by first | (simp only [evA_eq, evsA_eq, evCA_eq, evIA_eq, exA_eq, exsA_eq, ex]; done) | (simp only [evA_eq, evsA_eq, evCA_eq, evIA_eq, exA_eq, exsA_eq, ex]; rfl)
@[simp] theorem x_parF (k2 : Nat) : exA G (.parF a k k2 b c) l s = (evA G b l s).bind fun x s => (evA G c l s).bind fun y s => (evA G a l s).bind fun p s => (stF G.fok p k x s).bind fun _ s => (evA G a l s).bind fun p s => (stF G.fok p k2 y s).bind fun _ s => .ok (.nx l) s := by first | (simp only [evA_eq, evsA_eq, evCA_eq, evIA_eq, exA_eq, exsA_eq, ex]; done) | (simp only [evA_eq, evsA_eq, evCA_eq, evIA_eq, exA_eq, exsA_eq, ex]; rfl)
@[simp] theorem x_aug : exA G (.aug n o e) l s = match l[n]? with
    | some (some p) => (evA G e l s).bind fun q s => (augP o p q s).bind fun r s => .ok (.nx (l.set n (some r))) s
    | _ => .bad := by first | (simp only [evA_eq, evsA_eq, evCA_eq, evIA_eq, exA_eq, exsA_eq, ex]; done) | (simp only [evA_eq, evsA_eq, evCA_eq, evIA_eq, exA_eq, exsA_eq, ex]; rfl)
@[simp] theorem x_augI : exA G (.augI a i o e) l s = (evA G a l s).bind fun p s => (evA G i l s).bind fun q s => (ixG p q s).bind fun x s => (evA G e l s).bind fun y s => (augP o x y s).bind fun z s => (stIx p q z s).bind fun _ s => .ok (.nx l) s := by first | (simp only [evA_eq, evsA_eq, evCA_eq, evIA_eq, exA_eq, exsA_eq, ex]; done) | (simp only [evA_eq, evsA_eq, evCA_eq, evIA_eq, exA_eq, exsA_eq, ex]; rfl)
@[simp] theorem x_ife (u v : Sms) : exA G (.ife c u v) l s = (cond G c l s).bind fun k s => if k = true then exsA G u l s else exsA G v l s := by first | (simp only [evA_eq, evsA_eq, evCA_eq, evIA_eq, exA_eq, exsA_eq, ex]; done) | (simp only [evA_eq, evsA_eq, evCA_eq, evIA_eq, exA_eq, exsA_eq, ex]; rfl)
@[simp] theorem x_ret : exA G (.ret e) l s = (evA G e l s).bind fun p s => .ok (.ret p) s := by first | (simp only [evA_eq, evsA_eq, evCA_eq, evIA_eq, exA_eq, exsA_eq, ex]; done) | (simp only [evA_eq, evsA_eq, evCA_eq, evIA_eq, exA_eq, exsA_eq, ex]; rfl)
@[simp] theorem x_retN : exA G .retN l s = .ok (.ret .non) s := by first | (simp only [evA_eq, evsA_eq, evCA_eq, evIA_eq, exA_eq, exsA_eq, ex]; done) | (simp only [evA_eq, evsA_eq, evCA_eq, evIA_eq, exA_eq, exsA_eq, ex]; rfl)
@[simp] theorem x_pass : exA G .pass l s = .ok (.nx l) s := by first | (simp only [evA_eq, evsA_eq, evCA_eq, evIA_eq, exA_eq, exsA_eq, ex]; done) | (simp only [evA_eq, evsA_eq, evCA_eq, evIA_eq, exA_eq, exsA_eq, ex]; rfl)
@[simp] theorem x_brk : exA G .brk l s = .ok (.brk l) s := by first | (simp only [evA_eq, evsA_eq, evCA_eq, evIA_eq, exA_eq, exsA_eq, ex]; done) | (simp only [evA_eq, evsA_eq, evCA_eq, evIA_eq, exA_eq, exsA_eq, ex]; rfl)
@[simp] theorem x_cnt : exA G .cnt l s = .ok (.cnt l) s := by first | (simp only [evA_eq, evsA_eq, evCA_eq, evIA_eq, exA_eq, exsA_eq, ex]; done) | (simp only [evA_eq, evsA_eq, evCA_eq, evIA_eq, exA_eq, exsA_eq, ex]; rfl)
@[simp] theorem xs_nil : exsA G .nil l s = .ok (.nx l) s := by first | (simp only [evA_eq, evsA_eq, evCA_eq, evIA_eq, exA_eq, exsA_eq, exs]; done) | (simp only [evA_eq, evsA_eq, evCA_eq, evIA_eq, exA_eq, exsA_eq, exs]; rfl)
@[simp] theorem xs_cons (st : Sm) : exsA G (.cons st ss) l s = (exA G st l s).bind fun fl s => match fl with
    | .nx l => exsA G ss l s
    | fl => .ok fl s := by first | (simp only [evA_eq, evsA_eq, evCA_eq, evIA_eq, exA_eq, exsA_eq, exs]; done) | (simp only [evA_eq, evsA_eq, evCA_eq, evIA_eq, exA_eq, exsA_eq, exs]; rfl)
end
/-! operators -/
section
variable (s : S) (i j : Int) (x y : P) (xs ys : List P) (n : Nat)
@[simp] theorem o_add : binP .add (.int i) (.int j) s = .ok (.int (i + j)) s := rfl
@[simp] theorem o_sub : binP .sub (.int i) (.int j) s = .ok (.int (i - j)) s := rfl
@[simp] theorem o_mul : binP .mul (.int i) (.int j) s = if small i ∨ small j then .ok (.int (i * j)) s else .bad := rfl
@[simp] theorem o_addT : binP .add (.tup xs) (.tup ys) s = if xs.length + ys.length ≤ SZ then .ok (.tup (xs ++ ys)) s else .bad := rfl
@[simp] theorem o_fdiv : binP .fdiv (.int i) (.int j) s = if 0 < j ∧ j < 1073741824 then .ok (.int (i / j)) s else .bad := rfl
@[simp] theorem o_mod : binP .mod (.int i) (.int j) s = if 0 < j then .ok (.int (i % j)) s else .bad := rfl
@[simp] theorem o_aadd : augP .add (.int i) (.int j) s = .ok (.int (i + j)) s := rfl
@[simp] theorem o_asub : augP .sub (.int i) (.int j) s = .ok (.int (i - j)) s := rfl
@[simp] theorem o_lt : cmpP .lt (.int i) (.int j) s = .ok (.bl (decide (i < j))) s := rfl
@[simp] theorem o_le : cmpP .le (.int i) (.int j) s = .ok (.bl (decide (i ≤ j))) s := rfl
@[simp] theorem o_gt : cmpP .gt (.int i) (.int j) s = .ok (.bl (decide (j < i))) s := rfl
@[simp] theorem o_ge : cmpP .ge (.int i) (.int j) s = .ok (.bl (decide (j ≤ i))) s := rfl
@[simp] theorem o_eqI : cmpP .eq (.int i) (.int j) s = .ok (.bl (i == j)) s := rfl
@[simp] theorem o_neI : cmpP .ne (.int i) (.int j) s = .ok (.bl !(i == j)) s := rfl
@[simp] theorem t_bl (b : Bool) : truth s (.bl b) = some b := rfl
@[simp] theorem t_int : truth s (.int i) = some (i != 0) := rfl
@[simp] theorem t_non : truth s .non = some false := rfl
@[simp] theorem t_tup : truth s (.tup xs) = some !xs.isEmpty := rfl
@[simp] theorem q_tup : seqOf s (.tup xs) = some xs := rfl
@[simp] theorem q_rol : seqOf s (.rol xs) = some xs := rfl
theorem q_lst (h : s[n]? = some (.lst xs)) : seqOf s (.loc n) = some xs := by unfold seqOf; simp only [h]
theorem r_lst (h : s[n]? = some (.lst xs)) : lstOf s (.loc n) = some xs := by unfold lstOf; simp only [h]
@[simp] theorem z_tup : zipOf s (.tup xs) (.tup ys) = some (xs, ys) := rfl
@[simp] theorem b_tup : b1P .tuple x s = ofO ((seqOf s x).map .tup) s := rfl
@[simp] theorem b_lenT : b1P .len (.tup xs) s = .ok (.int xs.length) s := rfl
@[simp] theorem b_lenR : b1P .len (.rol xs) s = .ok (.int xs.length) s := rfl
theorem b_lenL (h : s[n]? = some (.lst xs)) : b1P .len (.loc n) s = .ok (.int xs.length) s := by
  unfold b1P lenP; simp only [h]; rfl
@[simp] theorem b_int : b1P .int (.int i) s = .ok (.int i) s := rfl
@[simp] theorem b_intB (b : Bool) : b1P .int (.bl b) s = .ok (.int (if b then 1 else 0)) s := rfl
@[simp] theorem b_abs : b1P .abs (.int i) s = .ok (.int (if i < 0 then -i else i)) s := rfl
@[simp] theorem b_max : b2P .max (.int i) (.int j) s = .ok (.int (if j > i then j else i)) s := rfl
@[simp] theorem b_min : b2P .min (.int i) (.int j) s = .ok (.int (if j < i then j else i)) s := rfl
@[simp] theorem i_tup : ixP (.tup xs) (.int i) s = ofO (atI xs i) s := rfl
@[simp] theorem i_rol : ixP (.rol xs) (.int i) s = ofO (atI xs i) s := rfl
theorem i_lst (h : s[n]? = some (.lst xs)) : ixP (.loc n) (.int i) s = ofO (atI xs i) s := by unfold ixP; simp only [h]
theorem atI_nat {α : Type} (xs : List α) (k : Nat) : atI xs (k : Int) = xs[k]? := by
  unfold atI ixN
  by_cases h : k < xs.length
  · have h' : (k : Int) < xs.length := by omega
    rw [if_pos (by omega), if_pos h']
    simp
  · have h' : ¬ (k : Int) < xs.length := by omega
    rw [if_pos (by omega), if_neg h', List.getElem?_eq_none (by omega)]
    rfl
@[simp] theorem atI_0 {α : Type} (xs : List α) : atI xs 0 = xs[0]? := atI_nat xs 0
@[simp] theorem atI_1 {α : Type} (xs : List α) : atI xs 1 = xs[1]? := atI_nat xs 1
@[simp] theorem atI_2 {α : Type} (xs : List α) : atI xs 2 = xs[2]? := atI_nat xs 2
theorem m_app (h : s[n]? = some (.lst xs)) : m1P .append (.loc n) x s = if xs.length < SZ then .ok .non (s.set n (.lst (xs ++ [x]))) else .bad := by unfold m1P; simp only [h]
theorem k_app (h : s[n]? = some (.lst xs)) : k1 .append s (.loc n) = true := by unfold k1 isLst; simp only [h]
theorem k_ext (h : s[n]? = some (.lst xs)) : k1 .extend s (.loc n) = true := by unfold k1 isLst; simp only [h]
@[simp] theorem bt_v (l : Loc) : bindT (.v n) x l = if n < l.length then some (l.set n (some x)) else none := rfl
@[simp] theorem bt_tup (l : Loc) (ts : Tgs) : bindT (.tup ts) (.tup xs) l = bindTs ts xs l := rfl
@[simp] theorem bts_nil (l : Loc) : bindTs .nil [] l = some l := rfl
@[simp] theorem bts_cons (l : Loc) (t : Tg) (ts : Tgs) : bindTs (.cons t ts) (x :: xs) l = (bindT t x l).bind (bindTs ts xs) := rfl
@[simp] theorem at_new (o : O) : (s ++ [o])[s.length]? = some o := by simp
end
end Pa
namespace Pa
theorem x_for (G : Env) (t : Tg) (it : It) (b : Sms) (l : Loc) (s : S) : exA G (.for t it b) l s = (evIA G it l s).bind fun w s => forL w.2 (fun x l s => (ofO (bindT t x l) s).bind fun l s => exsA G b l s) w.1 l s := by first | (simp only [evA_eq, evsA_eq, evCA_eq, evIA_eq, exA_eq, exsA_eq, ex]; done) | (simp only [evA_eq, evsA_eq, evCA_eq, evIA_eq, exA_eq, exsA_eq, ex]; rfl)
/-- it ends well, and so -/
def Ok {α : Type} (r : R α) (Q : α → S → Prop) : Prop := ∃ a s, r = .ok a s ∧ Q a s
@[simp] theorem ok_ok {α : Type} {a : α} {s : S} {Q : α → S → Prop} : Ok (.ok a s) Q ↔ Q a s := ⟨fun ⟨b, s', e, q⟩ => by cases e; exact q, fun q => ⟨a, s, rfl, q⟩⟩
@[simp] theorem ok_bad {α : Type} {Q : α → S → Prop} : Ok (.bad : R α) Q ↔ False := ⟨fun ⟨b, s', e, q⟩ => (by cases e), False.elim⟩
theorem ok_bind {α β : Type} {r : R α} {f : α → S → R β} {Q : β → S → Prop} (h : Ok r fun a s => Ok (f a s) Q) : Ok (r.bind f) Q := by
  obtain ⟨a, s, e, q⟩ := h
  rw [e]; exact q
theorem ok_imp {α : Type} {r : R α} {Q Q' : α → S → Prop} (h : Ok r Q) (k : ∀ a s, Q a s → Q' a s) : Ok r Q' := by
  obtain ⟨a, s, e, q⟩ := h
  exact ⟨a, s, e, k a s q⟩
theorem ok_eq {α : Type} {r : R α} {a : α} {s : S} {Q : α → S → Prop} (e : r = .ok a s) (q : Q a s) : Ok r Q := ⟨a, s, e, q⟩
/-- a call that leaves no new thing behind -/
theorem ok_gc {s : S} {r : R P} {Q : P → S → Prop} (h : Ok r fun p s1 => bnd s.length p = true ∧ Grow s s1 ∧ Q p s) : Ok (gc s r) Q := by
  obtain ⟨p, s1, e, h1, h2, h3⟩ := h
  rw [e]
  exact ⟨p, s, gc_grow h1 h2, h3⟩
/-- a call that hands out something new -/
theorem ok_gcn {s : S} {r : R P} {Q : P → S → Prop} (h : Ok r fun p s1 => bnd s.length p = false ∧ Q p s1) : Ok (gc s r) Q := by
  obtain ⟨p, s1, e, h1, h2⟩ := h
  rw [e]
  exact ⟨p, s1, gc_new h1, h2⟩
theorem ok_for {G : Env} {t : Tg} {it : It} {b : Sms} {l : Loc} {s s1 : S} {w : Walk} {Q : Fl → S → Prop} (Inv : Nat → Loc → S → Prop) (hw : evIA G it l s = .ok w s1) (h0 : Inv 0 l s1) (hg : ∀ i l s, i ≤ w.1.length → Inv i l s → w.2 s)
    (step : ∀ i x l s, w.1[i]? = some x → Inv i l s → Ok ((ofO (bindT t x l) s).bind fun l s => exsA G b l s) fun fl s' => match fl with
      | .nx l' => Inv (i + 1) l' s'
      | .cnt l' => Inv (i + 1) l' s'
      | .brk l' => Q (.nx l') s'
      | .ret p => Q (.ret p) s') (hd : ∀ l s, Inv w.1.length l s → Q (.nx l) s) : Ok (exA G (.for t it b) l s) Q := by
  rw [x_for, hw, bind_ok]
  obtain ⟨fl, s', e, q⟩ := forL_run Inv Q h0 hg step hd
  exact ⟨fl, s', e, q⟩
theorem e_lc (G : Env) (t : Tg) (it : It) (cs : Exs) (e : Ex) (own : List Nat) (l : Loc) (s : S) : evA G (.lc t it cs e own) l s = (evIA G it l s).bind fun w s =>
      (lcL w.2 (fun x s => (ofO (bindT t x (wipe l own)) s).bind fun l2 s => (evCA G cs l2 s).bind fun k s => if k = true then (evA G e l2 s).bind fun p s => .ok (some p) s else .ok none s) w.1 [] s).bind fun acc s => alloc (.lst acc) s := by first | (simp only [evA_eq, evsA_eq, evCA_eq, evIA_eq, exA_eq, exsA_eq, ev]; done) | (simp only [evA_eq, evsA_eq, evCA_eq, evIA_eq, exA_eq, exsA_eq, ev]; rfl)
/-- a comprehension whose elements change nothing: its list is new -/
theorem lc_pure {G : Env} {t : Tg} {it : It} {cs : Exs} {e : Ex} {own : List Nat} {l : Loc} {s s1 : S} {w : Walk} (o : P → Option P) (hw : evIA G it l s = .ok w s1) (hg : w.2 s1)
    (hf : ∀ x ∈ w.1, ((ofO (bindT t x (wipe l own)) s1).bind fun l2 s => (evCA G cs l2 s).bind fun k s => if k = true then (evA G e l2 s).bind fun p s => .ok (some p) s else .ok none s) = .ok (o x) s1) (hl : w.1.length ≤ SZ) :
    evA G (.lc t it cs e own) l s = .ok (.loc s1.length) (s1 ++ [.lst (w.1.filterMap o)]) := by
  rw [e_lc, hw, bind_ok, lcL_pure o hg hf hl]
  rfl
theorem zipP_at {xs ys : List P} {i : Nat} {x : P} (h : (zipP xs ys)[i]? = some x) : ∃ a b, xs[i]? = some a ∧ ys[i]? = some b ∧ x = .tup [a, b] := by
  unfold zipP at h
  rw [List.getElem?_zipWith] at h
  cases h1 : xs[i]? with
  | none => rw [h1] at h; cases h
  | some a =>
    cases h2 : ys[i]? with
    | none => rw [h1, h2] at h; cases h
    | some b => rw [h1, h2] at h; cases h; exact ⟨a, b, rfl, rfl, rfl⟩
theorem map_at {α : Type} {f : α → P} {xs : List α} {i : Nat} {x : P} (h : (xs.map f)[i]? = some x) : ∃ a, xs[i]? = some a ∧ x = f a := by
  rw [List.getElem?_map] at h
  cases h1 : xs[i]? with
  | none => rw [h1] at h; cases h
  | some a => rw [h1] at h; cases h; exact ⟨a, rfl, rfl⟩
theorem drop_cons {α : Type} {xs : List α} {i : Nat} {x : α} (h : xs[i]? = some x) : xs.drop i = x :: xs.drop (i + 1) := by
  obtain ⟨hl, e⟩ := List.getElem?_eq_some_iff.mp h
  rw [List.drop_eq_getElem_cons hl, e]
end Pa
namespace Pa
section
variable (s : S) (x y i : P) (n k : Nat) (j : Int) (ok : Nat → Nat → Bool)
@[simp] theorem u_seq : seqOf s (.loc n) = match s[n]? with
    | some (.lst xs) => some xs
    | _ => none := rfl
@[simp] theorem u_lst : lstOf s (.loc n) = match s[n]? with
    | some (.lst xs) => some xs
    | _ => none := rfl
@[simp] theorem u_lstR (xs : List P) : lstOf s (.rol xs) = some xs := rfl
@[simp] theorem u_isL : isLst s (.loc n) = match s[n]? with
    | some (.lst _) => true
    | _ => false := rfl
@[simp] theorem u_isD : isDct s (.loc n) = match s[n]? with
    | some (.dct false _) => true
    | _ => false := rfl
@[simp] theorem u_k1a : k1 .append s x = isLst s x := rfl
@[simp] theorem u_k1e : k1 .extend s x = isLst s x := rfl
@[simp] theorem u_k2g : k2 .get s x = isDct s x := rfl
@[simp] theorem u_k2s : k2 .setdefault s x = isDct s x := rfl
@[simp] theorem u_app : m1P .append (.loc n) x s = match s[n]? with
      | some (.lst xs) => if xs.length < SZ then .ok .non (s.set n (.lst (xs ++ [x]))) else .bad
      | _ => .bad := rfl
@[simp] theorem u_ext (m : Nat) : m1P .extend (.loc n) (.loc m) s = match s[n]?, s[m]? with
      | some (.lst xs), some (.lst ys) => if xs.length + ys.length ≤ SZ then .ok .non (s.set n (.lst (xs ++ ys))) else .bad
      | _, _ => .bad := rfl
@[simp] theorem u_pop : m0P .pop (.loc n) s = match s[n]? with
      | some (.lst xs) => match xs[xs.length - 1]? with
        | some x => .ok x (s.set n (.lst xs.dropLast))
        | none => .bad
      | _ => .bad := rfl
@[simp] theorem u_items : m0P .items (.loc n) s = match s[n]? with
      | some (.dct false kvs) => alloc (.lst (kvs.map fun kv => .tup [kv.1, kv.2])) s
      | _ => .bad := rfl
@[simp] theorem u_keys : m0P .keys (.loc n) s = match s[n]? with
      | some (.dct false kvs) => alloc (.lst (kvs.map (·.1))) s
      | _ => .bad := rfl
@[simp] theorem u_ixI : ixP (.loc n) i s = match s[n]? with
    | some (.lst xs) => match i with
      | .int k => ofO (atI xs k) s
      | _ => .bad
    | some (.dct lk kvs) => if keyOk lk i kvs then ofO (dget kvs i) s else .bad
    | _ => .bad := rfl
@[simp] theorem u_ixG : ixG (.loc n) i s = match s[n]? with
    | some (.lst xs) => match i with
      | .int k => ofO (atI xs k) s
      | _ => .bad
    | some (.dct lk kvs) => if keyOk lk i kvs then ofO (dget kvs i) s else .bad
    | _ => .bad := rfl
@[simp] theorem u_len : b1P .len (.loc n) s = match s[n]? with
      | some (.dct false kvs) => .ok (.int kvs.length) s
      | _ => ofO ((lenP s (.loc n)).map fun n => .int n) s := rfl
@[simp] theorem u_lenP : lenP s (.loc n) = match s[n]? with
    | some (.lst xs) => some xs.length
    | _ => none := rfl
@[simp] theorem u_fld : fldP (.loc n) k s = match s[n]? with
    | some (.ins _ fs) => ofO (fget k fs) s
    | _ => .bad := rfl
@[simp] theorem u_stF : stF ok (.loc n) k x s = match s[n]? with
    | some (.ins c fs) => if ok c k = true ∧ fs.length < 1000 then .ok () (s.set n (.ins c (fput k x fs))) else .bad
    | _ => .bad := rfl
@[simp] theorem u_st : stIx (.loc n) i x s = match s[n]? with
    | some (.dct false kvs) => if keyOk false i kvs = true ∧ kvs.length < SZ then .ok () (s.set n (.dct false (dput kvs i x))) else .bad
    | _ => stI (.loc n) i x s := rfl
@[simp] theorem u_stI : stI (.loc n) (.int j) x s = match s[n]? with
    | some (.lst xs) => match ixN xs.length j with
        | some m => .ok () (s.set n (.lst (xs.set m x)))
        | none => .bad
    | _ => .bad := rfl
@[simp] theorem u_get : m2P .get (.loc n) x y s = match s[n]? with
      | some (.dct lk kvs) => if keyOk lk x kvs then .ok ((dget kvs x).getD y) s else .bad
      | _ => .bad := rfl
@[simp] theorem u_setd : m2P .setdefault (.loc n) x y s = match s[n]? with
      | some (.dct false kvs) => if tupK x = true ∧ (kvs.all fun kv => tupK kv.1) = true ∧ kvs.length < SZ then
          match dget kvs x with
          | some v => .ok v s
          | none => .ok y (s.set n (.dct false (dput kvs x y)))
        else .bad
      | _ => .bad := rfl
@[simp] theorem u_tru : truth s (.loc n) = match s[n]? with
    | some (.lst xs) => some !xs.isEmpty
    | _ => none := rfl
@[simp] theorem u_inn : cmpP .inn x (.loc n) s = match s[n]? with
      | some (.dct lk kvs) => if keyOk lk x kvs then .ok (.bl (dget kvs x).isSome) s else .bad
      | _ => .bad := rfl
@[simp] theorem u_nin : cmpP .nin x (.loc n) s = match s[n]? with
      | some (.dct lk kvs) => if keyOk lk x kvs then .ok (.bl !(dget kvs x).isSome) s else .bad
      | _ => .bad := rfl
end
end Pa
namespace Pa
theorem filterMap_map {α : Type} {g : α → P} {o : P → Option P} {o' : α → Option P} (ys : List α) (h : ∀ y ∈ ys, o (g y) = o' y) : (ys.map g).filterMap o = ys.filterMap o' := by
  induction ys with
  | nil => rfl
  | cons y ys ih =>
    rw [List.map_cons, List.filterMap_cons, List.filterMap_cons, h y (by simp), ih fun z hz => h z (by simp [hz])]
open Classical in
/-- a comprehension over ys.map g; o: what each element gives, none: left out -/
theorem ok_lcf {α : Type} {G : Env} {t : Tg} {it : It} {cs : Exs} {e : Ex} {own : List Nat} {l : Loc} {s s1 : S} {gd : S → Prop} {Q : P → S → Prop} (ys : List α) (g : α → P) (o : α → Option P) (hw : evIA G it l s = .ok (ys.map g, gd) s1) (hg : gd s1)
    (hf : ∀ y ∈ ys, ((ofO (bindT t (g y) (wipe l own)) s1).bind fun l2 s => (evCA G cs l2 s).bind fun k s => if k = true then (evA G e l2 s).bind fun p s => .ok (some p) s else .ok none s) = .ok (o y) s1) (hl : ys.length ≤ SZ)
    (hQ : Q (.loc s1.length) (s1 ++ [.lst (ys.filterMap o)])) : Ok (evA G (.lc t it cs e own) l s) Q := by
  let F : P → R (Option P) := fun x => ((ofO (bindT t x (wipe l own)) s1).bind fun l2 s => (evCA G cs l2 s).bind fun k s => if k = true then (evA G e l2 s).bind fun p s => .ok (some p) s else .ok none s)
  let o' : P → Option P := fun x => match F x with
    | .ok a _ => a
    | _ => none
  have ho : ∀ y ∈ ys, o' (g y) = o y := fun y hy => by
    show (match F (g y) with | .ok a _ => a | _ => none) = o y
    rw [show F (g y) = _ from hf y hy]
  have := lc_pure (G := G) (t := t) (it := it) (cs := cs) (e := e) (own := own) (l := l) (s := s) o' hw hg (fun x hx => by
    obtain ⟨y, hy, rfl⟩ := List.mem_map.mp hx
    rw [ho y hy]
    exact hf y hy) (by simpa using hl)
  refine ok_eq this ?_
  rw [filterMap_map ys ho]
  exact hQ
theorem ok_lcm {α : Type} {G : Env} {t : Tg} {it : It} {e : Ex} {own : List Nat} {l : Loc} {s s1 : S} {gd : S → Prop} {Q : P → S → Prop} (ys : List α) (g : α → P) (f : α → P) (hw : evIA G it l s = .ok (ys.map g, gd) s1) (hg : gd s1)
    (hf : ∀ y ∈ ys, ((ofO (bindT t (g y) (wipe l own)) s1).bind fun l2 s => (evA G e l2 s)) = .ok (f y) s1) (hl : ys.length ≤ SZ)
    (hQ : Q (.loc s1.length) (s1 ++ [.lst (ys.map f)])) : Ok (evA G (.lc t it .nil e own) l s) Q := by
  refine ok_lcf ys g (fun y => some (f y)) hw hg (fun y hy => ?_) hl ?_
  · have := hf y hy
    obtain ⟨l2, s2, e1, e2⟩ := bind_eq_ok this
    rw [e1]
    simp only [bind_ok, ec_nil, if_true, e2]
  · have : ys.filterMap (fun y => some (f y)) = ys.map f := by simp
    rw [this]; exact hQ
end Pa
/-! Pb, part C: dicts whose keys are tuples of ints, whose values are ints; dicts that are walked. -/
namespace Pa
theorem gc_len {s s' : S} {p : P} (h : s'.length = s.length) : gc s (.ok p s') = .ok p s' := by
  unfold gc
  dsimp only
  split
  · rw [← h, List.take_length]
  · rfl
theorem ok_gcl {s : S} {r : R P} {Q : P → S → Prop} (h : Ok r fun p s1 => s1.length = s.length ∧ Q p s1) : Ok (gc s r) Q := by
  obtain ⟨p, s1, e, h1, h2⟩ := h
  rw [e]
  exact ⟨p, s1, gc_len h1, h2⟩
def iP (l : List Int) : P := .tup (l.map P.int)
theorem iP_inj {a b : List Int} (h : iP a = iP b) : a = b := by
  have e : a.map P.int = b.map P.int := by injection h
  induction a generalizing b with
  | nil => cases b with
    | nil => rfl
    | cons y ys => cases e
  | cons x xs ih => cases b with
    | nil => cases e
    | cons y ys =>
      rw [List.map_cons, List.map_cons] at e
      injection e with e1 e2
      injection e1 with e1
      rw [e1, ih (by unfold iP; rw [e2]) e2]
abbrev KV := List (List Int × Int)
def kvP (x : List Int × Int) : P × P := (iP x.1, .int x.2)
def getI : KV → List Int → Option Int
  | [], _ => none
  | (k, v) :: r, x => if k = x then some v else getI r x
def putI : KV → List Int → Int → KV
  | [], x, y => [(x, y)]
  | (k, v) :: r, x, y => if k = x then (k, y) :: r else (k, v) :: putI r x y
def addI (d : KV) (k : List Int) (m : Int) : KV := putI d k ((getI d k).getD 0 + m)
open Classical in
theorem dget_kv (x : List Int) : ∀ d : KV, dget (d.map kvP) (iP x) = (getI d x).map P.int
  | [] => rfl
  | (k, v) :: r => by
    show (if iP k = iP x then some (P.int v) else dget (r.map kvP) (iP x)) = _
    unfold getI
    by_cases h : k = x
    · subst h; rw [if_pos rfl, if_pos rfl]; rfl
    · rw [if_neg h, if_neg fun z => h (iP_inj z), dget_kv x r]
open Classical in
theorem dput_kv (x : List Int) (y : Int) : ∀ d : KV, dput (d.map kvP) (iP x) (.int y) = (putI d x y).map kvP
  | [] => rfl
  | (k, v) :: r => by
    show (if iP k = iP x then (iP k, P.int y) :: r.map kvP else (iP k, P.int v) :: dput (r.map kvP) (iP x) (.int y)) = _
    unfold putI
    by_cases h : k = x
    · subst h; rw [if_pos rfl, if_pos rfl]; rfl
    · rw [if_neg h, if_neg fun z => h (iP_inj z), dput_kv x y r]; rfl
theorem putI_len (d : KV) (k : List Int) (v : Int) : (putI d k v).length ≤ d.length + 1 := by
  induction d with
  | nil => simp [putI]
  | cons x r ih =>
    obtain ⟨a, b⟩ := x
    unfold putI
    split <;> simp <;> omega
theorem tupK_iP (k : List Int) : tupK (iP k) = true := by
  unfold iP tupK
  simp [flatK]
theorem keyOk_kv (k : List Int) (d : KV) : keyOk false (iP k) (d.map kvP) = true := by
  unfold keyOk
  have : (d.map kvP).all (fun kv => tupK kv.1) = true := by
    rw [List.all_eq_true]
    intro x hx
    obtain ⟨y, _, rfl⟩ := List.mem_map.mp hx
    exact tupK_iP _
  rw [tupK_iP, this]
  simp
/-- a linear look at a dict -/
def dsum (f : List Int → Int) : KV → Int
  | [] => 0
  | (k, v) :: r => v * f k + dsum f r
theorem dsum_put (f : List Int → Int) (k : List Int) (v : Int) : ∀ d : KV, dsum f (putI d k v) = dsum f d + (v - (getI d k).getD 0) * f k
  | [] => by simp [putI, getI, dsum]
  | (a, b) :: r => by
    unfold putI getI
    by_cases h : a = k
    · subst h
      simp [dsum, Int.sub_mul]
      omega
    · simp [h, dsum, dsum_put f k v r]
      omega
theorem dsum_add (f : List Int → Int) (d : KV) (k : List Int) (m : Int) : dsum f (addI d k m) = dsum f d + m * f k := by
  unfold addI
  rw [dsum_put]
  congr 1
  congr 1
  omega
open Classical in
theorem x_forD (G : Env) (t : Tg) (itm : Bool) (a : Ex) (b : Sms) (l : Loc) (s : S) : exA G (.forD t itm a b) l s = (evA G a l s).bind fun p s => match lockD p s with
    | some (n, kvs, s) => (forL (locked n kvs) (fun x l s => (ofO (bindT t x l) s).bind fun l s => exsA G b l s) (walkD itm kvs) l s).bind fun fl s => if locked n kvs s then .ok fl (s.set n (.dct false kvs)) else .bad
    | none => .bad := by
  simp only [exA_eq, evA_eq, exsA_eq, ex]
  all_goals rfl
theorem ok_forD {G : Env} {t : Tg} {itm : Bool} {a : Ex} {b : Sms} {l : Loc} {s : S} {n : Nat} {kvs : List (P × P)} {Q : Fl → S → Prop} (Inv : Nat → Loc → S → Prop) (he : evA G a l s = .ok (.loc n) s) (hn : s[n]? = some (.dct false kvs)) (h0 : Inv 0 l (s.set n (.dct true kvs)))
    (hg : ∀ i l s, Inv i l s → s[n]? = some (.dct true kvs))
    (step : ∀ i x l s, (walkD itm kvs)[i]? = some x → Inv i l s → Ok ((ofO (bindT t x l) s).bind fun l s => exsA G b l s) fun fl s' => match fl with
      | .nx l' => Inv (i + 1) l' s'
      | .cnt l' => Inv (i + 1) l' s'
      | _ => False) (hd : ∀ l s, Inv (walkD itm kvs).length l s → Q (.nx l) (s.set n (.dct false kvs))) : Ok (exA G (.forD t itm a b) l s) Q := by
  rw [x_forD, he, bind_ok]
  have hk : lockD (.loc n) s = some (n, kvs, s.set n (.dct true kvs)) := by unfold lockD; simp only [hn]
  simp only [hk]
  obtain ⟨fl, s', e, l', rfl, q⟩ := forL_run (g := locked n kvs) (f := fun x l s => (ofO (bindT t x l) s).bind fun l s => exsA G b l s) (xs := walkD itm kvs) (l := l) (s := s.set n (.dct true kvs)) Inv (fun fl s' => ∃ l', fl = .nx l' ∧ Inv (walkD itm kvs).length l' s') h0 (fun i l s _ h => hg i l s h) (fun i x l s hx h => by
    obtain ⟨fl, s', e, q⟩ := step i x l s hx h
    refine ⟨fl, s', e, ?_⟩
    cases fl with
    | nx l' => exact q
    | cnt l' => exact q
    | brk l' => exact q.elim
    | ret p => exact q.elim) (fun l s h => ⟨l, rfl, h⟩)
  rw [e, bind_ok, if_pos (show locked n kvs s' from hg _ _ _ q)]
  exact ⟨_, _, rfl, hd _ _ q⟩
end Pa
/-! Pb, part D: dicts by an injective writing of keys; order of sorted; small list lemmas. -/
namespace Pa
section
variable {κ α : Type} [DecidableEq κ]
def getG : List (κ × α) → κ → Option α
  | [], _ => none
  | (k, v) :: r, x => if k = x then some v else getG r x
def putG : List (κ × α) → κ → α → List (κ × α)
  | [], x, y => [(x, y)]
  | (k, v) :: r, x, y => if k = x then (k, y) :: r else (k, v) :: putG r x y
open Classical in
theorem dget_g {e : κ → P} {v : α → P} (he : ∀ a b, e a = e b → a = b) (x : κ) : ∀ d : List (κ × α), dget (d.map fun z => (e z.1, v z.2)) (e x) = (getG d x).map v
  | [] => rfl
  | (k, w) :: r => by
    show (if e k = e x then some (v w) else dget (r.map fun z => (e z.1, v z.2)) (e x)) = _
    unfold getG
    by_cases h : k = x
    · subst h; rw [if_pos rfl, if_pos rfl]; rfl
    · rw [if_neg h, if_neg fun z => h (he _ _ z), dget_g he x r]
open Classical in
theorem dput_g {e : κ → P} {v : α → P} (he : ∀ a b, e a = e b → a = b) (x : κ) (y : α) : ∀ d : List (κ × α), dput (d.map fun z => (e z.1, v z.2)) (e x) (v y) = (putG d x y).map fun z => (e z.1, v z.2)
  | [] => rfl
  | (k, w) :: r => by
    show (if e k = e x then (e k, v y) :: r.map (fun z => (e z.1, v z.2)) else (e k, v w) :: dput (r.map fun z => (e z.1, v z.2)) (e x) (v y)) = _
    unfold putG
    by_cases h : k = x
    · subst h; rw [if_pos rfl, if_pos rfl]; rfl
    · rw [if_neg h, if_neg fun z => h (he _ _ z), dput_g he x y r]; rfl
theorem putG_len (d : List (κ × α)) (k : κ) (v : α) : (putG d k v).length ≤ d.length + 1 := by
  induction d with
  | nil => simp [putG]
  | cons x r ih =>
    obtain ⟨a, b⟩ := x
    unfold putG
    split <;> simp <;> omega
theorem putG_mem {d : List (κ × α)} {k : κ} {v : α} {x : κ × α} (h : x ∈ putG d k v) : x = (k, v) ∨ x ∈ d := by
  induction d with
  | nil => have : x = (k, v) := by simpa [putG] using h
           exact .inl this
  | cons a r ih =>
    obtain ⟨a, b⟩ := a
    unfold putG at h
    split at h
    · rename_i e
      subst e
      rcases List.mem_cons.mp h with z | z
      · exact .inl z
      · exact .inr (List.mem_cons_of_mem _ z)
    · rcases List.mem_cons.mp h with z | z
      · exact .inr (by rw [z]; exact List.mem_cons_self ..)
      · rcases ih z with z | z
        · exact .inl z
        · exact .inr (List.mem_cons_of_mem _ z)
theorem getG_put (d : List (κ × α)) (k x : κ) (v : α) : getG (putG d k v) x = if k = x then some v else getG d x := by
  induction d with
  | nil => rfl
  | cons a r ih =>
    obtain ⟨a, b⟩ := a
    unfold putG
    by_cases h : a = k
    · subst h
      rw [if_pos rfl]
      unfold getG
      by_cases h2 : a = x
      · rw [if_pos h2, if_pos h2]
      · rw [if_neg h2, if_neg h2, if_neg h2]
    · rw [if_neg h]
      unfold getG
      rw [ih]
      by_cases h2 : a = x
      · subst h2; rw [if_pos rfl, if_neg (Ne.symm h), if_pos rfl]
      · rw [if_neg h2, if_neg h2]
theorem getG_mem {d : List (κ × α)} {x : κ} {v : α} (h : getG d x = some v) : (x, v) ∈ d := by
  induction d with
  | nil => cases h
  | cons a r ih =>
    obtain ⟨a, b⟩ := a
    unfold getG at h
    split at h
    · rename_i e; subst e; cases h; exact List.mem_cons_self ..
    · exact List.mem_cons_of_mem _ (ih h)
theorem getG_none {d : List (κ × α)} {x : κ} (h : getG d x = none) : ∀ v, (x, v) ∉ d := by
  induction d with
  | nil => intro v hv; cases hv
  | cons a r ih =>
    obtain ⟨a, b⟩ := a
    unfold getG at h
    split at h
    · cases h
    · rename_i e
      intro v hv
      rcases List.mem_cons.mp hv with z | z
      · injection z with z1 z2; exact e z1.symm
      · exact ih h v z
/-- the keys stay different -/
theorem putG_nd {d : List (κ × α)} {k : κ} {v : α} (h : (d.map (·.1)).Nodup) : ((putG d k v).map (·.1)).Nodup := by
  induction d with
  | nil => simp [putG]
  | cons a r ih =>
    obtain ⟨a, b⟩ := a
    unfold putG
    rw [List.map_cons, List.nodup_cons] at h
    split
    · rw [List.map_cons, List.nodup_cons]; exact h
    · rename_i e
      rw [List.map_cons, List.nodup_cons]
      refine ⟨fun z => ?_, ih h.2⟩
      obtain ⟨y, hy, hy2⟩ := List.mem_map.mp z
      rcases putG_mem hy with q | q
      · rw [q] at hy2; exact e hy2.symm
      · exact h.1 (List.mem_map.mpr ⟨y, q, hy2⟩)
/-- a linear look at a dict of numbers -/
def gsum (f : κ → Int) : List (κ × Int) → Int
  | [] => 0
  | (k, v) :: r => v * f k + gsum f r
theorem gsum_put (f : κ → Int) (k : κ) (v : Int) : ∀ d : List (κ × Int), gsum f (putG d k v) = gsum f d + (v - (getG d k).getD 0) * f k
  | [] => by simp [putG, getG, gsum]
  | (a, b) :: r => by
    unfold putG getG
    by_cases h : a = k
    · subst h
      simp [gsum, Int.sub_mul]
      omega
    · simp [h, gsum, gsum_put f k v r]
      omega
theorem gsum_add (f : κ → Int) (d : List (κ × Int)) (k : κ) (m : Int) : gsum f (putG d k ((getG d k).getD 0 + m)) = gsum f d + m * f k := by
  rw [gsum_put]
  congr 1
  congr 1
  omega
theorem gsum_perm (f : κ → Int) {a b : List (κ × Int)} (h : a.Perm b) : gsum f a = gsum f b := by
  induction h with
  | nil => rfl
  | cons x _ ih => obtain ⟨k, v⟩ := x; simp [gsum, ih]
  | swap x y l => obtain ⟨k, v⟩ := x; obtain ⟨k', v'⟩ := y; simp [gsum]; omega
  | trans _ _ h1 h2 => rw [h1, h2]
end
theorem keyOk_flat {κ : Type} {e : κ → P} {v : κ × α → P} (he : ∀ k, flatK (e k) = true) (k : κ) (d : List (κ × α)) : keyOk false (e k) (d.map fun z => (e z.1, v z)) = true := by
  unfold keyOk
  have : (d.map fun z => (e z.1, v z)).all (fun kv => flatK kv.1) = true := by
    rw [List.all_eq_true]
    intro x hx
    obtain ⟨y, _, rfl⟩ := List.mem_map.mp hx
    exact he _
  rw [he, this]
  simp
theorem keyOk_tup {κ : Type} {e : κ → P} {v : κ × α → P} (he : ∀ k, tupK (e k) = true) (k : κ) (d : List (κ × α)) : keyOk false (e k) (d.map fun z => (e z.1, v z)) = true := by
  unfold keyOk
  have : (d.map fun z => (e z.1, v z)).all (fun kv => tupK kv.1) = true := by
    rw [List.all_eq_true]
    intro x hx
    obtain ⟨y, _, rfl⟩ := List.mem_map.mp hx
    exact he _
  rw [he, this]
  simp
theorem map_range_set {α : Type} (N : Nat) (f g : Nat → α) (t : Nat) (v : α) (h : g t = v) (h2 : ∀ j, j ≠ t → g j = f j) : ((List.range N).map f).set t v = (List.range N).map g := by
  apply List.ext_getElem (by simp)
  intro i h3 h4
  rw [List.getElem_set]
  by_cases e : t = i
  · subst e; simp [h]
  · simp [e, h2 i (Ne.symm e)]
/-- two sorted lists with the same things are the same -/
theorem sorted_one {α : Type} {le : α → α → Prop} : ∀ {a b : List α}, a.Perm b → (∀ x ∈ a, ∀ y ∈ a, le x y → le y x → x = y) → a.Pairwise le → b.Pairwise le → a = b
  | [], b, h, _, _, _ => (List.nil_perm.mp h).symm
  | x :: xs, b, h, hs, ha, hb => by
    cases b with
    | nil => exact absurd h.length_eq (by simp)
    | cons y ys =>
      rw [List.pairwise_cons] at ha hb
      have e : x = y := by
        have hx : x ∈ y :: ys := h.mem_iff.mp (List.mem_cons_self ..)
        have hy : y ∈ x :: xs := h.mem_iff.mpr (List.mem_cons_self ..)
        rcases List.mem_cons.mp hx with z | z
        · exact z
        · rcases List.mem_cons.mp hy with w | w
          · exact w.symm
          · exact hs x (List.mem_cons_self ..) y hy (ha.1 _ w) (hb.1 _ z)
      subst e
      rw [sorted_one ((List.perm_cons x).mp h) (fun p hp q hq => hs p (List.mem_cons_of_mem _ hp) q (List.mem_cons_of_mem _ hq)) ha.2 hb.2]
theorem dataLe_pair (xs : List P) : (xs.mergeSort (PySem.W.dataLe false pd)).Pairwise fun a b => PySem.W.dataLe false pd a b = true := by
  have T := PySem.W.sortLe_total (PyProof.Rows.listOrd PyProof.Rows.itemOrd) false (fun b : P => PySem.W.keyToks (pd b))
  exact List.pairwise_mergeSort (le := PySem.W.dataLe false pd) (fun a b c h1 h2 => T.trans a b c h1 h2) (fun a b => Bool.or_eq_true_iff.mpr (T.total a b)) xs
theorem sortP_perm {xs ys : List P} (h : sortP xs = some ys) : ys.Perm xs ∧ ys.Pairwise fun a b => PySem.W.dataLt (pd b) (pd a) = false := by
  unfold sortP at h
  split at h
  · cases h
    refine ⟨List.mergeSort_perm _ _, (dataLe_pair xs).imp ?_⟩
    intro a b hab
    rw [PySem.W.dataLe_eq] at hab
    simpa using hab
  · cases h
end Pa
/-! Pb, part E: while, comprehensions of two fors, over dicts. -/
namespace Pa
theorem whlN_mono {c : Loc → S → R Bool} {b : Loc → S → R Fl} : ∀ (n : Nat) (l : Loc) (s : S), whlN c b n l s ≠ .bad → whlN c b (n + 1) l s = whlN c b n l s
  | 0, _, _, h => absurd rfl h
  | n + 1, l, s, h => by
    unfold whlN at h ⊢
    cases e : c l s with
    | bad => rfl
    | exc a x s' => rfl
    | ok k s1 =>
      rw [e] at h
      simp only [bind_ok] at h ⊢
      cases k with
      | false => rfl
      | true =>
        simp only [if_true] at h ⊢
        cases e2 : b l s1 with
        | bad => rfl
        | exc a x s' => rfl
        | ok fl s2 =>
          rw [e2] at h
          simp only [bind_ok] at h ⊢
          cases fl with
          | nx l' => exact whlN_mono n l' s2 h
          | cnt l' => exact whlN_mono n l' s2 h
          | brk l' => rfl
          | ret p => rfl
theorem whlN_more {c : Loc → S → R Bool} {b : Loc → S → R Fl} {n : Nat} {l : Loc} {s : S} (h : whlN c b n l s ≠ .bad) : ∀ k, whlN c b (n + k) l s = whlN c b n l s
  | 0 => rfl
  | k + 1 => by
    have ih := whlN_more h k
    rw [← ih]
    exact whlN_mono (n + k) l s (by rw [ih]; exact h)
theorem whl_of {c : Loc → S → R Bool} {b : Loc → S → R Fl} {n : Nat} {l : Loc} {s s' : S} {fl : Fl} (h : whlN c b n l s = .ok fl s') : whl c b l s = .ok fl s' := by
  have hn : whlN c b n l s ≠ .bad := by rw [h]; intro z; cases z
  have hx : ∃ n, whlN c b n l s ≠ .bad := ⟨n, hn⟩
  unfold whl
  rw [dif_pos hx]
  have hc := hx.choose_spec
  rw [← whlN_more hc n, Nat.add_comm, whlN_more hn, h]
theorem x_whl (G : Env) (c : Ex) (b : Sms) (l : Loc) (s : S) : exA G (.whl c b) l s = whl (cond G c) (exsA G b) l s := by
  simp only [exA_eq, exsA_eq, ex]
theorem ok_whl {G : Env} {c : Ex} {b : Sms} {l : Loc} {s : S} {Q : Fl → S → Prop} (Inv : Nat → Loc → S → Prop) {m : Nat} (h0 : Inv m l s)
    (step : ∀ m l s, Inv m l s → Ok (cond G c l s) fun k s' => if k = true then Ok (exsA G b l s') fun fl s'' => match fl with
      | .nx l' => ∃ m', m' < m ∧ Inv m' l' s''
      | .cnt l' => ∃ m', m' < m ∧ Inv m' l' s''
      | .brk l' => Q (.nx l') s''
      | .ret p => Q (.ret p) s'' else Q (.nx l) s') : Ok (exA G (.whl c b) l s) Q := by
  rw [x_whl]
  suffices h : ∀ (n m : Nat) (l : Loc) (s : S), m ≤ n → Inv m l s → ∃ fl s', whlN (cond G c) (exsA G b) (n + 1) l s = .ok fl s' ∧ Q fl s' by
    obtain ⟨fl, s', e, q⟩ := h m m l s (Nat.le_refl _) h0
    exact ⟨fl, s', whl_of e, q⟩
  intro n
  induction n with
  | zero =>
    intro m l s hm iv
    obtain ⟨k, s1, e1, q1⟩ := step m l s iv
    unfold whlN
    rw [e1, bind_ok]
    cases k with
    | false => exact ⟨_, _, rfl, by simpa using q1⟩
    | true =>
      simp only [if_true] at q1 ⊢
      obtain ⟨fl, s2, e2, q2⟩ := q1
      rw [e2, bind_ok]
      cases fl with
      | nx l' => obtain ⟨m', hm', _⟩ := q2; omega
      | cnt l' => obtain ⟨m', hm', _⟩ := q2; omega
      | brk l' => exact ⟨_, _, rfl, q2⟩
      | ret p => exact ⟨_, _, rfl, q2⟩
  | succ n ih =>
    intro m l s hm iv
    obtain ⟨k, s1, e1, q1⟩ := step m l s iv
    unfold whlN
    rw [e1, bind_ok]
    cases k with
    | false => exact ⟨_, _, rfl, by simpa using q1⟩
    | true =>
      simp only [if_true] at q1 ⊢
      obtain ⟨fl, s2, e2, q2⟩ := q1
      rw [e2, bind_ok]
      cases fl with
      | nx l' => obtain ⟨m', hm', iv'⟩ := q2; exact ih m' l' s2 (by omega) iv'
      | cnt l' => obtain ⟨m', hm', iv'⟩ := q2; exact ih m' l' s2 (by omega) iv'
      | brk l' => exact ⟨_, _, rfl, q2⟩
      | ret p => exact ⟨_, _, rfl, q2⟩
/-- a comprehension over a dict -/
theorem e_lcD (G : Env) (t : Tg) (itm : Bool) (a : Ex) (cs : Exs) (e : Ex) (own : List Nat) (l : Loc) (s : S) : evA G (.lcD t itm a cs e own) l s = (evA G a l s).bind fun p s => match lockD p s with
    | some (n, kvs, s) => (lcL (locked n kvs) (fun x s => (ofO (bindT t x (wipe l own)) s).bind fun l2 s => (evCA G cs l2 s).bind fun k s => if k = true then (evA G e l2 s).bind fun p s => .ok (some p) s else .ok none s) (walkD itm kvs) [] s).bind fun acc s =>
        alloc (.lst acc) (s.set n (.dct false kvs))
    | none => .bad := by
  simp only [evA_eq, evCA_eq, ev]
  all_goals rfl
open Classical in
theorem ok_lcD {α : Type} {G : Env} {t : Tg} {itm : Bool} {a : Ex} {cs : Exs} {e : Ex} {own : List Nat} {l : Loc} {s s1 : S} {n : Nat} {kvs : List (P × P)} {Q : P → S → Prop} (ys : List α) (g : α → P) (o : α → Option P) (hw : evA G a l s = .ok (.loc n) s1) (hn : s1[n]? = some (.dct false kvs)) (hy : walkD itm kvs = ys.map g)
    (hf : ∀ y ∈ ys, ((ofO (bindT t (g y) (wipe l own)) (s1.set n (.dct true kvs))).bind fun l2 s => (evCA G cs l2 s).bind fun k s => if k = true then (evA G e l2 s).bind fun p s => .ok (some p) s else .ok none s) = .ok (o y) (s1.set n (.dct true kvs))) (hl : ys.length ≤ SZ)
    (hQ : Q (.loc s1.length) (s1 ++ [.lst (ys.filterMap o)])) : Ok (evA G (.lcD t itm a cs e own) l s) Q := by
  have hnl := (List.getElem?_eq_some_iff.mp hn).1
  have hk : lockD (.loc n) s1 = some (n, kvs, s1.set n (.dct true kvs)) := by unfold lockD; simp only [hn]
  let F : P → R (Option P) := fun x => ((ofO (bindT t x (wipe l own)) (s1.set n (.dct true kvs))).bind fun l2 s => (evCA G cs l2 s).bind fun k s => if k = true then (evA G e l2 s).bind fun p s => .ok (some p) s else .ok none s)
  let o' : P → Option P := fun x => match F x with
    | .ok a _ => a
    | _ => none
  have ho : ∀ y ∈ ys, o' (g y) = o y := fun y hy => by
    show (match F (g y) with | .ok a _ => a | _ => none) = o y
    rw [show F (g y) = _ from hf y hy]
  have h1 := lcL_pure (g := locked n kvs) (f := fun x s => (ofO (bindT t x (wipe l own)) s).bind fun l2 s => (evCA G cs l2 s).bind fun k s => if k = true then (evA G e l2 s).bind fun p s => .ok (some p) s else .ok none s) (xs := ys.map g) (s := s1.set n (.dct true kvs)) o' (show _ = _ from List.getElem?_set_self hnl) (fun x hx => by
    obtain ⟨y, hy, rfl⟩ := List.mem_map.mp hx
    rw [ho y hy]
    exact hf y hy) (by simpa using hl)
  rw [filterMap_map ys ho] at h1
  rw [e_lcD, hw, bind_ok]
  simp only [hk]
  rw [hy, h1, bind_ok, List.set_set]
  have e2 : s1.set n (.dct false kvs) = s1 := List.ext_getElem? fun j => by
    by_cases hj : j = n
    · subst hj; rw [List.getElem?_set_self hnl, hn]
    · rw [List.getElem?_set_ne (Ne.symm hj)]
  rw [e2]
  exact ⟨_, _, rfl, hQ⟩
theorem e_lc2 (G : Env) (t : Tg) (it : It) (cs : Exs) (t2 : Tg) (it2 : It) (cs2 : Exs) (e : Ex) (own own2 : List Nat) (l : Loc) (s : S) : evA G (.lc2 t it cs t2 it2 cs2 e own own2) l s = (evIA G it l s).bind fun w s =>
      (lcI w.2 (fun x acc s => (ofO (bindT t x (wipe l own)) s).bind fun l2 s => (evCA G cs l2 s).bind fun k s => if k = true then
          (evIA G it2 l2 s).bind fun w2 s =>
            lcL w2.2 (fun x s => (ofO (bindT t2 x (wipe l2 own2)) s).bind fun l3 s => (evCA G cs2 l3 s).bind fun k s => if k = true then (evA G e l3 s).bind fun p s => .ok (some p) s else .ok none s) w2.1 acc s
        else .ok acc s) w.1 [] s).bind fun acc s => alloc (.lst acc) s := by
  simp only [evA_eq, evCA_eq, evIA_eq, ev]
/-- the inner comprehension goes on from acc; its elements change nothing -/
theorem lcL_from {g : S → Prop} {f : P → S → R (Option P)} {s : S} (o : P → Option P) (hg : g s) : ∀ (xs acc : List P), (∀ x ∈ xs, f x s = .ok (o x) s) → acc.length + xs.length ≤ SZ → lcL g f xs acc s = .ok (acc ++ xs.filterMap o) s
  | [], acc, _, _ => by
    unfold lcL
    rw [if_pos hg]
    simp
  | x :: xs, acc, hf, hl => by
    unfold lcL
    rw [if_pos hg, hf x (List.mem_cons_self ..), bind_ok]
    simp only [List.length_cons] at hl
    cases e : o x with
    | some y =>
      dsimp only
      rw [if_pos (by omega), lcL_from o hg xs (acc ++ [y]) (fun z hz => hf z (List.mem_cons_of_mem _ hz)) (by simp; omega)]
      simp [e]
    | none =>
      dsimp only
      rw [lcL_from o hg xs acc (fun z hz => hf z (List.mem_cons_of_mem _ hz)) (by omega)]
      simp [e]
/-- two fors without tests; nothing changes -/
theorem ok_lc2 {α : Type} {G : Env} {t : Tg} {it : It} {t2 : Tg} {it2 : It} {e : Ex} {own own2 : List Nat} {l : Loc} {s s1 : S} {gd : S → Prop} {Q : P → S → Prop} (ys : List α) (g : α → P) (f : α → List P) (N : Nat) (hw : evIA G it l s = .ok (ys.map g, gd) s1) (hg : gd s1)
    (hf : ∀ y ∈ ys, ∃ l2 xs gd2 o, bindT t (g y) (wipe l own) = some l2 ∧ evIA G it2 l2 s1 = .ok (xs, gd2) s1 ∧ gd2 s1 ∧ (∀ x ∈ xs, ((ofO (bindT t2 x (wipe l2 own2)) s1).bind fun l3 s => evA G e l3 s) = .ok (o x) s1) ∧ xs.map o = f y)
    (hN : ∀ y ∈ ys, (f y).length ≤ N) (hl : ys.length * N ≤ SZ)
    (hQ : Q (.loc s1.length) (s1 ++ [.lst (ys.flatMap f)])) : Ok (evA G (.lc2 t it .nil t2 it2 .nil e own own2) l s) Q := by
  rw [e_lc2, hw, bind_ok]
  have key : ∀ (zs : List α) (acc : List P), (∀ y ∈ zs, y ∈ ys) → acc.length + zs.length * N ≤ SZ → lcI gd (fun x acc s => (ofO (bindT t x (wipe l own)) s).bind fun l2 s => (evCA G .nil l2 s).bind fun k s => if k = true then
          (evIA G it2 l2 s).bind fun w2 s =>
            lcL w2.2 (fun x s => (ofO (bindT t2 x (wipe l2 own2)) s).bind fun l3 s => (evCA G .nil l3 s).bind fun k s => if k = true then (evA G e l3 s).bind fun p s => .ok (some p) s else .ok none s) w2.1 acc s
        else .ok acc s) (zs.map g) acc s1 = .ok (acc ++ zs.flatMap f) s1 := by
    intro zs
    induction zs with
    | nil =>
      intro acc _ _
      rw [List.map_nil]
      unfold lcI
      rw [if_pos hg]
      simp
    | cons z zs ih =>
      intro acc hz hl
      rw [List.map_cons]
      unfold lcI
      rw [if_pos hg]
      obtain ⟨l2, xs, gd2, o, b1, b2, b3, b4, b5⟩ := hf z (hz z (List.mem_cons_self ..))
      have hlz := hN z (hz z (List.mem_cons_self ..))
      have hxl : xs.length = (f z).length := by rw [← b5, List.length_map]
      rw [List.length_cons, Nat.succ_mul] at hl
      rw [b1, ofO_some, bind_ok, ec_nil, bind_ok, if_pos rfl, b2, bind_ok]
      dsimp only
      rw [lcL_from (fun x => some (o x)) b3 xs acc (fun x hx => by
        obtain ⟨l3, s3, e1, e2⟩ := bind_eq_ok (b4 x hx)
        rw [e1]
        simp only [bind_ok, ec_nil, if_true, e2]) (by omega), bind_ok]
      have e3 : xs.filterMap (fun x => some (o x)) = f z := by rw [← b5]; simp
      rw [e3, ih _ (fun y hy => hz y (List.mem_cons_of_mem _ hy)) (by rw [List.length_append]; omega)]
      simp
  have := key ys [] (fun y hy => hy) (by simpa using hl)
  rw [this, bind_ok]
  exact ⟨_, _, rfl, by simpa using hQ⟩
end Pa
/-! Pb, part F: a jar of numbers from which the law draws. -/
namespace Pa
theorem runA_ok {G : Env} {d : Df} {args : List P} {s : S} (h : args.length = d.ps ∧ d.ps ≤ d.ns) : runA G d args s = gc s ((exsA G d.body (args.map some ++ List.replicate (d.ns - args.length) none) s).bind fun fl s => match fl with
      | .nx _ => .ok .non s
      | .ret p => .ok p s
      | _ => .bad) := by
  unfold runA
  rw [if_pos h]
  all_goals rfl
def Jar (j : Nat) (s : S) : Prop := ∃ t y : Int, ∃ xs : List Int, 0 ≤ t ∧ s[j]? = some (.lst ((t :: y :: xs).map P.int))
/-- the jar was drawn from, more came: all else is as it was -/
structure Jg (j : Nat) (s S : S) : Prop where
  len : s.length ≤ S.length
  jar : Jar j S
  old : ∀ i, i < s.length → i ≠ j → S[i]? = s[i]?
structure Jm (j : Nat) (s S : S) : Prop extends Jg j s S where
  same : S.length = s.length
theorem Jar.lt {j : Nat} {s : S} (h : Jar j s) : j < s.length := by
  obtain ⟨t, y, xs, _, h⟩ := h
  exact (List.getElem?_eq_some_iff.mp h).1
theorem Jg.refl {j : Nat} {s : S} (h : Jar j s) : Jg j s s := ⟨Nat.le_refl _, h, fun _ _ _ => rfl⟩
theorem Jg.trans {j : Nat} {a b c : S} (h : Jg j a b) (k : Jg j b c) : Jg j a c := ⟨Nat.le_trans h.len k.len, k.jar, fun i hi hj => (k.old i (Nat.lt_of_lt_of_le hi h.len) hj).trans (h.old i hi hj)⟩
theorem Jar.grow {j : Nat} {s s' : S} (h : Jar j s) (g : Grow s s') : Jar j s' := by
  obtain ⟨t, y, xs, h1, h2⟩ := h
  exact ⟨t, y, xs, h1, g.at h2⟩
theorem Jg.of_grow {j : Nat} {s s' : S} (h : Jar j s) (g : Grow s s') : Jg j s s' := ⟨g.len, h.grow g, fun i hi _ => by
  obtain ⟨t, rfl⟩ := g
  exact List.getElem?_append_left hi⟩
theorem Jg.add {j : Nat} {s s' : S} (h : Jg j s s') (o : S) : Jg j s (s' ++ o) := h.trans (Jg.of_grow h.jar Grow.add)
/-- something new is changed -/
theorem Jg.set {j : Nat} {s s' : S} (h : Jg j s s') {i : Nat} {o : O} (hi : s.length ≤ i) (hj : j < s.length) : Jg j s (s'.set i o) where
  len := by rw [List.length_set]; exact h.len
  jar := by
    obtain ⟨t, y, xs, h1, h2⟩ := h.jar
    exact ⟨t, y, xs, h1, by rw [List.getElem?_set_ne (by omega)]; exact h2⟩
  old k hk hkj := by
    rw [List.getElem?_set_ne (by omega)]
    exact h.old k hk hkj
theorem Jm.grow {j : Nat} {s s' : S} (h : Jm j s s') : Jg j s s' := h.toJg
theorem Jm.at {j : Nat} {s S : S} (h : Jm j s S) {i : Nat} {o : O} (hi : i ≠ j) (e : s[i]? = some o) : S[i]? = some o := by
  rw [h.old i (List.getElem?_eq_some_iff.mp e).1 hi]; exact e
theorem Jg.at {j : Nat} {s S : S} (h : Jg j s S) {i : Nat} {o : O} (hi : i ≠ j) (e : s[i]? = some o) : S[i]? = some o := by
  rw [h.old i (List.getElem?_eq_some_iff.mp e).1 hi]; exact e
theorem bnds_ints (n : Nat) : ∀ l : List Int, bnds n (l.map P.int) = true
  | [] => rfl
  | a :: l => by show (true && bnds n (l.map P.int)) = true; rw [bnds_ints n l]; rfl
/-- a call that draws and leaves no new thing behind -/
theorem ok_gcj {j : Nat} {s : S} {r : R P} {Q : P → Prop} (hj : j < s.length) (h : Ok r fun p s1 => bnd s.length p = true ∧ Jg j s s1 ∧ Q p) : Ok (gc s r) fun p s' => Jm j s s' ∧ Q p := by
  obtain ⟨p, s1, e, h1, h2, h3⟩ := h
  rw [e]
  obtain ⟨t, y, xs, t0, hx⟩ := h2.jar
  have c : Clean s p s1 := ⟨h1, fun i hi => by
    by_cases hij : i = j
    · subst hij
      exact .inr ⟨_, hx, bnds_ints _ _⟩
    · exact .inl (h2.old i hi hij)⟩
  refine ⟨p, s1.take s.length, ?_, ⟨⟨?_, ⟨t, y, xs, t0, ?_⟩, fun i hi hij => ?_⟩, ?_⟩, h3⟩
  · unfold gc
    dsimp only
    rw [if_pos c]
  · rw [List.length_take]; have := h2.len; omega
  · rw [List.getElem?_take_of_lt hj]; exact hx
  · rw [List.getElem?_take_of_lt hi]; exact h2.old i hi hij
  · rw [List.length_take]; have := h2.len; omega
/-- a call that draws and hands out something new -/
theorem ok_gcjn {j : Nat} {s : S} {r : R P} {Q : P → S → Prop} (h : Ok r fun p s1 => bnd s.length p = false ∧ Jg j s s1 ∧ Q p s1) : Ok (gc s r) fun p s' => Jg j s s' ∧ Q p s' := by
  obtain ⟨p, s1, e, h1, h2, h3⟩ := h
  rw [e]
  exact ⟨p, s1, gc_new h1, h2, h3⟩
theorem atI_in {α : Type} {xs : List α} {v : Int} (h0 : 0 ≤ v) (h1 : v < xs.length) : ∃ x ∈ xs, atI xs v = some x := by
  obtain ⟨k, rfl⟩ := Int.eq_ofNat_of_zero_le h0
  have hk : k < xs.length := by omega
  exact ⟨xs[k], List.getElem_mem hk, by rw [atI_nat, List.getElem?_eq_getElem hk]⟩
/-- xs != [] of pure things -/
theorem ne_nil (a b : Nat) (xs : List P) (s : S) (ha : s[a]? = some (.lst xs)) (hb : s[b]? = some (.lst [])) (hp : pures? xs = true) (hs : PySem.SeqAt.shaped (.list (pds xs)) = true) : cmpP .ne (.loc a) (.loc b) s = .ok (.bl !xs.isEmpty) s := by
  have e : eqD s (.loc a) (.loc b) = some xs.isEmpty := by
    unfold eqD dataOf
    dsimp only
    rw [ha, hb]
    dsimp only
    rw [if_neg (by simp [scalP]), if_pos hp, if_pos (by rfl)]
    dsimp only [Option.bind_some]
    rw [hs]
    rw [if_pos (by rfl)]
    cases xs with
    | nil => rfl
    | cons x r => rfl
  unfold cmpP
  dsimp only
  rw [e]
  rfl
theorem filterMap_if {α β : Type} (p : α → Bool) (f : α → β) (l : List α) : l.filterMap (fun t => if p t = true then some (f t) else none) = (l.filter p).map f := by
  induction l with
  | nil => rfl
  | cons t r ih =>
    rw [List.filterMap_cons, ih]
    cases hb : p t <;> simp [hb]
end Pa
namespace K98
open Pa
abbrev Term := Int × Int × Int
def tP (t : Term) : P := .tup [.int t.1, .int t.2.1, .int t.2.2]
structure Cl where
  p : Int
  ts : List Term
def cP (c : Cl) : P := .tup [.int c.p, .tup (c.ts.map tP)]
theorem s_counts_of (n : Nat) (c : Cl) (s : S) (h1 : c.ts ≠ []) (h2 : c.ts.length ≤ 1000) : callA pg (n + 1) 0 [cP c] s = .ok (iP (List.replicate c.ts.length 0)) s := by
  have hl : 1 ≤ c.ts.length := by cases h : c.ts with
    | nil => exact absurd h h1
    | cons a b => simp
  rw [calA (b := d0) rfl]
  simp [runA, d0, b0, cP, binP]
  rw [if_pos ⟨by omega, by omega⟩]
  simp [gc_same, iP]
/-- top_taken -/
def topT (ts : List Term) (cs : List Int) (p : Int) : List Int × Int := match ts, cs with
  | t :: ts, c :: cs => let r := topT ts cs p
    if t.1 = p ∧ c < t.2.1 then ((c + 1) :: r.1, r.2) else (c :: r.1, (if t.1 = p then t.2.2 else 0) + r.2)
  | _, _ => ([], 0)
theorem topT_cons (t : Term) (ts : List Term) (c : Int) (cs : List Int) (p : Int) : topT (t :: ts) (c :: cs) p =
    if t.1 = p ∧ c < t.2.1 then ((c + 1) :: (topT ts cs p).1, (topT ts cs p).2) else (c :: (topT ts cs p).1, (if t.1 = p then t.2.2 else 0) + (topT ts cs p).2) := rfl
theorem topT_len (p : Int) : ∀ (ts : List Term) (cs : List Int), cs.length = ts.length → (topT ts cs p).1.length = ts.length
  | [], [], _ => rfl
  | [], _ :: _, h => by simp at h
  | _ :: _, [], h => by simp at h
  | t :: ts, c :: cs, h => by
    have ih := topT_len p ts cs (by simpa using h)
    unfold topT
    dsimp only
    split <;> simp [ih]
@[simp] theorem bnd_ints (n : Nat) : ∀ l : List Int, bnds n (l.map P.int) = true
  | [] => rfl
  | a :: l => by show (true && bnds n (l.map P.int)) = true; rw [bnd_ints n l]; rfl
theorem s_top_taken (n : Nat) (c : Cl) (cs : List Int) (p : Int) (s : S) (h : cs.length = c.ts.length) (h2 : c.ts.length ≤ 1000) : callA pg (n + 1) 1 [cP c, iP cs, .int p] s = .ok (.tup [iP (topT c.ts cs p).1, .int (topT c.ts cs p).2]) s := by
  have key : Ok (callA pg (n + 1) 1 [cP c, iP cs, .int p] s) fun r s' => r = .tup [iP (topT c.ts cs p).1, .int (topT c.ts cs p).2] ∧ s' = s := by
    rw [calA (b := d1) rfl]
    simp [runA, d1, b1, cP, iP, alloc]
    refine ok_gc (ok_bind (ok_bind (ok_for (s1 := s ++ [.lst []]) (w := (zipP (c.ts.map tP) (cs.map P.int), fun _ => True)) (fun i l st => ∃ (acc : List Int) (num : Int) (a5 a6 a7 a8 : Option P), l = [some (P.tup [P.int c.p, P.tup (List.map tP c.ts)]), some (P.tup (List.map P.int cs)), some (P.int p), some (P.loc (List.length s)), some (P.int num), a5, a6, a7, a8] ∧ st = s ++ [.lst (acc.map P.int)] ∧
      acc.length = i ∧ acc ++ (topT (c.ts.drop i) (cs.drop i) p).1 = (topT c.ts cs p).1 ∧ num + (topT (c.ts.drop i) (cs.drop i) p).2 = (topT c.ts cs p).2) (by simp [stays]) ?_ (fun _ _ _ _ _ => trivial) ?_ ?_)))
    · exact ⟨[], 0, none, none, none, none, rfl, rfl, rfl, by simp, by simp⟩
    · rintro i x l st hx ⟨acc, num, a5, a6, a7, a8, rfl, rfl, q0, q1, q2⟩
      obtain ⟨a, b, h3, h4, rfl⟩ := zipP_at hx
      obtain ⟨t, h5, rfl⟩ := map_at h3
      obtain ⟨k, h6, rfl⟩ := map_at h4
      rw [drop_cons h5, drop_cons h6] at q1 q2
      have hi := (List.getElem?_eq_some_iff.mp h5).1
      have hz : i < SZ := by unfold SZ; omega
      rw [topT_cons] at q1 q2
      by_cases h7 : t.1 = p
      · by_cases h8 : k < t.2.1
        · simp [h7, h8] at q1 q2
          simp [tP, h7, h8, q0, hz]
          exact ⟨acc ++ [k + 1], by simp, by simp [q0], by simp [q1], by omega⟩
        · simp [h7, h8] at q1 q2
          simp [tP, h7, h8, q0, hz]
          exact ⟨acc ++ [k], by simp, by simp [q0], by simp [q1], by omega⟩
      · simp [h7] at q1 q2
        simp [tP, h7, q0, hz]
        exact ⟨acc ++ [k], by simp, by simp [q0], by simp [q1], by omega⟩
    · rintro l st ⟨acc, num, a5, a6, a7, a8, rfl, rfl, q0, q1, q2⟩
      have hz : (zipP (c.ts.map tP) (cs.map P.int)).length = c.ts.length := by unfold zipP; simp [h]
      dsimp only at q1 q2
      rw [hz, List.drop_length] at q1 q2
      simp [topT] at q1 q2
      simp [q1, q2, bnd, bnds, Grow.add]
  obtain ⟨r, s', e, rfl, rfl⟩ := key
  exact e
end K98
namespace K98
open Pa
/-- the ways on from a turn: counts behind, number -/
def moves (c : Cl) (p : Int) (cs : List Int) : List (List Int × Int) := topT c.ts cs p :: if p = c.p then [] else [(cs, 0)]
def mvP (x : List Int × Int) : P := .tup [iP x.1, .int x.2]
theorem bnd_loc (n : Nat) : bnd n (.loc n) = false := by simp [bnd]
theorem s_turn_moves (n : Nat) (c : Cl) (cs : List Int) (p : Int) (s : S) (h : cs.length = c.ts.length) (h2 : c.ts.length ≤ 1000) :
    callA pg (n + 2) 2 [cP c, .int p, iP cs] s = .ok (.loc s.length) (s ++ [.lst ((moves c p cs).map mvP)]) := by
  have key : Ok (callA pg (n + 2) 2 [cP c, .int p, iP cs] s) fun r s' => r = .loc s.length ∧ s' = s ++ [.lst ((moves c p cs).map mvP)] := by
    rw [calA (b := d2) rfl]
    simp [runA, d2, b2, s_top_taken, h, h2, alloc]
    refine ok_gcn ?_
    by_cases hp : p = c.p
    · simp [cP, hp, moves, mvP, bnd]
    · simp [cP, hp, moves, mvP, SZ, bnd]
  obtain ⟨r, s', e, rfl, rfl⟩ := key
  exact e
def trP (turns : List Int) : P := .tup [iP turns, .non]
theorem s_next_place (n : Nat) (turns : List Int) (k : Nat) (s : S) :
    callA pg (n + 1) 3 [trP turns, .int k] s = .ok (if k + 1 ≤ turns.length then .int (k + 1 : Nat) else .non) s := by
  have key : Ok (callA pg (n + 1) 3 [trP turns, .int k] s) fun r s' => r = (if k + 1 ≤ turns.length then .int (k + 1 : Nat) else .non) ∧ s' = s := by
    rw [calA (b := d3) rfl]
    simp [runA, d3, b3, trP, iP]
    refine ok_gc ?_
    by_cases h1 : (k : Int) + 1 < turns.length
    · have h2 : k + 1 ≤ turns.length := by omega
      simp [h1, h2, bnd, Grow.refl]
    · by_cases h3 : (k : Int) + 1 = turns.length
      · have h2 : k + 1 ≤ turns.length := by omega
        simp [h3, h2, bnd, Grow.refl]
      · have h2 : ¬ k + 1 ≤ turns.length := by omega
        simp [h1, h3, h2, bnd, Grow.refl]
  obtain ⟨r, s', e, rfl, rfl⟩ := key
  exact e
def goP (k : Nat) (x : List Int × Int) : P := .tup [.int (k + 1 : Nat), iP x.1, .int x.2]
def goOns (c : Cl) (turns : List Int) (k : Nat) (cs : List Int) : List P := match turns[k]? with
  | some p => (moves c p cs).map (goP k)
  | none => []
theorem bnds_map {α : Type} (n : Nat) (f : α → P) (h : ∀ a, bnd n (f a) = true) : ∀ l : List α, bnds n (l.map f) = true
  | [] => rfl
  | a :: l => by show (bnd n (f a) && bnds n (l.map f)) = true; rw [h, bnds_map n f h l]; rfl
theorem bnd_iP (n : Nat) (l : List Int) : bnd n (iP l) = true := bnd_ints n l
theorem bnd_goP (n k : Nat) (x : List Int × Int) : bnd n (goP k x) = true := by simp [goP, bnd, bnds, bnd_iP]
theorem moves_len (c : Cl) (p : Int) (cs : List Int) : (moves c p cs).length ≤ 2 := by unfold moves; split <;> simp
theorem s_go_ons (n : Nat) (c : Cl) (turns cs : List Int) (k : Nat) (s : S) (h : cs.length = c.ts.length) (h2 : c.ts.length ≤ 1000) :
    callA pg (n + 3) 4 [cP c, trP turns, .int k, iP cs] s = .ok (.tup (goOns c turns k cs)) s := by
  have key : Ok (callA pg (n + 3) 4 [cP c, trP turns, .int k, iP cs] s) fun r s' => r = .tup (goOns c turns k cs) ∧ s' = s := by
    rw [calA (b := d4) rfl]
    simp [runA, d4, b4, s_next_place]
    refine ok_gc ?_
    by_cases h1 : k + 1 ≤ turns.length
    · have hk : k < turns.length := by omega
      simp [h1]
      have e1 : (trP turns) = .tup [iP turns, .non] := rfl
      simp [e1, iP, atI_nat, hk]
      rw [← iP, s_turn_moves n c cs turns[k] s h h2]
      simp
      refine ok_bind (ok_bind (ok_bind (ok_bind ?_)))
      refine ok_lcm (s1 := s ++ [O.lst (List.map mvP (moves c turns[k] cs))]) (gd := stays (.loc s.length) (s ++ [O.lst (List.map mvP (moves c turns[k] cs))])) (moves c turns[k] cs) mvP (goP k) ?_ ?_ ?_ ?_ ?_
      · simp
      · rfl
      · intro y hy
        simp [mvP, goP, wipe]
      · exact Nat.le_trans (moves_len c _ cs) (by decide)
      have hg : goOns c turns k cs = (moves c turns[k] cs).map (goP k) := by unfold goOns; rw [List.getElem?_eq_getElem hk]
      simp [bnd, bnds_map _ _ (bnd_goP _ k), hg]
      exact ⟨_, rfl⟩
    · have hk : turns[k]? = none := List.getElem?_eq_none (by omega)
      simp [h1, goOns, hk, bnd, bnds, Grow.refl]
  obtain ⟨r, s', e, rfl, rfl⟩ := key
  exact e
end K98
namespace K98
open Pa
def bP (l : List Bool) : P := .tup (l.map P.bl)
def enB (k : Nat) : List Bool → List (Nat × Bool)
  | [] => []
  | b :: bs => (k, b) :: enB (k + 1) bs
def enP (x : Nat × Bool) : P := .tup [.int x.1, .bl x.2]
theorem enum_map : ∀ (k : Nat) (bs : List Bool), enumP k (bs.map P.bl) = (enB k bs).map enP
  | _, [] => rfl
  | k, b :: bs => by show _ :: enumP (k + 1) (bs.map P.bl) = _ :: (enB (k + 1) bs).map enP; rw [enum_map (k + 1) bs]; rfl
theorem enB_len : ∀ (k : Nat) (bs : List Bool), (enB k bs).length = bs.length
  | _, [] => rfl
  | k, b :: bs => by show (enB (k + 1) bs).length + 1 = _; rw [enB_len]; rfl
/-- the places of the tops -/
def tops (k : Nat) (bs : List Bool) : List Nat := (enB k bs).filterMap fun x => if x.2 = true then some x.1 else none
def lastTop (bs : List Bool) : Option Nat := (tops 0 bs).getLast?
def optP : Option Nat → P
  | some k => .int k
  | none => .non
theorem atI_last {α : Type} (xs : List α) (h : 0 < xs.length) : atI xs ((xs.length : Int) - 1) = xs.getLast? := by
  have e : ((xs.length : Int) - 1) = ((xs.length - 1 : Nat) : Int) := by omega
  rw [e, atI_nat, List.getLast?_eq_getElem?]
theorem filterMap_comp {α β γ : Type} (f : α → Option β) (g : β → γ) (l : List α) : l.filterMap (fun x => (f x).map g) = (l.filterMap f).map g := by
  induction l with
  | nil => rfl
  | cons a l ih =>
    rw [List.filterMap_cons, List.filterMap_cons, ih]
    cases f a <;> rfl
theorem s_last_top (n : Nat) (bs : List Bool) (s : S) (hl : bs.length ≤ SZ) : callA pg (n + 1) 20 [bP bs] s = .ok (optP (lastTop bs)) s := by
  have key : Ok (callA pg (n + 1) 20 [bP bs] s) fun r s' => r = optP (lastTop bs) ∧ s' = s := by
    rw [calA (b := d20) rfl]
    simp [runA, d20, b20, bP]
    refine ok_gc (ok_bind (ok_bind (ok_bind ?_)))
    refine ok_lcf (s1 := s) (gd := fun _ => True) (enB 0 bs) enP (fun x => (if x.2 = true then some x.1 else none).map fun k : Nat => P.int k) ?_ ?_ ?_ ?_ ?_
    · simp [stays, enum_map]
    · trivial
    · rintro ⟨k, b⟩ _
      cases b <;> simp [enP, wipe]
    · rw [enB_len]; exact hl
    · rw [filterMap_comp]
      have e : ((enB 0 bs).filterMap fun x => if x.2 = true then some x.1 else none) = tops 0 bs := rfl
      rw [e]
      by_cases h : 0 < (tops 0 bs).length
      · have hh : (tops 0 bs) ≠ [] := by intro z; rw [z] at h; simp at h
        have := atI_last ((tops 0 bs).map fun k : Nat => P.int k) (by simpa using h)
        simp at this
        simp [h, hh, this, lastTop, List.getLast?_map]
        cases hk : (tops 0 bs).getLast? with
        | none => rw [List.getLast?_eq_none_iff] at hk; exact absurd hk hh
        | some k => simp [optP, bnd, Grow.add]
      · have hh : (tops 0 bs) = [] := by
          cases hz : tops 0 bs with
          | nil => rfl
          | cons a b => rw [hz] at h; simp at h
        simp [hh, lastTop, optP, bnd, Grow.add]
  obtain ⟨r, s', e, rfl, rfl⟩ := key
  exact e
theorem s_state_key (n k : Nat) (cs : List Int) (s : S) (h : cs.length ≤ 1000) : callA pg (n + 1) 10 [.int k, iP cs] s = .ok (iP ((k : Int) :: cs)) s := by
  have key : Ok (callA pg (n + 1) 10 [.int k, iP cs] s) fun r s' => r = iP ((k : Int) :: cs) ∧ s' = s := by
    rw [calA (b := d10) rfl]
    have : 1 + cs.length ≤ SZ := by unfold SZ; omega
    simp [runA, d10, b10, iP, this]
    refine ok_gc ?_
    simp [bnd, bnds, Grow.refl]
  obtain ⟨r, s', e, rfl, rfl⟩ := key
  exact e
theorem s_turns_track (n : Nat) (turns : List Int) (s : S) : callA pg (n + 1) 17 [iP turns] s = .ok (trP turns) s := by
  have key : Ok (callA pg (n + 1) 17 [iP turns] s) fun r s' => r = trP turns ∧ s' = s := by
    rw [calA (b := d17) rfl]
    simp [runA, d17, b17]
    refine ok_gc ?_
    simp [bnd, bnds, Grow.refl, trP, bnd_iP]
  obtain ⟨r, s', e, rfl, rfl⟩ := key
  exact e
/-- the number of a row of choices, by the counts -/
def cnt (ts : List Term) : List Int → List Bool → List Int → Int
  | t :: turns, b :: bs, cs => if b = true then (topT ts cs t).2 + cnt ts turns bs (topT ts cs t).1 else cnt ts turns bs cs
  | _, _, _ => 0
theorem s_counted_number (n : Nat) (c : Cl) (turns : List Int) (bs : List Bool) (s : S) (h1 : c.ts ≠ []) (h2 : c.ts.length ≤ 1000) (hl : turns.length = bs.length) :
    callA pg (n + 2) 18 [cP c, iP turns, bP bs] s = .ok (.int (cnt c.ts turns bs (List.replicate c.ts.length 0))) s := by
  have key : Ok (callA pg (n + 2) 18 [cP c, iP turns, bP bs] s) fun r s' => r = .int (cnt c.ts turns bs (List.replicate c.ts.length 0)) ∧ s' = s := by
    rw [calA (b := d18) rfl]
    simp [runA, d18, b18, s_counts_of, h1, h2]
    refine ok_gc (ok_bind (ok_bind ?_))
    refine ok_for (s1 := s) (w := (zipP (turns.map P.int) (bs.map P.bl), fun _ => True)) (fun i l st => ∃ (cs : List Int) (num : Int) (a5 a6 a7 : Option P), l = [some (cP c), some (iP turns), some (bP bs), some (iP cs), some (.int num), a5, a6, a7] ∧ st = s ∧
      cs.length = c.ts.length ∧ num + cnt c.ts (turns.drop i) (bs.drop i) cs = cnt c.ts turns bs (List.replicate c.ts.length 0)) ?_ ?_ ?_ ?_ ?_
    · simp [stays, iP, bP]
    · exact ⟨_, _, _, _, _, rfl, rfl, by simp, by simp⟩
    · intros; trivial
    · rintro i x l st hx ⟨cs, num, a5, a6, a7, rfl, rfl, q0, q1⟩
      obtain ⟨a, b, h3, h4, rfl⟩ := zipP_at hx
      obtain ⟨t, h5, rfl⟩ := map_at h3
      obtain ⟨k, h6, rfl⟩ := map_at h4
      rw [drop_cons h5, drop_cons h6] at q1
      cases k with
      | false =>
        simp [cnt] at q1
        simp [q0]
        exact ⟨_, _, ⟨rfl, rfl⟩, q0, q1⟩
      | true =>
        simp [cnt] at q1
        simp [s_top_taken _ c cs t st q0 h2]
        exact ⟨_, _, ⟨rfl, rfl⟩, topT_len _ _ _ q0, by omega⟩
    · rintro l st ⟨cs, num, a5, a6, a7, rfl, rfl, q0, q1⟩
      have hz : (zipP (turns.map P.int) (bs.map P.bl)).length = turns.length := by unfold zipP; simp [hl]
      dsimp only at q1
      rw [hz, List.drop_length] at q1
      simp [cnt] at q1
      simp [q1, bnd, Grow.refl]
  obtain ⟨r, s', e, rfl, rfl⟩ := key
  exact e
end K98
namespace K98
open Pa
def val (p : Int) : List Int → List Bool → Bool × Bool
  | t :: ts, b :: bs => ((val p ts bs).1 && !((val p ts bs).2 && (t == p) && !b), b || (val p ts bs).2)
  | _, _ => (true, false)
def lastT : List Bool → Option Nat
  | [] => none
  | b :: bs => match lastT bs with
    | some k => some (k + 1)
    | none => if b = true then some 0 else none
theorem lastT_cons (b : Bool) (bs : List Bool) : lastT (b :: bs) = match lastT bs with
    | some k => some (k + 1)
    | none => if b = true then some 0 else none := rfl
theorem tops_cons (k : Nat) (b : Bool) (bs : List Bool) : tops k (b :: bs) = (if b = true then [k] else []) ++ tops (k + 1) bs := by
  unfold tops
  show ((k, b) :: enB (k + 1) bs).filterMap _ = _
  rw [List.filterMap_cons]
  cases b <;> simp
theorem tops_last : ∀ (k : Nat) (bs : List Bool), (tops k bs).getLast? = (lastT bs).map (· + k)
  | k, [] => rfl
  | k, b :: bs => by
    rw [tops_cons, List.getLast?_append, tops_last (k + 1) bs, lastT_cons]
    cases lastT bs with
    | some j => simp <;> omega
    | none => cases b <;> simp
theorem lastTop_eq (bs : List Bool) : lastTop bs = lastT bs := by
  unfold lastTop
  rw [tops_last]
  cases lastT bs <;> simp
theorem lastT_lt : ∀ {bs : List Bool} {k : Nat}, lastT bs = some k → k < bs.length
  | b :: bs, k, h => by
    unfold lastT at h
    cases e : lastT bs with
    | some j => rw [e] at h; cases h; have := lastT_lt e; simp; omega
    | none => rw [e] at h; simp at h; simp; omega
def bads (p : Int) (turns : List Int) (bs : List Bool) (k : Nat) : Bool := (turns[k]? == some p) && !(bs[k]? == some true)
theorem val_eq (p : Int) : ∀ (turns : List Int) (bs : List Bool), turns.length = bs.length → (val p turns bs).2 = (lastT bs).isSome ∧
    (val p turns bs).1 = match lastT bs with
      | none => true
      | some k => (List.range k).all fun i => !bads p turns bs i
  | [], [], _ => ⟨rfl, rfl⟩
  | [], _ :: _, h => by simp at h
  | _ :: _, [], h => by simp at h
  | t :: ts, b :: bs, h => by
    obtain ⟨h1, h2⟩ := val_eq p ts bs (by simpa using h)
    unfold val lastT
    rw [h1, h2]
    cases e : lastT bs with
    | none => cases b <;> simp
    | some k =>
      simp
      rw [List.range_succ_eq_map, List.all_cons, List.all_map]
      have e1 : bads p (t :: ts) (b :: bs) 0 = ((t == p) && !b) := by unfold bads; cases b <;> simp
      have e2 : (fun i => !bads p ts bs i) = (fun i => !bads p (t :: ts) (b :: bs) i) ∘ Nat.succ := by
        funext i; unfold bads; simp
      rw [e1, ← e2, Bool.and_comm]
      cases (t == p) <;> cases b <;> rfl
theorem rng_map : ∀ (n : Nat) (lo : Int), rngP lo n = (List.range n).map fun i : Nat => P.int (lo + i)
  | 0, _ => rfl
  | n + 1, lo => by
    rw [List.range_succ_eq_map]
    show P.int lo :: rngP (lo + 1) n = _
    rw [rng_map n (lo + 1)]
    simp
    intro a _
    omega
theorem rng0 (n : Nat) : rngP 0 n = (List.range n).map fun i : Nat => P.int i := by rw [rng_map]; simp
/-- what is_choice is asked of -/
def scal (p : P) : Bool := scalP p
def boolsOf : List P → Option (List Bool)
  | [] => some []
  | .bl b :: r => (boolsOf r).map (b :: ·)
  | _ => none
theorem boolsOf_map : ∀ {xs : List P} {bs : List Bool}, boolsOf xs = some bs → xs = bs.map P.bl
  | [], bs, h => by cases h; rfl
  | x :: xs, bs, h => by
    cases x <;> try (cases h; done)
    rename_i b
    unfold boolsOf at h
    obtain ⟨r, h1, h2⟩ := Option.map_eq_some_iff.mp h
    subst h2
    rw [boolsOf_map h1]; rfl
theorem boolsOf_none : ∀ {xs : List P}, boolsOf xs = none → ∃ x ∈ xs, ∀ b, x ≠ .bl b
  | [], h => by cases h
  | x :: xs, h => by
    by_cases hx : ∃ b, x = .bl b
    · obtain ⟨b, rfl⟩ := hx
      unfold boolsOf at h
      obtain ⟨y, h1, h2⟩ := boolsOf_none (Option.map_eq_none_iff.mp h)
      exact ⟨y, List.mem_cons_of_mem _ h1, h2⟩
    · exact ⟨x, List.mem_cons_self .., fun b e => hx ⟨b, e⟩⟩
def isCh (p : Int) (turns : List Int) : P → Bool
  | .tup xs => decide (xs.length = turns.length) && (match boolsOf xs with
    | some bs => (val p turns bs).1
    | none => false)
  | _ => false
/-- a thing that is_choice may be asked of -/
def Askd (s : S) : P → Prop
  | .tup xs => (∀ x ∈ xs, scalP x = true) ∧ xs.length ≤ SZ
  | .loc n => ∃ xs, s[n]? = some (.lst xs)
  | .rol _ => False
  | _ => True
theorem isi_scal {x : P} (h : scalP x = true) (s : S) : isiP .bool x s = some (match x with | .bl _ => true | _ => false) := by
  cases x <;> first | rfl | (cases h; done)
def nonB (xs : List P) : List P := xs.filterMap fun x => match x with
  | .bl _ => none
  | x => some x
theorem nonB_nil {bs : List Bool} : nonB (bs.map P.bl) = [] := by
  unfold nonB
  induction bs with
  | nil => rfl
  | cons b bs ih => simpa using ih
theorem nonB_pos {xs : List P} (h : boolsOf xs = none) : nonB xs ≠ [] := by
  obtain ⟨x, h1, h2⟩ := boolsOf_none h
  intro e
  unfold nonB at e
  have := List.filterMap_eq_nil_iff.mp e x h1
  cases x <;> first | (cases this; done) | exact h2 _ rfl
theorem ch_other (n : Nat) (c : Cl) (turns : List Int) (thing : P) (s : S) (ht : isiP .tup thing s = some false) (hq : isCh c.p turns thing = false) : Ok (callA pg (n + 2) 19 [cP c, iP turns, thing] s) fun r s' => r = .bl (isCh c.p turns thing) ∧ s' = s := by
  rw [calA (b := d19) rfl]
  simp [runA, d19, b19, ht, hq]
  refine ok_gc ?_
  simp [bnd, Grow.refl]
theorem ch_short (n : Nat) (c : Cl) (turns : List Int) (xs : List P) (s : S) (hn : ¬ (xs.length : Int) = turns.length) : Ok (callA pg (n + 2) 19 [cP c, iP turns, .tup xs] s) fun r s' => r = .bl (isCh c.p turns (.tup xs)) ∧ s' = s := by
  have hn' : ¬ xs.length = turns.length := by omega
  rw [calA (b := d19) rfl]
  simp [runA, d19, b19, isiP, isCh, iP, hn, hn']
  refine ok_gc ?_
  simp [bnd, Grow.refl]
theorem ch_nob (n : Nat) (c : Cl) (turns : List Int) (xs : List P) (s : S) (hs : ∀ x ∈ xs, scalP x = true) (hx : xs.length ≤ SZ) (hn : xs.length = turns.length) (hb : boolsOf xs = none) : Ok (callA pg (n + 2) 19 [cP c, iP turns, .tup xs] s) fun r s' => r = .bl (isCh c.p turns (.tup xs)) ∧ s' = s := by
  rw [calA (b := d19) rfl]
  simp [runA, d19, b19, isiP, isCh, iP, hn, hb]
  refine ok_gc ?_
  repeat (with_reducible refine ok_bind ?_)
  refine ok_lcf (s1 := s) (gd := fun _ => True) xs id (fun x => match x with | .bl _ => none | x => some x) ?_ ?_ ?_ hx ?_
  · simp [stays]
  · trivial
  · intro y hy
    have := isi_scal (hs y hy) s
    cases y <;> simp [wipe, isiP] <;> first | (have := hs _ hy; cases this; done) | skip
  · have en : (xs.filterMap fun x => match x with | .bl _ => none | x => some x) = nonB xs := rfl
    rw [en]
    have h0 := nonB_pos hb
    have h1 : 0 < (nonB xs).length := List.length_pos_iff.mpr h0
    simp [h1, h0, bnd, Grow.add]
theorem bads_none {p : Int} {turns : List Int} {bs : List Bool} (k : Nat) : ((List.range k).filterMap fun i => if bads p turns bs i = true then some (P.int (i : Nat)) else none).length = 0 ↔ ((List.range k).all fun i => !bads p turns bs i) = true := by
  rw [List.length_eq_zero_iff, List.filterMap_eq_nil_iff, List.all_eq_true]
  constructor
  · intro h x hx
    have := h x hx
    cases hb : bads p turns bs x with
    | true => rw [hb] at this; cases this
    | false => rfl
  · intro h x hx
    have := h x hx
    cases hb : bads p turns bs x with
    | true => rw [hb] at this; cases this
    | false => rfl
theorem rngOk_nat {k : Nat} (h : k ≤ SZ) : rngOk (k : Int) := by
  have h1 : SZ = 16777216 := rfl
  have h2 : (2 : Int) ^ 62 = 4611686018427387904 := by decide
  unfold rngOk
  rw [h2]
  rw [h1] at h
  omega
theorem ei_rngN {G : Env} {a : Ex} {l : Loc} {s s1 : S} {k : Nat} (h : evA G a l s = .ok (.int k) s1) (hk : k ≤ SZ) : evIA G (.rng1 a) l s = .ok (((List.range k).map fun i : Nat => P.int i, fun _ => True) : Walk) s1 := by
  rw [ei_rng1, h, bind_ok]
  dsimp only
  rw [if_pos (rngOk_nat hk), Int.toNat_natCast, rng0]
theorem ch_bools (n : Nat) (c : Cl) (turns : List Int) (bs : List Bool) (s : S) (hx : bs.length ≤ SZ) (hn : bs.length = turns.length) : Ok (callA pg (n + 2) 19 [cP c, iP turns, bP bs] s) fun r s' => r = .bl (val c.p turns bs).1 ∧ s' = s := by
  rw [calA (b := d19) rfl]
  simp [runA, d19, b19, isiP, iP, bP, hn]
  refine ok_gc ?_
  repeat (with_reducible refine ok_bind ?_)
  have hnil : bs.filterMap (fun _ => (none : Option P)) = [] := by simp
  refine ok_lcf (s1 := s) (gd := fun _ => True) bs P.bl (fun x => none) ?_ ?_ ?_ hx ?_
  · simp [stays]
  · trivial
  · intro y hy
    simp [wipe, isiP]
  · rw [hnil]
    have e3 := s_last_top n bs (s ++ [O.lst []]) hx
    unfold bP at e3
    simp [e3, lastTop_eq]
    obtain ⟨v1, v2⟩ := val_eq c.p turns bs hn.symm
    cases hk : lastT bs with
    | none =>
      rw [hk] at v2
      simp [optP, v2, bnd, Grow.add]
    | some k =>
      rw [hk] at v2
      have hkl := lastT_lt hk
      simp [optP]
      repeat (with_reducible refine ok_bind ?_)
      refine ok_lcf (s1 := s ++ [O.lst []]) (gd := fun _ => True) (List.range k) (fun i : Nat => P.int i) (fun i => if bads c.p turns bs i = true then some (P.int (i : Nat)) else none) ?_ ?_ ?_ (by simp; omega) ?_
      · exact ei_rngN (by simp) (by omega)
      · trivial
      · intro i hi
        have hi' : i < k := by simpa using hi
        have h1 : i < turns.length := by omega
        have h2 : i < bs.length := by omega
        simp [wipe, atI_nat, h1, h2, cP]
        unfold bads
        rw [List.getElem?_eq_getElem h1, List.getElem?_eq_getElem h2]
        by_cases hp : turns[i] = c.p
        · cases hb : bs[i] <;> simp [hp]
        · simp [hp]
      · have := bads_none (p := c.p) (turns := turns) (bs := bs) k
        simp [bnd]
        refine ⟨⟨_, rfl⟩, ?_⟩
        rw [v2]
        dsimp only
        cases hq : (List.range k).all fun i => !bads c.p turns bs i with
        | true => rw [this.mpr hq]; rfl
        | false =>
          have : (List.filterMap (fun i => if bads c.p turns bs i = true then some (P.int (i : Nat)) else none) (List.range k)).length ≠ 0 := fun z => by rw [this.mp z] at hq; cases hq
          simp only [beq_eq_false_iff_ne]
          omega
theorem s_is_choice (n : Nat) (c : Cl) (turns : List Int) (thing : P) (s : S) (hl : turns.length ≤ SZ) (ha : Askd s thing) : callA pg (n + 2) 19 [cP c, iP turns, thing] s = .ok (.bl (isCh c.p turns thing)) s := by
  have key : Ok (callA pg (n + 2) 19 [cP c, iP turns, thing] s) fun r s' => r = .bl (isCh c.p turns thing) ∧ s' = s := by
    cases thing with
    | non => exact ch_other n c turns _ s rfl rfl
    | bl b => exact ch_other n c turns _ s rfl rfl
    | int b => exact ch_other n c turns _ s rfl rfl
    | str b => exact ch_other n c turns _ s rfl rfl
    | rol b => exact ha.elim
    | loc k =>
      obtain ⟨xs, h⟩ := ha
      exact ch_other n c turns _ s (by unfold isiP; simp [h]) rfl
    | tup xs =>
      obtain ⟨hs, hx⟩ := ha
      by_cases hn : xs.length = turns.length
      · cases hb : boolsOf xs with
        | none => exact ch_nob n c turns xs s hs hx hn hb
        | some bs =>
          have e := boolsOf_map hb
          subst e
          have := ch_bools n c turns bs s (by simpa using hx) (by simpa using hn)
          have e2 : isCh c.p turns (.tup (bs.map P.bl)) = (val c.p turns bs).1 := by
            show (decide ((bs.map P.bl).length = turns.length) && (match boolsOf (bs.map P.bl) with | some bs => (val c.p turns bs).1 | none => false)) = _
            rw [hb]; simp at hn; simp [hn]
          rw [e2]
          exact this
      · exact ch_short n c turns xs s (by omega)
  obtain ⟨r, s', e, rfl, rfl⟩ := key
  exact e
end K98
namespace K98
open Pa
theorem getD_int (o : Option Int) (z : Int) : (o.map P.int).getD (.int z) = .int (o.getD z) := by cases o <;> rfl
theorem s_add (n : Nat) (self : P) (r : Nat) (k : List Int) (m : Int) (d : KV) (s : S) (h : s[r]? = some (.dct false (d.map kvP))) (hl : d.length < SZ) :
    callA pg (n + 1) 35 [self, .loc r, iP k, .int m] s = .ok .non (s.set r (.dct false ((addI d k m).map kvP))) := by
  have key : Ok (callA pg (n + 1) 35 [self, .loc r, iP k, .int m] s) fun p s' => p = .non ∧ s' = s.set r (.dct false ((addI d k m).map kvP)) := by
    rw [calA (b := d35) rfl]
    simp [runA, d35, b35, h, keyOk_kv, dget_kv, getD_int, hl, dput_kv]
    refine ok_gcl ?_
    simp [addI]
  obtain ⟨r', s', e, rfl, rfl⟩ := key
  exact e
def goOver (d : KV) : KV := d.foldl (fun acc kv => addI acc kv.1 kv.2) []
/-- the key behind a top -/
def topK (c : Cl) (p : Int) (k : List Int) : List Int := match k with
  | t :: m :: cs => (t + 1) :: (m + (topT c.ts cs p).2) :: (topT c.ts cs p).1
  | _ => []
def goStep (c : Cl) (p : Int) (x : KV × KV) (kv : List Int × Int) : KV × KV :=
  let x1 := addI x.1 (topK c p kv.1) kv.2
  if p = c.p then (x1, addI x.2 kv.1 kv.2) else (addI x1 kv.1 kv.2, x.2)
def goK (c : Cl) (p : Int) (g o : KV) : KV × KV := g.foldl (goStep c p) ([], goOver o)
/-- keys as they are -/
def GoodK (c : Cl) (d : KV) : Prop := ∀ x ∈ d, ∃ t m cs, x.1 = t :: m :: cs ∧ cs.length = c.ts.length
theorem addI_len (d : KV) (k : List Int) (m : Int) : (addI d k m).length ≤ d.length + 1 := putI_len ..
theorem over_len (d : KV) : ∀ (acc : KV), (d.foldl (fun acc kv => addI acc kv.1 kv.2) acc).length ≤ acc.length + d.length := by
  induction d with
  | nil => intro acc; simp
  | cons x r ih =>
    intro acc
    have h1 := ih (addI acc x.1 x.2)
    have h2 := addI_len acc x.1 x.2
    simp only [List.foldl_cons, List.length_cons]
    omega
theorem walkD_kv (d : KV) : walkD true (d.map kvP) = d.map fun x => P.tup [iP x.1, .int x.2] := by
  unfold walkD
  rw [if_pos rfl, List.map_map]
  rfl
theorem set_set_ne {s : S} {i j : Nat} (h : i ≠ j) (a b : O) : (s.set i a).set j b = (s.set j b).set i a := (List.set_comm a b h)
end K98
namespace K98
open Pa
/-- the store with two new dicts -/
def Sh (s : S) (g o : KV) : S := s ++ [.dct false (g.map kvP), .dct false (o.map kvP)]
theorem sh_g {s : S} {g o : KV} : (Sh s g o)[s.length]? = some (.dct false (g.map kvP)) := by simp [Sh]
theorem sh_o {s : S} {g o : KV} : (Sh s g o)[s.length + 1]? = some (.dct false (o.map kvP)) := by simp [Sh]
theorem sh_at {s : S} {g o : KV} {i : Nat} {x : O} (h : s[i]? = some x) : (Sh s g o)[i]? = some x := by
  unfold Sh
  rw [List.getElem?_append_left (List.getElem?_eq_some_iff.mp h).1]; exact h
theorem sh_setg {s : S} {g o g' : KV} : (Sh s g o).set s.length (.dct false (g'.map kvP)) = Sh s g' o := by simp [Sh]
theorem sh_seto {s : S} {g o o' : KV} : (Sh s g o).set (s.length + 1) (.dct false (o'.map kvP)) = Sh s g o' := by
  unfold Sh
  rw [List.set_append_right _ _ (by omega)]
  simp
theorem sh_set {s : S} {g o : KV} {i : Nat} {x : O} (h : i < s.length) : (Sh s g o).set i x = Sh (s.set i x) g o := by
  unfold Sh
  rw [List.set_append_left _ _ h]
theorem sh_len {s : S} {g o : KV} : (Sh s g o).length = s.length + 2 := by simp [Sh]
def selfO (c : Cl) (g o : Nat) : O := .ins 0 [(0, cP c), (1, .loc g), (2, .loc o)]
theorem mt3 : pg.mts 0 3 = some 35 := rfl
theorem mt4 : pg.mts 0 4 = some 36 := rfl
theorem mt5 : pg.mts 0 5 = some 37 := rfl
theorem cut2 (t m : Int) (cs : List Int) (s : S) : slP (iP (t :: m :: cs)) (some 2) none s = .ok (iP cs) s := by
  unfold iP slP
  dsimp only
  have : cut ((t :: m :: cs).map P.int) (some 2) none = cs.map P.int := by
    unfold cut sIx
    simp
    rw [List.take_of_length_le (by simp)]
  rw [this]
theorem over_loop (n : Nat) (c : Cl) (p : Int) (a gi oi : Nat) (kg ko : KV) (s : S) (ha : s[a]? = some (selfO c gi oi)) (ho : s[oi]? = some (.dct false (ko.map kvP))) (hne : a ≠ oi) (hz : ko.length < SZ) :
    Ok (exA (envA pg (n + 2)) (.forD (.tup (.cons (.v 4) (.cons (.v 5) .nil))) true (.fld (.v 0) 2) (.cons (.ex (.meth (.v 0) 3 (.cons (.v 3) (.cons (.v 4) (.cons (.v 5) .nil))))) .nil)) [some (.loc a), some (.int p), some (.loc s.length), some (.loc (s.length + 1)), none, none, none, none] (Sh s [] []))
      fun fl st => ∃ a4 a5, fl = .nx [some (.loc a), some (.int p), some (.loc s.length), some (.loc (s.length + 1)), a4, a5, none, none] ∧ st = Sh s [] (goOver ko) := by
  have hoi := (List.getElem?_eq_some_iff.mp ho).1
  have hle : (s.set oi (.dct true (ko.map kvP))).length = s.length := by simp
  refine ok_forD (n := oi) (kvs := ko.map kvP) (fun i l st => ∃ a4 a5, l = [some (.loc a), some (.int p), some (.loc s.length), some (.loc (s.length + 1)), a4, a5, none, none] ∧ st = Sh (s.set oi (.dct true (ko.map kvP))) [] (goOver (ko.take i))) ?_ (sh_at ho) ?_ ?_ ?_ ?_
  · simp [sh_at ha, selfO, fget]
  · exact ⟨none, none, rfl, by rw [sh_set hoi]; simp [goOver]⟩
  · rintro i l st ⟨a4, a5, _, rfl⟩
    exact sh_at (List.getElem?_set_self hoi)
  · rintro i x l st hx ⟨a4, a5, rfl, rfl⟩
    rw [walkD_kv] at hx
    obtain ⟨kv, h1, rfl⟩ := map_at hx
    have ha' : (s.set oi (.dct true (ko.map kvP)))[a]? = some (selfO c gi oi) := by rw [List.getElem?_set_ne (Ne.symm hne)]; exact ha
    have hl2 : (goOver (ko.take i)).length < SZ := by
      have := over_len (ko.take i) []
      have h3 : (ko.take i).length ≤ ko.length := by simp; omega
      unfold goOver
      simp at this
      omega
    have hadd := s_add (n + 1) (.loc a) (s.length + 1) kv.1 kv.2 (goOver (ko.take i)) (Sh (s.set oi (.dct true (ko.map kvP))) [] (goOver (ko.take i))) (by rw [← hle]; exact sh_o) hl2
    have et : goOver (ko.take (i + 1)) = addI (goOver (ko.take i)) kv.1 kv.2 := by
      unfold goOver
      rw [List.take_succ, h1]
      simp
    have e7 : (Sh (s.set oi (.dct true (ko.map kvP))) [] (goOver (ko.take i))).set (s.length + 1) (.dct false ((addI (goOver (ko.take i)) kv.1 kv.2).map kvP)) = Sh (s.set oi (.dct true (ko.map kvP))) [] (goOver (ko.take (i + 1))) := by
      rw [et, ← hle]; exact sh_seto
    rw [e7] at hadd
    have hs := sh_at (g := []) (o := goOver (ko.take i)) ha'
    simp [hs, selfO, fget, mt3, hadd]
  · rintro l st ⟨a4, a5, rfl, rfl⟩
    refine ⟨a4, a5, rfl, ?_⟩
    have e8 : (walkD true (ko.map kvP)).length = ko.length := by rw [walkD_kv]; simp
    rw [e8, List.take_length, sh_set (by simpa using hoi), List.set_set]
    congr 1
    exact List.ext_getElem? fun j => by
      by_cases hj : j = oi
      · subst hj; rw [List.getElem?_set_self hoi, ho]
      · rw [List.getElem?_set_ne (Ne.symm hj)]
end K98
namespace K98
open Pa
theorem go_len (c : Cl) (p : Int) (d : KV) : ∀ x : KV × KV, (d.foldl (goStep c p) x).1.length ≤ x.1.length + 2 * d.length ∧ (d.foldl (goStep c p) x).2.length ≤ x.2.length + d.length := by
  induction d with
  | nil => intro x; simp
  | cons kv r ih =>
    intro x
    rw [List.foldl_cons]
    obtain ⟨h1, h2⟩ := ih (goStep c p x kv)
    have h3 := addI_len x.1 (topK c p kv.1) kv.2
    have h4 := addI_len (addI x.1 (topK c p kv.1) kv.2) kv.1 kv.2
    have h5 := addI_len x.2 kv.1 kv.2
    have : (goStep c p x kv).1.length ≤ x.1.length + 2 ∧ (goStep c p x kv).2.length ≤ x.2.length + 1 := by
      unfold goStep
      dsimp only
      split <;> constructor <;> dsimp only <;> omega
    simp only [List.length_cons]
    omega
theorem going_loop (n : Nat) (c : Cl) (p : Int) (a gi oi : Nat) (kg ov : KV) (s : S) (a4 a5 : Option P) (ha : s[a]? = some (selfO c gi oi)) (hg : s[gi]? = some (.dct false (kg.map kvP))) (hne : a ≠ gi) (hz : ov.length + 2 * kg.length + 2 < SZ)
    (h2 : c.ts.length ≤ 1000) (hgk : GoodK c kg) :
    Ok (exA (envA pg (n + 2)) (.forD (.tup (.cons (.v 4) (.cons (.v 5) .nil))) true (.fld (.v 0) 1) (.cons (.asg (.tup (.cons (.v 6) (.cons (.v 7) .nil))) (.call 1 (.cons (.fld (.v 0) 0) (.cons (.slL (.v 4) (.int 2)) (.cons (.v 1) .nil))))) (.cons (.ex (.meth (.v 0) 3 (.cons (.v 2) (.cons (.bin .add (.tup (.cons (.bin .add (.ix (.v 4) (.int 0)) (.int 1)) (.cons (.bin .add (.ix (.v 4) (.int 1)) (.v 7)) .nil))) (.v 6)) (.cons (.v 5) .nil))))) (.cons (.ife (.cmp .eq (.v 1) (.ix (.fld (.v 0) 0) (.int 0))) (.cons (.ex (.meth (.v 0) 3 (.cons (.v 3) (.cons (.v 4) (.cons (.v 5) .nil))))) .nil) (.cons (.ex (.meth (.v 0) 3 (.cons (.v 2) (.cons (.v 4) (.cons (.v 5) .nil))))) .nil)) .nil))))
      [some (.loc a), some (.int p), some (.loc s.length), some (.loc (s.length + 1)), a4, a5, none, none] (Sh s [] ov))
      fun fl st => ∃ a4 a5 a6 a7, fl = .nx [some (.loc a), some (.int p), some (.loc s.length), some (.loc (s.length + 1)), a4, a5, a6, a7] ∧ st = Sh s (kg.foldl (goStep c p) ([], ov)).1 (kg.foldl (goStep c p) ([], ov)).2 := by
  have hgi := (List.getElem?_eq_some_iff.mp hg).1
  have hle : (s.set gi (.dct true (kg.map kvP))).length = s.length := by simp
  refine ok_forD (n := gi) (kvs := kg.map kvP) (fun i l st => ∃ a4 a5 a6 a7, l = [some (.loc a), some (.int p), some (.loc s.length), some (.loc (s.length + 1)), a4, a5, a6, a7] ∧ st = Sh (s.set gi (.dct true (kg.map kvP))) ((kg.take i).foldl (goStep c p) ([], ov)).1 ((kg.take i).foldl (goStep c p) ([], ov)).2) ?_ (sh_at hg) ?_ ?_ ?_ ?_
  · simp [sh_at ha, selfO, fget]
  · exact ⟨a4, a5, none, none, rfl, by rw [sh_set hgi]; simp⟩
  · rintro i l st ⟨a4, a5, a6, a7, _, rfl⟩
    exact sh_at (List.getElem?_set_self hgi)
  · rintro i x l st hx ⟨a4, a5, a6, a7, rfl, rfl⟩
    rw [walkD_kv] at hx
    obtain ⟨kv, h1, rfl⟩ := map_at hx
    have ha' : (s.set gi (.dct true (kg.map kvP)))[a]? = some (selfO c gi oi) := by rw [List.getElem?_set_ne (Ne.symm hne)]; exact ha
    have hln := go_len c p (kg.take i) ([], ov)
    have h3 : (kg.take i).length + 1 ≤ kg.length := by
      have := (List.getElem?_eq_some_iff.mp h1).1
      simp; omega
    generalize hX : ((kg.take i).foldl (goStep c p) ([], ov)).1 = X at hln ⊢
    generalize hY : ((kg.take i).foldl (goStep c p) ([], ov)).2 = Y at hln ⊢
    have hXY : (kg.take i).foldl (goStep c p) ([], ov) = (X, Y) := by rw [← hX, ← hY]
    simp only [List.length_nil] at hln
    obtain ⟨t, m, cs, hk, hcs⟩ := hgk kv (List.mem_of_getElem? h1)
    have et : (kg.take (i + 1)).foldl (goStep c p) ([], ov) = goStep c p (X, Y) kv := by
      rw [List.take_succ, h1, List.foldl_append, hXY]
      rfl
    obtain ⟨k, v⟩ := kv
    subst hk
    generalize hS : s.set gi (.dct true (kg.map kvP)) = S1 at ha' hle ⊢
    have htop := fun st => s_top_taken (n + 1) c cs p st hcs h2
    have hadd1 := s_add (n + 1) (.loc a) s.length (topK c p (t :: m :: cs)) v X (Sh S1 X Y) (by rw [← hle]; exact sh_g) (by omega)
    have hx1 := addI_len X (topK c p (t :: m :: cs)) v
    have e7 : (Sh S1 X Y).set s.length (.dct false ((addI X (topK c p (t :: m :: cs)) v).map kvP)) = Sh S1 (addI X (topK c p (t :: m :: cs)) v) Y := by rw [← hle]; exact sh_setg
    rw [e7] at hadd1
    have hs := fun X Y => sh_at (g := X) (o := Y) ha'
    have hlt : 2 + (topT c.ts cs p).1.length ≤ SZ := by rw [topT_len p c.ts cs hcs]; unfold SZ; omega
    have ek : iP (topK c p (t :: m :: cs)) = .tup ([.int (t + 1), .int (m + (topT c.ts cs p).2)] ++ (topT c.ts cs p).1.map P.int) := rfl
    rw [ek] at hadd1
    have eix0 : ∀ st, ixP (iP (t :: m :: cs)) (.int 0) st = .ok (.int t) st := fun st => by simp [iP]
    have eix1 : ∀ st, ixP (iP (t :: m :: cs)) (.int 1) st = .ok (.int m) st := fun st => by simp [iP]
    have hfp : ∀ st, ixP (cP c) (.int 0) st = .ok (.int c.p) st := fun st => by simp [cP]
    have ht2 : ∀ xs st, binP .add (.tup xs) (iP (topT c.ts cs p).1) st = if xs.length + (topT c.ts cs p).1.length ≤ SZ then .ok (.tup (xs ++ (topT c.ts cs p).1.map P.int)) st else .bad := fun xs st => by
      simp [iP]
    by_cases hp : p = c.p
    · subst hp
      have hadd2 := s_add (n + 1) (.loc a) (s.length + 1) (t :: m :: cs) v Y (Sh S1 (addI X (topK c c.p (t :: m :: cs)) v) Y) (by rw [← hle]; exact sh_o) (by omega)
      have e8 : (Sh S1 (addI X (topK c c.p (t :: m :: cs)) v) Y).set (s.length + 1) (.dct false ((addI Y (t :: m :: cs) v).map kvP)) = Sh S1 (addI X (topK c c.p (t :: m :: cs)) v) (addI Y (t :: m :: cs) v) := by rw [← hle]; exact sh_seto
      rw [e8] at hadd2
      have ego : goStep c c.p (X, Y) (t :: m :: cs, v) = (addI X (topK c c.p (t :: m :: cs)) v, addI Y (t :: m :: cs) v) := by unfold goStep; simp
      simp [hs, selfO, fget, mt3, cut2, htop, eix0, eix1, ht2, hlt]
      try simp at hadd1
      simp [hadd1, hs, selfO, fget, mt3, hfp]
      simp [hadd2, et, ego]
    · have hadd2 := s_add (n + 1) (.loc a) s.length (t :: m :: cs) v (addI X (topK c p (t :: m :: cs)) v) (Sh S1 (addI X (topK c p (t :: m :: cs)) v) Y) (by rw [← hle]; exact sh_g) (by omega)
      have e8 : (Sh S1 (addI X (topK c p (t :: m :: cs)) v) Y).set s.length (.dct false ((addI (addI X (topK c p (t :: m :: cs)) v) (t :: m :: cs) v).map kvP)) = Sh S1 (addI (addI X (topK c p (t :: m :: cs)) v) (t :: m :: cs) v) Y := by rw [← hle]; exact sh_setg
      rw [e8] at hadd2
      have ego : goStep c p (X, Y) (t :: m :: cs, v) = (addI (addI X (topK c p (t :: m :: cs)) v) (t :: m :: cs) v, Y) := by unfold goStep; simp [hp]
      simp [hs, selfO, fget, mt3, cut2, htop, eix0, eix1, ht2, hlt]
      try simp at hadd1
      simp [hadd1, hs, selfO, fget, mt3, hfp, hp]
      simp [hadd2, et, ego]
  · rintro l st ⟨a4, a5, a6, a7, rfl, rfl⟩
    refine ⟨a4, a5, a6, a7, rfl, ?_⟩
    have e8 : (walkD true (kg.map kvP)).length = kg.length := by rw [walkD_kv]; simp
    rw [e8, List.take_length, sh_set (by simpa using hgi), List.set_set]
    congr 1
    exact List.ext_getElem? fun j => by
      by_cases hj : j = gi
      · subst hj; rw [List.getElem?_set_self hgi, hg]
      · rw [List.getElem?_set_ne (Ne.symm hj)]
end K98
namespace K98
open Pa
theorem ok_gcd {s : S} {r : R P} {Q : P → S → Prop} (h : Ok r fun p s1 => (∃ i o, i < s.length ∧ s1[i]? ≠ s[i]? ∧ s1[i]? = some o ∧ bndO s.length o = false) ∧ Q p s1) : Ok (gc s r) Q := by
  obtain ⟨p, s1, e, ⟨i, o, h1, h2, h3, h4⟩, h5⟩ := h
  rw [e]
  refine ⟨p, s1, ?_, h5⟩
  unfold gc
  dsimp only
  rw [if_neg]
  intro c
  rcases c.2 i h1 with z | ⟨o', z, b⟩
  · exact h2 z
  · rw [h3] at z; cases z; rw [h4] at b; cases b
theorem fok1 : pg.fok 0 1 = true := rfl
theorem fok2 : pg.fok 0 2 = true := rfl
theorem fok0 : pg.fok 0 0 = true := rfl
theorem selfO_inj {c : Cl} {g o g' o' : Nat} (h : selfO c g o = selfO c g' o') : g = g' ∧ o = o' := by
  unfold selfO at h
  simp at h
  exact h
theorem s_go (n : Nat) (c : Cl) (p : Int) (a gi oi : Nat) (kg ko : KV) (s : S) (ha : s[a]? = some (selfO c gi oi)) (hg : s[gi]? = some (.dct false (kg.map kvP))) (ho : s[oi]? = some (.dct false (ko.map kvP))) (hz : ko.length + 2 * kg.length + 2 < SZ)
    (h2 : c.ts.length ≤ 1000) (hgk : GoodK c kg) :
    callA pg (n + 3) 36 [.loc a, .int p] s = .ok .non (Sh (s.set a (selfO c s.length (s.length + 1))) (goK c p kg ko).1 (goK c p kg ko).2) := by
  have hal := (List.getElem?_eq_some_iff.mp ha).1
  have hgl := (List.getElem?_eq_some_iff.mp hg).1
  have n1 : a ≠ gi := fun z => by subst z; rw [ha] at hg; cases hg
  have n2 : a ≠ oi := fun z => by subst z; rw [ha] at ho; cases ho
  have hov := over_len ko []
  have key : Ok (callA pg (n + 3) 36 [.loc a, .int p] s) fun r s' => r = .non ∧ s' = Sh (s.set a (selfO c s.length (s.length + 1))) (goK c p kg ko).1 (goK c p kg ko).2 := by
    rw [calA (b := d36) rfl]
    simp [runA, d36, b36, alloc, setN]
    refine ok_gcd ?_
    refine ok_bind (ok_bind (ok_imp (over_loop n c p a gi oi kg ko s ha ho n2 (by omega)) ?_))
    rintro fl st ⟨a4, a5, rfl, rfl⟩
    simp
    refine ok_bind (ok_imp (going_loop n c p a gi oi kg (goOver ko) s a4 a5 ha hg n1 (by unfold goOver; simp at hov; omega) h2 hgk) ?_)
    rintro fl st ⟨a4, a5, a6, a7, rfl, rfl⟩
    have e0 : List.foldl (goStep c p) ([], goOver ko) kg = goK c p kg ko := rfl
    rw [e0]
    have h1 := sh_at (g := (goK c p kg ko).1) (o := (goK c p kg ko).2) ha
    have hln : a < (Sh s (goK c p kg ko).1 (goK c p kg ko).2).length := by rw [sh_len]; omega
    unfold selfO at h1
    have hset : ∀ o : O, ((Sh s (goK c p kg ko).1 (goK c p kg ko).2).set a o)[a]? = some o := fun o => List.getElem?_set_self hln
    clear hln
    simp [h1, hset, fok1, fok2, fput]
    have e9 : (Sh s (goK c p kg ko).1 (goK c p kg ko).2).set a (.ins 0 [(0, cP c), (1, .loc s.length), (2, .loc (s.length + 1))]) = Sh (s.set a (selfO c s.length (s.length + 1))) (goK c p kg ko).1 (goK c p kg ko).2 := sh_set hal
    rw [e9]
    refine ⟨⟨a, hal, ?_⟩, rfl⟩
    have h3 : (Sh (s.set a (selfO c s.length (s.length + 1))) (goK c p kg ko).1 (goK c p kg ko).2)[a]? = some (selfO c s.length (s.length + 1)) := sh_at (List.getElem?_set_self hal)
    rw [h3, ha]
    refine ⟨fun z => ?_, _, rfl, ?_⟩
    · have := selfO_inj (Option.some.inj z)
      omega
    · simp [bndO, selfO, bnd]
  obtain ⟨r, s', e, rfl, rfl⟩ := key
  exact e
end K98
namespace K98
open Pa
theorem u_cat (a b : Nat) (s : S) : binP .add (.loc a) (.loc b) s = match s[a]?, s[b]? with
    | some (.lst xs), some (.lst ys) => if xs.length + ys.length ≤ SZ then alloc (.lst (xs ++ ys)) s else .bad
    | _, _ => .bad := rfl
def rowP (x : List Int × Int) : P := .tup [iP x.1, .int x.2]
theorem items_kv (d : KV) : (d.map kvP).map (fun kv => P.tup [kv.1, kv.2]) = d.map rowP := by
  rw [List.map_map]; rfl
theorem s_rows (n : Nat) (c : Cl) (a gi oi : Nat) (kg ko : KV) (s : S) (ha : s[a]? = some (selfO c gi oi)) (hg : s[gi]? = some (.dct false (kg.map kvP))) (ho : s[oi]? = some (.dct false (ko.map kvP))) (hz : kg.length + ko.length ≤ SZ) :
    callA pg (n + 1) 37 [.loc a] s = .ok (.loc (s.length + 2)) (s ++ [.lst (kg.map rowP), .lst (ko.map rowP), .lst ((kg ++ ko).map rowP)]) := by
  have key : Ok (callA pg (n + 1) 37 [.loc a] s) fun r s' => r = .loc (s.length + 2) ∧ s' = s ++ [.lst (kg.map rowP), .lst (ko.map rowP), .lst ((kg ++ ko).map rowP)] := by
    rw [calA (b := d37) rfl]
    unfold selfO at ha
    have g1 := fun t : S => (Grow.add (s := s) (t := t)).at ha
    have g2 := fun t : S => (Grow.add (s := s) (t := t)).at ho
    simp [runA, d37, b37, ha, hg, fget, alloc]
    refine ok_gcn ?_
    have e1 : ∀ d : KV, List.map ((fun kv : P × P => P.tup [kv.1, kv.2]) ∘ kvP) d = d.map rowP := fun d => rfl
    simp [g1, g2, fget, u_cat, e1, hz, alloc, bnd]
  obtain ⟨r, s', e, rfl, rfl⟩ := key
  exact e
theorem s_init (n : Nat) (c : Cl) (a : Nat) (s : S) (ha : s[a]? = some (.ins 0 [])) (h1 : c.ts ≠ []) (h2 : c.ts.length ≤ 1000) :
    callA pg (n + 2) 34 [.loc a, cP c] s = .ok .non (s.set a (selfO c s.length (s.length + 1)) ++ [.dct false ([((0 : Int) :: 0 :: List.replicate c.ts.length 0, 1)].map kvP), .dct false (([] : KV).map kvP)]) := by
  have hal := (List.getElem?_eq_some_iff.mp ha).1
  have key : Ok (callA pg (n + 2) 34 [.loc a, cP c] s) fun r s' => r = .non ∧ s' = s.set a (selfO c s.length (s.length + 1)) ++ [.dct false ([((0 : Int) :: 0 :: List.replicate c.ts.length 0, 1)].map kvP), .dct false (([] : KV).map kvP)] := by
    rw [calA (b := d34) rfl]
    simp [runA, d34, b34, ha, fok0, fput, alloc]
    refine ok_gcd ?_
    have g : ∀ (o : O) (t : S), (s.set a o ++ t)[a]? = some o := fun o t => by
      rw [List.getElem?_append_left (by simpa using hal)]; exact List.getElem?_set_self hal
    have g2 : ∀ (o o' : O) (t : S), (s.set a o ++ t).set a o' = s.set a o' ++ t := fun o o' t => by
      rw [List.set_append_left _ _ (by simpa using hal), List.set_set]
    have g3 : ∀ (o x : O), (s.set a o ++ [x])[s.length]? = some x := fun o x => by
      rw [List.getElem?_append_right (by simp)]; simp
    have g4 : ∀ (o x y : O), (s.set a o ++ [x]).set s.length y = s.set a o ++ [y] := fun o x y => by
      rw [List.set_append_right _ _ (by simp)]; simp
    have hl : 2 + c.ts.length ≤ SZ := by unfold SZ; omega
    have hcat : ∀ st, binP .add (.tup [.int 0, .int 0]) (iP (List.replicate c.ts.length 0)) st = .ok (iP ((0 : Int) :: 0 :: List.replicate c.ts.length 0)) st := fun st => by
      simp [iP, hl]
    have hk : keyOk false (iP ((0 : Int) :: 0 :: List.replicate c.ts.length 0)) [] = true := keyOk_kv _ []
    have hd : dput [] (iP ((0 : Int) :: 0 :: List.replicate c.ts.length 0)) (.int 1) = [kvP ((0 : Int) :: 0 :: List.replicate c.ts.length 0, 1)] := rfl
    have hs0 : (0 : Nat) < SZ := by unfold SZ; omega
    simp [g, g2, g3, g4, fok1, fok2, fput, fget, s_counts_of, h1, h2, hcat, hk, hd, hs0]
    refine ⟨⟨a, hal, ?_⟩, rfl⟩
    rw [ha, g]
    exact ⟨fun z => (by cases z), _, rfl, by simp [bndO, bnd]⟩
  obtain ⟨r, s', e, rfl, rfl⟩ := key
  exact e
end K98
namespace K98
open Pa
theorem putI_mem {d : KV} {k : List Int} {v : Int} {x : List Int × Int} : x ∈ putI d k v → x.1 = k ∨ ∃ y ∈ d, y.1 = x.1 := by
  induction d with
  | nil => intro h; have : x = (k, v) := by simpa [putI] using h
           exact .inl (by rw [this])
  | cons a r ih =>
    obtain ⟨a, b⟩ := a
    intro h
    unfold putI at h
    split at h
    · rename_i e
      rcases List.mem_cons.mp h with z | z
      · exact .inl (by rw [z]; exact e)
      · exact .inr ⟨x, List.mem_cons_of_mem _ z, rfl⟩
    · rcases List.mem_cons.mp h with z | z
      · exact .inr ⟨_, List.mem_cons_self .., by rw [z]⟩
      · rcases ih z with z | ⟨y, h1, h2⟩
        · exact .inl z
        · exact .inr ⟨y, List.mem_cons_of_mem _ h1, h2⟩
def GoodL (c : Cl) (k : List Int) : Prop := ∃ t m cs, k = t :: m :: cs ∧ cs.length = c.ts.length
theorem good_add {c : Cl} {d : KV} {k : List Int} {m : Int} (h : GoodK c d) (hk : GoodL c k) : GoodK c (addI d k m) := fun x hx => by
  rcases putI_mem hx with z | ⟨y, h1, h2⟩
  · rw [z]; exact hk
  · rw [← h2]; exact h y h1
theorem good_top {c : Cl} {p : Int} {k : List Int} (h : GoodL c k) : GoodL c (topK c p k) := by
  obtain ⟨t, m, cs, rfl, hl⟩ := h
  exact ⟨_, _, _, rfl, topT_len p c.ts cs hl⟩
theorem good_over {c : Cl} {d : KV} (h : GoodK c d) : ∀ acc : KV, GoodK c acc → GoodK c (d.foldl (fun acc kv => addI acc kv.1 kv.2) acc) := by
  induction d with
  | nil => intro acc ha; exact ha
  | cons x r ih =>
    intro acc ha
    exact ih (fun y hy => h y (List.mem_cons_of_mem _ hy)) _ (good_add ha (h x (List.mem_cons_self ..)))
theorem good_go {c : Cl} {p : Int} {d : KV} (h : GoodK c d) : ∀ x : KV × KV, GoodK c x.1 → GoodK c x.2 → GoodK c (d.foldl (goStep c p) x).1 ∧ GoodK c (d.foldl (goStep c p) x).2 := by
  induction d with
  | nil => intro x h1 h2; exact ⟨h1, h2⟩
  | cons kv r ih =>
    intro x h1 h2
    have hk : GoodL c kv.1 := h kv (List.mem_cons_self ..)
    refine ih (fun y hy => h y (List.mem_cons_of_mem _ hy)) _ ?_ ?_
    · unfold goStep
      dsimp only
      split
      · exact good_add h1 (good_top hk)
      · exact good_add (good_add h1 (good_top hk)) hk
    · unfold goStep
      dsimp only
      split
      · exact good_add h2 hk
      · exact h2
theorem good_goK {c : Cl} {p : Int} {g o : KV} (h1 : GoodK c g) (h2 : GoodK c o) : GoodK c (goK c p g o).1 ∧ GoodK c (goK c p g o).2 :=
  good_go h1 _ (fun x hx => by cases hx) (good_over h2 [] fun x hx => by cases hx)
theorem goK_len (c : Cl) (p : Int) (g o : KV) : (goK c p g o).1.length ≤ 2 * g.length ∧ (goK c p g o).2.length ≤ o.length + g.length := by
  have h := go_len c p g ([], goOver o)
  have h2 := over_len o []
  unfold goK
  unfold goOver at *
  simp at h h2
  omega
def startK (c : Cl) : KV × KV := ([((0 : Int) :: 0 :: List.replicate c.ts.length 0, 1)], [])
def runK (c : Cl) (turns : List Int) : KV × KV := turns.foldl (fun x p => goK c p x.1 x.2) (startK c)
theorem runK_snoc (c : Cl) (turns : List Int) (p : Int) : runK c (turns ++ [p]) = goK c p (runK c turns).1 (runK c turns).2 := by unfold runK; rw [List.foldl_append]; rfl
end K98
namespace K98
open Pa
theorem new0 (n : Nat) (xs : List P) (s : S) : newA pg (n + 1) 0 xs s = (callA pg n 34 (.loc s.length :: xs) (s ++ [.ins 0 []])).bind fun r s' => match r with
    | .non => .ok (.loc s.length) s'
    | _ => .bad := rfl
theorem runK_len (c : Cl) (turns : List Int) : ∀ i, i ≤ turns.length → (runK c (turns.take i)).1.length ≤ 2 ^ i ∧ (runK c (turns.take i)).2.length ≤ 2 ^ i ∧ GoodK c (runK c (turns.take i)).1 ∧ GoodK c (runK c (turns.take i)).2
  | 0, _ => by
    rw [List.take_zero]
    refine ⟨by simp [runK, startK], by simp [runK, startK], fun x hx => ?_, fun x hx => ?_⟩
    · have : x = ((0 : Int) :: 0 :: List.replicate c.ts.length 0, 1) := by simpa [runK, startK] using hx
      rw [this]
      exact ⟨_, _, _, rfl, by simp⟩
    · simp [runK, startK] at hx
  | i + 1, h => by
    obtain ⟨h1, h2, h3, h4⟩ := runK_len c turns i (by omega)
    have hi : i < turns.length := by omega
    have e : turns.take (i + 1) = turns.take i ++ [turns[i]] := by rw [List.take_succ, List.getElem?_eq_getElem hi]; rfl
    rw [e, runK_snoc]
    obtain ⟨g1, g2⟩ := goK_len c turns[i] (runK c (turns.take i)).1 (runK c (turns.take i)).2
    obtain ⟨g3, g4⟩ := good_goK (p := turns[i]) h3 h4
    rw [Nat.pow_succ]
    exact ⟨by omega, by omega, g3, g4⟩
theorem s_counted_rows (n : Nat) (c : Cl) (turns : List Int) (s : S) (h1 : c.ts ≠ []) (h2 : c.ts.length ≤ 1000) (hl : turns.length ≤ 20) :
    Ok (callA pg (n + 4) 5 [cP c, iP turns] s) fun r s' => ∃ k, r = .loc k ∧ s.length ≤ k ∧ Grow s s' ∧ s'[k]? = some (.lst (((runK c turns).1 ++ (runK c turns).2).map rowP)) := by
  have hi := s_init n c s.length (s ++ [.ins 0 []]) (by simp) h1 h2
  have hp : ∀ i, i ≤ 20 → 2 ^ i ≤ 1048576 := fun i h => Nat.le_trans (Nat.pow_le_pow_right (by omega) h) (by decide)
  rw [calA (b := d5) rfl]
  simp [runA, d5, b5, new0, hi]
  refine ok_gcn (ok_bind (ok_bind ?_))
  refine ok_for (s1 := s ++ [selfO c (s.length + 1) (s.length + 1 + 1), .dct false [kvP ((0 : Int) :: 0 :: List.replicate c.ts.length 0, 1)], .dct false []]) (w := (turns.map P.int, fun _ => True)) (fun i l st => ∃ a3 gi oi, l = [some (cP c), some (iP turns), some (.loc s.length), a3] ∧ Grow s st ∧ st[s.length]? = some (selfO c gi oi) ∧ gi ≠ oi ∧ s.length ≤ gi ∧ s.length ≤ oi ∧
    st[gi]? = some (.dct false ((runK c (turns.take i)).1.map kvP)) ∧ st[oi]? = some (.dct false ((runK c (turns.take i)).2.map kvP))) ?_ ?_ ?_ ?_ ?_
  · simp [stays, iP]
  · refine ⟨none, s.length + 1, s.length + 1 + 1, rfl, Grow.add, by simp, by omega, by omega, by omega, ?_, ?_⟩
    · simp [runK, startK]
    · rw [List.getElem?_append_right (by omega)]
      have e2 : s.length + 1 + 1 - s.length = 2 := by omega
      rw [e2]; rfl
  · intros; trivial
  · rintro i x l st hx ⟨a3, gi, oi, rfl, q1, q2, q3, q4, q5, q6, q7⟩
    obtain ⟨t, h5, rfl⟩ := map_at hx
    have hlt := (List.getElem?_eq_some_iff.mp h5).1
    obtain ⟨l1, l2, l3, l4⟩ := runK_len c turns i (by omega)
    have hpi := hp i (by omega)
    have hgo := s_go n c t s.length gi oi _ _ st q2 q6 q7 (by unfold SZ; omega) h2 l3
    have e : turns.take (i + 1) = turns.take i ++ [t] := by rw [List.take_succ, h5]; rfl
    have hs : st[s.length]? = some (O.ins 0 [(0, cP c), (1, .loc gi), (2, .loc oi)]) := q2
    simp [hs, fget, mt4, hgo]
    have hal := (List.getElem?_eq_some_iff.mp q2).1
    have hst := q1.len
    refine ⟨?_, st.length, st.length + 1, ?_, by omega, by omega, by omega, ?_, ?_⟩
    · unfold Sh; exact (q1.set (Nat.le_refl _)).trans Grow.add
    · exact sh_at (List.getElem?_set_self hal)
    · have := sh_g (s := st.set s.length (selfO c st.length (st.length + 1))) (g := (goK c t (runK c (turns.take i)).1 (runK c (turns.take i)).2).1) (o := (goK c t (runK c (turns.take i)).1 (runK c (turns.take i)).2).2)
      rw [List.length_set] at this
      rw [e, runK_snoc]; exact this
    · have := sh_o (s := st.set s.length (selfO c st.length (st.length + 1))) (g := (goK c t (runK c (turns.take i)).1 (runK c (turns.take i)).2).1) (o := (goK c t (runK c (turns.take i)).1 (runK c (turns.take i)).2).2)
      rw [List.length_set] at this
      rw [e, runK_snoc]; exact this
  · rintro l st ⟨a3, gi, oi, rfl, q1, q2, q3, q4, q5, q6, q7⟩
    dsimp only at q6 q7
    rw [List.length_map, List.take_length] at q6 q7
    obtain ⟨l1, l2, l3, l4⟩ := runK_len c turns turns.length (Nat.le_refl _)
    rw [List.take_length] at l1 l2
    have hpi := hp turns.length hl
    have hr := s_rows (n + 2) c s.length gi oi _ _ st q2 q6 q7 (by unfold SZ; omega)
    have hs : st[s.length]? = some (O.ins 0 [(0, cP c), (1, .loc gi), (2, .loc oi)]) := q2
    have hst := q1.len
    simp [hs, fget, mt5, hr]
    refine ⟨by simp [bnd]; omega, by omega, q1.trans Grow.add⟩
end K98
namespace K98
open Pa
theorem u_sum (p : P) (s : S) : b1P .sum p s = ofO (((seqOf s p).bind intsOf).map fun l => .int l.sum) s := rfl
theorem intsOf_map : ∀ l : List Int, intsOf (l.map P.int) = some l
  | [] => rfl
  | a :: l => by show (some a).bind _ = _; rw [Option.bind_some, intsOf_map l]; rfl
def allK (c : Cl) (turns : List Int) : KV := (runK c turns).1 ++ (runK c turns).2
theorem allK_len (c : Cl) (turns : List Int) (hl : turns.length ≤ 20) : (allK c turns).length ≤ SZ := by
  obtain ⟨l1, l2, _, _⟩ := runK_len c turns turns.length (Nat.le_refl _)
  rw [List.take_length] at l1 l2
  have hp : 2 ^ turns.length ≤ 1048576 := Nat.le_trans (Nat.pow_le_pow_right (by omega) hl) (by decide)
  unfold allK SZ
  rw [List.length_append]
  omega
theorem s_choice_number (n : Nat) (c : Cl) (turns : List Int) (s : S) (h1 : c.ts ≠ []) (h2 : c.ts.length ≤ 1000) (hl : turns.length ≤ 20) :
    callA pg (n + 5) 6 [cP c, iP turns] s = .ok (.int ((allK c turns).map (·.2)).sum) s := by
  have key : Ok (callA pg (n + 5) 6 [cP c, iP turns] s) fun r s' => r = .int ((allK c turns).map (·.2)).sum ∧ s' = s := by
    obtain ⟨r, s1, e, k, rfl, hk1, hg, hk2⟩ := s_counted_rows n c turns s h1 h2 hl
    have hk2' : s1[k]? = some (.lst ((allK c turns).map rowP)) := hk2
    rw [calA (b := d6) rfl]
    simp [runA, d6, b6]
    refine ok_gc ?_
    repeat (with_reducible refine ok_bind ?_)
    refine ok_lcm (s1 := s1) (gd := stays (.loc k) s1) (allK c turns) rowP (fun x => .int x.2) ?_ ?_ ?_ (allK_len c turns hl) ?_
    · simp [e, hk2']
    · rfl
    · intro y hy
      simp [rowP, wipe]
    · have e2 : (allK c turns).map (fun x => P.int x.2) = ((allK c turns).map (·.2)).map P.int := by rw [List.map_map]; rfl
      rw [e2]
      have := intsOf_map ((allK c turns).map (·.2))
      have hlen := hg.len
      simp only [List.map_map] at this
      simp [u_sum, this, bnd, hg.trans Grow.add]
  obtain ⟨r, s', e, rfl, rfl⟩ := key
  exact e
end K98
namespace K98
open Pa
/-- what a draw gives: some number below many -/
theorem s_draw (n : Nat) (j : Nat) (t0 y : Int) (xs : List Int) (many : Int) (s : S) (h : s[j]? = some (.lst ((t0 :: y :: xs).map P.int))) (h0 : 0 ≤ t0) (hm : 0 < many) :
    ∃ v : Int, 0 ≤ v ∧ v < many ∧ callA pg (n + 1) 25 [.loc j, .int many] s = .ok (.int v) (s.set j (.lst (((t0 + 1) :: y :: xs).map P.int))) := by
  have hj := (List.getElem?_eq_some_iff.mp h).1
  have key : Ok (callA pg (n + 1) 25 [.loc j, .int many] s) fun r s' => ∃ v : Int, 0 ≤ v ∧ v < many ∧ r = .int v ∧ s' = s.set j (.lst (((t0 + 1) :: y :: xs).map P.int)) := by
    have hset : ∀ o : O, (s.set j o)[j]? = some o := fun o => List.getElem?_set_self hj
    rw [calA (b := d25) rfl]
    have hix : ixN ((t0 :: y :: xs).map P.int).length 0 = some 0 := by unfold ixN; simp; omega
    simp at h hix
    simp [runA, d25, b25, h, hix, hset]
    refine ok_gcl ?_
    by_cases hc : t0 + 2 < (xs.length : Int) + 1 + 1
    · obtain ⟨k, rfl⟩ := Int.eq_ofNat_of_zero_le h0
      have hk : k < xs.length := by omega
      have e : ((k : Int) + 2) = ((k + 2 : Nat) : Int) := by omega
      have ea := atI_nat (P.int ((k : Int) + 1) :: P.int y :: xs.map P.int) (k + 2)
      rw [← e] at ea
      simp [hk] at ea
      simp [hc, ea, hset, hm]
      exact ⟨Int.emod_nonneg _ (by omega), Int.emod_lt_of_pos _ hm⟩
    · have sm : ∀ z : Int, 0 ≤ z → z < 100000000 → small z := fun z h1 h2 => by
        have e64 : (2 : Int) ^ 64 = 18446744073709551616 := by decide
        unfold small
        rw [e64]
        omega
      have s1 : small 66029 := sm _ (by omega) (by omega)
      have s2 : small 8219 := sm _ (by omega) (by omega)
      have s3 : small 1801 := sm _ (by omega) (by omega)
      have s4 : ∀ z : Int, small (z % 32452843) := fun z => sm _ (Int.emod_nonneg _ (by omega)) (by have := Int.emod_lt_of_pos z (show (0 : Int) < 32452843 by omega); omega)
      simp [hc, hset, hm, s1, s2, s3, s4]
      exact ⟨Int.emod_nonneg _ (by omega), Int.emod_lt_of_pos _ hm⟩
  obtain ⟨r, s', e, v, h1, h2, rfl, rfl⟩ := key
  exact ⟨v, h1, h2, e⟩
end K98
namespace K98
open Pa
def hd0 (k : List Int) : Int := k.headD 0
def at1 (k : List Int) : Int := k.getD 1 0
def isJ (f : List Int → Int) (j : Int) (k : List Int) : Int := if f k = j then 1 else 0
theorem dsum_append (f : List Int → Int) : ∀ a b : KV, dsum f (a ++ b) = dsum f a + dsum f b
  | [], b => by simp [dsum]
  | (k, v) :: a, b => by simp [dsum, dsum_append f a b]; omega
theorem dsum_snoc (f : List Int → Int) (a : KV) (k : List Int) (v : Int) : dsum f (a ++ [(k, v)]) = dsum f a + v * f k := by
  rw [dsum_append]; simp [dsum]
/-- what holds of all keys; the numbers are above 0 -/
def KAll (p : List Int → Prop) (d : KV) : Prop := ∀ x ∈ d, p x.1 ∧ 0 < x.2
theorem putI_mem2 {d : KV} {k : List Int} {v : Int} {x : List Int × Int} : x ∈ putI d k v → x = (k, v) ∨ x ∈ d := by
  induction d with
  | nil => intro h; exact .inl (by simpa [putI] using h)
  | cons a r ih =>
    obtain ⟨a, b⟩ := a
    intro h
    unfold putI at h
    split at h
    · rename_i e
      subst e
      rcases List.mem_cons.mp h with z | z
      · exact .inl z
      · exact .inr (List.mem_cons_of_mem _ z)
    · rcases List.mem_cons.mp h with z | z
      · exact .inr (by rw [z]; exact List.mem_cons_self ..)
      · rcases ih z with z | z
        · exact .inl z
        · exact .inr (List.mem_cons_of_mem _ z)
theorem getI_mem {d : KV} {k : List Int} {v : Int} (h : getI d k = some v) : (k, v) ∈ d := by
  induction d with
  | nil => cases h
  | cons a r ih =>
    obtain ⟨a, b⟩ := a
    unfold getI at h
    split at h
    · rename_i e; subst e; cases h; exact List.mem_cons_self ..
    · exact List.mem_cons_of_mem _ (ih h)
theorem kall_add {p : List Int → Prop} {d : KV} {k : List Int} {m : Int} (h : KAll p d) (hk : p k) (hm : 0 < m) : KAll p (addI d k m) := fun x hx => by
  rcases putI_mem2 hx with z | z
  · rw [z]
    refine ⟨hk, ?_⟩
    cases e : getI d k with
    | none => simpa using hm
    | some v =>
      have := (h _ (getI_mem e)).2
      simp only [Option.getD_some]
      dsimp only at this
      omega
  · exact h x z
theorem KAll.imp {p q : List Int → Prop} {d : KV} (h : KAll p d) (k : ∀ x, p x → q x) : KAll q d := fun x hx => ⟨k _ (h x hx).1, (h x hx).2⟩
theorem kall_nil {p : List Int → Prop} : KAll p [] := fun x hx => by cases hx
theorem kall_over {p : List Int → Prop} {d : KV} (h : KAll p d) : ∀ acc : KV, KAll p acc → KAll p (d.foldl (fun acc kv => addI acc kv.1 kv.2) acc) := by
  induction d with
  | nil => intro acc ha; exact ha
  | cons x r ih =>
    intro acc ha
    exact ih (fun y hy => h y (List.mem_cons_of_mem _ hy)) _ (kall_add ha (h x (List.mem_cons_self ..)).1 (h x (List.mem_cons_self ..)).2)
theorem kall_go {c : Cl} {p : Int} {q q' : List Int → Prop} (h1 : ∀ k, q k → q' k) (h2 : ∀ k, q k → q' (topK c p k)) {d : KV} (h : KAll q d) : ∀ x : KV × KV, KAll q' x.1 → KAll q' x.2 → KAll q' (d.foldl (goStep c p) x).1 ∧ KAll q' (d.foldl (goStep c p) x).2 := by
  induction d with
  | nil => intro x a b; exact ⟨a, b⟩
  | cons kv r ih =>
    intro x a b
    have hk := h kv (List.mem_cons_self ..)
    refine ih (fun y hy => h y (List.mem_cons_of_mem _ hy)) _ ?_ ?_
    · unfold goStep
      dsimp only
      split
      · exact kall_add a (h2 _ hk.1) hk.2
      · exact kall_add (kall_add a (h2 _ hk.1) hk.2) (h1 _ hk.1) hk.2
    · unfold goStep
      dsimp only
      split
      · exact kall_add b (h1 _ hk.1) hk.2
      · exact b
theorem kall_goK {c : Cl} {p : Int} {q q' : List Int → Prop} (h1 : ∀ k, q k → q' k) (h2 : ∀ k, q k → q' (topK c p k)) {g o : KV} (hg : KAll q g) (ho : KAll q o) : KAll q' (goK c p g o).1 ∧ KAll q' (goK c p g o).2 :=
  kall_go h1 h2 hg _ kall_nil ((kall_over ho [] kall_nil).imp h1)
def Kq (c : Cl) (i : Nat) (k : List Int) : Prop := ∃ t m cs, k = t :: m :: cs ∧ cs.length = c.ts.length ∧ 0 ≤ t ∧ t ≤ i
theorem kall_run (c : Cl) (turns : List Int) : ∀ i, i ≤ turns.length → KAll (Kq c i) (runK c (turns.take i)).1 ∧ KAll (Kq c i) (runK c (turns.take i)).2
  | 0, _ => by
    rw [List.take_zero]
    refine ⟨fun x hx => ?_, fun x hx => ?_⟩
    · have : x = ((0 : Int) :: 0 :: List.replicate c.ts.length 0, 1) := by simpa [runK, startK] using hx
      rw [this]
      exact ⟨⟨_, _, _, rfl, by simp, by omega, by omega⟩, by show (0 : Int) < 1; omega⟩
    · simp [runK, startK] at hx
  | i + 1, h => by
    obtain ⟨h1, h2⟩ := kall_run c turns i (by omega)
    have hi : i < turns.length := by omega
    have e : turns.take (i + 1) = turns.take i ++ [turns[i]] := by rw [List.take_succ, List.getElem?_eq_getElem hi]; rfl
    rw [e, runK_snoc]
    refine kall_goK ?_ ?_ h1 h2
    · rintro k ⟨t, m, cs, rfl, a, b, d⟩
      exact ⟨t, m, cs, rfl, a, b, by omega⟩
    · rintro k ⟨t, m, cs, rfl, a, b, d⟩
      exact ⟨t + 1, _, _, rfl, topT_len turns[i] c.ts cs a, by omega, by omega⟩
theorem kall_all (c : Cl) (turns : List Int) : KAll (Kq c turns.length) (allK c turns) := fun x hx => by
  obtain ⟨h1, h2⟩ := kall_run c turns turns.length (Nat.le_refl _)
  rw [List.take_length] at h1 h2
  rcases List.mem_append.mp hx with z | z
  · exact h1 x z
  · exact h2 x z
theorem u_mulL (a : Nat) (k : Int) (s : S) : binP .mul (.loc a) (.int k) s = match s[a]? with
    | some (.lst xs) => if -(2 ^ 63) ≤ k ∧ k < 2 ^ 63 ∧ xs.length * k.toNat ≤ SZ then alloc (.lst (List.replicate k.toNat xs).flatten) s else .bad
    | _ => .bad := rfl
def byT (c : Cl) (turns : List Int) (d : KV) : List P := (List.range (turns.length + 1)).map fun j : Nat => .int (dsum (isJ hd0 j) d)
theorem rep_range {α : Type} (a : α) (n : Nat) : List.replicate n a = (List.range n).map fun _ => a := by
  rw [List.map_const', List.length_range]
theorem s_choices_by_tops (n : Nat) (c : Cl) (turns : List Int) (s : S) (h1 : c.ts ≠ []) (h2 : c.ts.length ≤ 1000) (hl : turns.length ≤ 20) :
    callA pg (n + 5) 7 [cP c, iP turns] s = .ok (.tup (byT c turns (allK c turns))) s := by
  have key : Ok (callA pg (n + 5) 7 [cP c, iP turns] s) fun r s' => r = .tup (byT c turns (allK c turns)) ∧ s' = s := by
    have en : ((turns.length : Int) + 1).toNat = turns.length + 1 := by omega
    have hb1 : (-9223372036854775808 : Int) ≤ (turns.length : Int) + 1 := by omega
    have hb2 : (turns.length : Int) + 1 < 9223372036854775808 := by omega
    have hb3 : turns.length + 1 ≤ SZ := by unfold SZ; omega
    have e0 : List.replicate (turns.length + 1) (P.int 0) = byT c turns [] := by unfold byT; rw [rep_range]; simp [dsum]
    obtain ⟨r, s3, e, k, rfl, hk1, hg, hk2⟩ := s_counted_rows n c turns (s ++ [.lst [.int 0], .lst (byT c turns [])]) h1 h2 hl
    have hk2' : s3[k]? = some (.lst ((allK c turns).map rowP)) := hk2
    simp only [List.length_append, List.length_cons, List.length_nil] at hk1
    have hv : s3[s.length + 1]? = some (.lst (byT c turns [])) := hg.at (by simp)
    have hvl := (List.getElem?_eq_some_iff.mp hv).1
    rw [calA (b := d7) rfl]
    simp [runA, d7, b7, iP, alloc, u_mulL, hb1, hb2, hb3, en, e0]
    refine ok_gc (ok_bind (ok_bind ?_))
    refine ok_for (s1 := s3) (w := ((allK c turns).map rowP, stays (.loc k) s3)) (fun i l st => ∃ a3 a4, l = [some (cP c), some (iP turns), some (.loc (s.length + 1)), a3, a4] ∧ st = s3.set (s.length + 1) (.lst (byT c turns ((allK c turns).take i)))) ?_ ?_ ?_ ?_ ?_
    · have e' : callA pg (n + 4) 5 [cP c, P.tup (List.map P.int turns)] (s ++ [.lst [.int 0], .lst (byT c turns [])]) = .ok (.loc k) s3 := e
      simp [e', hk2']
    · refine ⟨none, none, rfl, ?_⟩
      rw [List.take_zero]
      exact (List.ext_getElem? fun j => by
        by_cases hj : j = s.length + 1
        · subst hj; rw [List.getElem?_set_self hvl, hv]
        · rw [List.getElem?_set_ne (Ne.symm hj)])
    · rintro i l st _ ⟨a3, a4, rfl, rfl⟩
      show _ = _
      rw [List.getElem?_set_ne (by omega)]
    · rintro i x l st hx ⟨a3, a4, rfl, rfl⟩
      obtain ⟨kv, hkv, rfl⟩ := map_at hx
      obtain ⟨⟨t, m, cs, ek, _, t0, t1⟩, _⟩ := kall_all c turns kv (List.mem_of_getElem? hkv)
      obtain ⟨kk, v⟩ := kv
      dsimp only at ek
      subst ek
      obtain ⟨t, rfl⟩ := Int.eq_ofNat_of_zero_le t0
      have ht : t < turns.length + 1 := by omega
      have hat : ∀ d, atI (byT c turns d) (t : Int) = some (.int (dsum (isJ hd0 t) d)) := fun d => by
        rw [atI_nat]; unfold byT; rw [List.getElem?_map, List.getElem?_range ht]; rfl
      have hix : ∀ d, ixN (byT c turns d).length (t : Int) = some t := fun d => by
        unfold ixN byT; simp; omega
      have hset : ∀ d v', dsum (isJ hd0 t) d + v = v' → (byT c turns d).set t (.int v') = byT c turns (d ++ [((t : Int) :: m :: cs, v)]) := fun d v' hv' => by
        unfold byT
        refine map_range_set _ _ _ _ _ ?_ ?_
        · rw [dsum_snoc, ← hv']; simp [isJ, hd0]
        · intro j hj
          rw [dsum_snoc]
          have : ¬ (t : Int) = j := by omega
          simp [isJ, hd0, this]
      have et : (allK c turns).take (i + 1) = (allK c turns).take i ++ [((t : Int) :: m :: cs, v)] := by rw [List.take_succ, hkv]; rfl
      have hself : ∀ o : O, (s3.set (s.length + 1) o)[s.length + 1]? = some o := fun o => List.getElem?_set_self hvl
      have e1 : ∀ st, ixP (iP ((t : Int) :: m :: cs)) (.int 0) st = .ok (.int t) st := fun st => by simp [iP]
      simp [rowP, e1, hself, hat, hix, et, hset _ _ rfl]
    · rintro l st ⟨a3, a4, rfl, rfl⟩
      dsimp only
      rw [List.length_map, List.take_length]
      have hself : ∀ o : O, (s3.set (s.length + 1) o)[s.length + 1]? = some o := fun o => List.getElem?_set_self hvl
      have hb : ∀ m, bnds m (byT c turns (allK c turns)) = true := fun m => bnds_map m _ (fun j => rfl) _
      simp [hself, bnd, hb]
      exact (Grow.trans Grow.add hg).set (by omega)
  obtain ⟨r, s', e, rfl, rfl⟩ := key
  exact e
end K98
namespace K98
open Pa
abbrev IV := List (Int × Int)
def prP (x : Int × Int) : P := .tup [.int x.1, .int x.2]
def jP (z : Int × Int) : P × P := (P.int z.1, P.int z.2)
theorem int_inj : ∀ a b : Int, P.int a = P.int b → a = b := fun a b h => by injection h
def numStep (d : IV) (x : List Int × Int) : IV := putG d (at1 x.1) ((getG d (at1 x.1)).getD 0 + x.2)
def numD (l : KV) : IV := l.foldl numStep []
theorem numD_snoc (l : KV) (x : List Int × Int) : numD (l ++ [x]) = numStep (numD l) x := by unfold numD; rw [List.foldl_append]; rfl
theorem numD_len (l : KV) : (numD l).length ≤ l.length := by
  suffices h : ∀ d : IV, (l.foldl numStep d).length ≤ d.length + l.length by simpa [numD] using h []
  induction l with
  | nil => intro d; simp
  | cons x r ih =>
    intro d
    have := ih (numStep d x)
    have h2 := putG_len d (at1 x.1) ((getG d (at1 x.1)).getD 0 + x.2)
    have h3 : (numStep d x).length ≤ d.length + 1 := h2
    rw [List.foldl_cons, List.length_cons]
    omega
theorem gsum_foldl (g : Int → Int) : ∀ (l : KV) (d : IV), gsum g (l.foldl numStep d) = gsum g d + dsum (fun k => g (at1 k)) l
  | [], d => by simp [dsum]
  | (k, v) :: l, d => by
    rw [List.foldl_cons, gsum_foldl g l, numStep, gsum_add]
    simp [dsum]
    omega
theorem gsum_numD (g : Int → Int) (l : KV) : gsum g (numD l) = dsum (fun k => g (at1 k)) l := by
  have := gsum_foldl g l []
  simpa [numD, gsum] using this
theorem numD_pos {l : KV} (h : ∀ x ∈ l, 0 < x.2) : ∀ x ∈ numD l, 0 < x.2 := by
  suffices q : ∀ d : IV, (∀ x ∈ d, 0 < x.2) → ∀ x ∈ l.foldl numStep d, 0 < x.2 from q [] (fun x hx => by cases hx)
  induction l with
  | nil => intro d hd; exact hd
  | cons y r ih =>
    intro d hd
    refine ih (fun x hx => h x (List.mem_cons_of_mem _ hx)) _ fun x hx => ?_
    rcases putG_mem hx with z | z
    · rw [z]
      have hy := h y (List.mem_cons_self ..)
      cases e : getG d (at1 y.1) with
      | none => simpa using hy
      | some v =>
        have := hd _ (getG_mem e)
        simp only [Option.getD_some]
        dsimp only at this
        omega
    · exact hd x z
theorem numD_nd (l : KV) : ((numD l).map (·.1)).Nodup := by
  suffices q : ∀ d : IV, (d.map (·.1)).Nodup → ((l.foldl numStep d).map (·.1)).Nodup from q [] (by simp)
  induction l with
  | nil => intro d hd; exact hd
  | cons y r ih => intro d hd; exact ih _ (putG_nd hd)
theorem perm_map_inv {α β : Type} {f : α → β} {xs ys : List β} (h : xs.Perm ys) : ∀ d, ys = d.map f → ∃ L : List α, L.Perm d ∧ xs = L.map f := by
  induction h with
  | nil => intro d e; exact ⟨d, .refl _, e⟩
  | cons x _ ih =>
    intro d e
    cases d with
    | nil => cases e
    | cons a d =>
      rw [List.map_cons] at e
      injection e with e1 e2
      obtain ⟨L, h1, h2⟩ := ih d e2
      exact ⟨a :: L, h1.cons a, by rw [List.map_cons, ← h2, e1]⟩
  | swap x y l =>
    intro d e
    match d, e with
    | [], e => cases e
    | [a], e => cases e
    | a :: b :: d, e =>
      rw [List.map_cons, List.map_cons] at e
      injection e with e1 e2
      injection e2 with e2 e3
      exact ⟨b :: a :: d, .swap _ _ _, by rw [List.map_cons, List.map_cons, e1, e2, e3]⟩
  | trans _ _ h1 h2 =>
    intro d e
    obtain ⟨L, p1, p2⟩ := h2 d e
    obtain ⟨L', q1, q2⟩ := h1 L p2
    exact ⟨L', q1.trans p1, q2⟩
theorem pures_map {α : Type} {f : α → P} (h : ∀ a, pure? (f a) = true) : ∀ l : List α, pures? (l.map f) = true
  | [] => rfl
  | a :: l => by show (pure? (f a) && pures? (l.map f)) = true; rw [h, pures_map h l]; rfl
theorem sort_ii (d : IV) : ∃ L : IV, sortP (d.map prP) = some (L.map prP) ∧ L.Perm d ∧ L.Pairwise fun a b => a.1 ≤ b.1 := by
  have hs : ∃ ys, sortP (d.map prP) = some ys := by
    unfold sortP
    rw [if_pos]
    · exact ⟨_, rfl⟩
    · refine ⟨pures_map (fun a => rfl) d, ?_, .inl ?_, ?_⟩
      · rw [List.map_map]
        exact PySem.W.AllAlike.of fun a b => rfl
      · rw [List.map_map]
        exact PySem.W.Sortable.tuples fun a => ⟨_, _, rfl⟩
      · intro x hx
        obtain ⟨a, _, rfl⟩ := List.mem_map.mp hx
        have : (pd (prP a)).depth = 1 := rfl
        omega
  obtain ⟨ys, hy⟩ := hs
  obtain ⟨h1, h2⟩ := sortP_perm hy
  obtain ⟨L, p1, rfl⟩ := perm_map_inv h1 d rfl
  refine ⟨L, hy, p1, ?_⟩
  rw [List.pairwise_map] at h2
  refine h2.imp fun {a b} hab => ?_
  have e : PySem.W.dataLt (pd (prP b)) (pd (prP a)) = decide (b.1 < a.1 ∨ (b.1 = a.1 ∧ b.2 < a.2)) := PySem.W.dataLt_ii _ _ _ _
  rw [e] at hab
  simp at hab
  omega
theorem asc_strict {L d : IV} (h : L.Perm d) (hn : (d.map (·.1)).Nodup) (hp : L.Pairwise fun a b => a.1 ≤ b.1) : L.Pairwise fun a b => a.1 < b.1 := by
  have hn2 : (L.map (·.1)).Nodup := (h.map _).nodup_iff.mpr hn
  rw [List.Nodup, List.pairwise_map] at hn2
  exact (hp.and hn2).imp fun {a b} hab => by
    have := hab.1
    have h2 : a.1 ≠ b.1 := hab.2
    omega
theorem s_number_counts (n : Nat) (c : Cl) (turns : List Int) (s : S) (h1 : c.ts ≠ []) (h2 : c.ts.length ≤ 1000) (hl : turns.length ≤ 20) :
    ∃ L : IV, callA pg (n + 5) 8 [cP c, iP turns] s = .ok (.tup (L.map prP)) s ∧ L.Perm (numD (allK c turns)) ∧ L.Pairwise fun a b => a.1 < b.1 := by
  obtain ⟨L, e1, e2, e3⟩ := sort_ii (numD (allK c turns))
  refine ⟨L, ?_, e2, asc_strict e2 (numD_nd _) e3⟩
  have key : Ok (callA pg (n + 5) 8 [cP c, iP turns] s) fun r s' => r = .tup (L.map prP) ∧ s' = s := by
    obtain ⟨r, s3, e, k, rfl, hk1, hg, hk2⟩ := s_counted_rows n c turns (s ++ [.dct false []]) h1 h2 hl
    have hk2' : s3[k]? = some (.lst ((allK c turns).map rowP)) := hk2
    simp only [List.length_append, List.length_cons, List.length_nil] at hk1
    have hv : s3[s.length]? = some (.dct false []) := hg.at (by simp)
    have hvl := (List.getElem?_eq_some_iff.mp hv).1
    have hself : ∀ o : O, (s3.set s.length o)[s.length]? = some o := fun o => List.getElem?_set_self hvl
    rw [calA (b := d8) rfl]
    simp [runA, d8, b8, iP, alloc]
    refine ok_gc (ok_bind (ok_bind ?_))
    refine ok_for (s1 := s3) (w := ((allK c turns).map rowP, stays (.loc k) s3)) (fun i l st => ∃ a3 a4, l = [some (cP c), some (iP turns), some (.loc s.length), a3, a4] ∧ st = s3.set s.length (.dct false ((numD ((allK c turns).take i)).map jP))) ?_ ?_ ?_ ?_ ?_
    · have e' : callA pg (n + 4) 5 [cP c, P.tup (List.map P.int turns)] (s ++ [.dct false []]) = .ok (.loc k) s3 := e
      simp [e', hk2']
    · refine ⟨none, none, rfl, ?_⟩
      exact (List.ext_getElem? fun j => by
        by_cases hj : j = s.length
        · subst hj; rw [hself, hv]; rfl
        · rw [List.getElem?_set_ne (Ne.symm hj)])
    · rintro i l st _ ⟨a3, a4, rfl, rfl⟩
      show _ = _
      rw [List.getElem?_set_ne (by omega)]
    · rintro i x l st hx ⟨a3, a4, rfl, rfl⟩
      obtain ⟨kv, hkv, rfl⟩ := map_at hx
      obtain ⟨⟨t, m, cs, ek, _, t0, t1⟩, _⟩ := kall_all c turns kv (List.mem_of_getElem? hkv)
      obtain ⟨kk, v⟩ := kv
      dsimp only at ek
      subst ek
      have et : (allK c turns).take (i + 1) = (allK c turns).take i ++ [(t :: m :: cs, v)] := by rw [List.take_succ, hkv]; rfl
      have e1 : ∀ st, ixP (iP (t :: m :: cs)) (.int 1) st = .ok (.int m) st := fun st => by simp [iP]
      generalize hD : numD ((allK c turns).take i) = D
      have hlen : D.length < SZ := by
        have := numD_len ((allK c turns).take i)
        have h3 := allK_len c turns hl
        have hi := (List.getElem?_eq_some_iff.mp hkv).1
        rw [hD, List.length_take] at this
        omega
      have hko : keyOk false (.int m) (D.map jP) = true := keyOk_flat (e := P.int) (fun k => rfl) m D
      have hget : dget (D.map jP) (.int m) = (getG D m).map P.int := dget_g int_inj m D
      have hput : ∀ v, dput (D.map jP) (.int m) (.int v) = (putG D m v).map jP := fun v => dput_g int_inj m v D
      have hgd : ((getG D m).map P.int).getD (.int 0) = .int ((getG D m).getD 0) := by cases getG D m <;> rfl
      have hst : numD ((allK c turns).take (i + 1)) = putG D m ((getG D m).getD 0 + v) := by
        rw [et, numD_snoc, hD]; rfl
      simp [rowP, e1, hself, hko, hget, hgd, hput, hlen, hst]
    · rintro l st ⟨a3, a4, rfl, rfl⟩
      dsimp only
      rw [List.length_map, List.take_length]
      have e5 : ∀ d : IV, (d.map jP).map (fun kv => P.tup [kv.1, kv.2]) = d.map prP := fun d => by rw [List.map_map]; rfl
      have es : sortIP (.loc s.length) (s3.set s.length (.dct false ((numD (allK c turns)).map jP))) = .ok (.loc s3.length) (s3.set s.length (.dct false ((numD (allK c turns)).map jP)) ++ [.lst (L.map prP)]) := by
        unfold sortIP
        simp only [hself, e5, e1, alloc, List.length_set]
      have hn : ((s3.set s.length (.dct false ((numD (allK c turns)).map jP))) ++ [.lst (L.map prP)])[s3.length]? = some (.lst (L.map prP)) := by
        have := at_new (s3.set s.length (.dct false ((numD (allK c turns)).map jP))) (.lst (L.map prP))
        rwa [List.length_set] at this
      have hb : ∀ m, bnds m (L.map prP) = true := fun m => bnds_map m _ (fun j => rfl) _
      simp [es, hn, bnd, hb]
      exact ((Grow.trans Grow.add hg).set (Nat.le_refl _)).trans Grow.add
  obtain ⟨r, s', e, rfl, rfl⟩ := key
  exact e
theorem filt_sum (L : IV) : ((L.filterMap fun x => if x.1 < 0 then some x.2 else none)).sum = gsum (fun v => if v < 0 then 1 else 0) L := by
  induction L with
  | nil => rfl
  | cons x r ih =>
    obtain ⟨a, b⟩ := x
    rw [List.filterMap_cons]
    by_cases h : a < 0
    · simp [h, gsum, ih]
    · simp [h, gsum, ih]
def badN (c : Cl) (turns : List Int) : Int := dsum (fun k => if at1 k < 0 then 1 else 0) (allK c turns)
theorem s_bad_number (n : Nat) (c : Cl) (turns : List Int) (s : S) (h1 : c.ts ≠ []) (h2 : c.ts.length ≤ 1000) (hl : turns.length ≤ 20) :
    callA pg (n + 6) 9 [cP c, iP turns] s = .ok (.int (badN c turns)) s := by
  obtain ⟨L, e1, e2, e3⟩ := s_number_counts n c turns s h1 h2 hl
  have key : Ok (callA pg (n + 6) 9 [cP c, iP turns] s) fun r s' => r = .int (badN c turns) ∧ s' = s := by
    have hlen : L.length ≤ SZ := by
      rw [e2.length_eq]
      exact Nat.le_trans (numD_len _) (allK_len c turns hl)
    rw [calA (b := d9) rfl]
    simp [runA, d9, b9]
    refine ok_gc ?_
    repeat (with_reducible refine ok_bind ?_)
    refine ok_lcf (s1 := s) (gd := fun _ => True) L prP (fun x => (if x.1 < 0 then some x.2 else none).map P.int) ?_ ?_ ?_ hlen ?_
    · simp [e1, stays]
    · trivial
    · rintro ⟨a, b⟩ _
      by_cases h : a < 0 <;> simp [prP, wipe, h]
    · rw [filterMap_comp]
      have e6 : (L.filterMap fun x => if x.1 < 0 then some x.2 else none).sum = badN c turns := by
        rw [filt_sum, gsum_perm _ e2, gsum_numD]; rfl
      have := intsOf_map (L.filterMap fun x => if x.1 < 0 then some x.2 else none)
      simp [u_sum, this, bnd, Grow.add, e6]
  obtain ⟨r, s', e, rfl, rfl⟩ := key
  exact e
end K98
namespace K98
open Pa
abbrev St := Nat × List Int
def stP (x : St) : P := .tup [.int x.1, iP x.2]
def keyL (x : St) : List Int := (x.1 : Int) :: x.2
/-- the ways on from a state -/
def goes (c : Cl) (turns : List Int) (x : St) : List (List Int × Int) := match turns[x.1]? with
  | some p => moves c p x.2
  | none => []
theorem goOns_goes (c : Cl) (turns : List Int) (x : St) : goOns c turns x.1 x.2 = (goes c turns x).map (goP x.1) := by
  unfold goOns goes
  cases turns[x.1]? <;> rfl
theorem goes_len (c : Cl) (turns : List Int) (x : St) : (goes c turns x).length ≤ 2 := by
  unfold goes
  cases turns[x.1]? with
  | none => simp
  | some p => exact moves_len c p x.2
theorem goes_good {c : Cl} {turns : List Int} {x : St} (h : x.2.length = c.ts.length) : ∀ y ∈ goes c turns x, y.1.length = c.ts.length := by
  intro y hy
  unfold goes at hy
  cases e : turns[x.1]? with
  | none => rw [e] at hy; cases hy
  | some p =>
    rw [e] at hy
    unfold moves at hy
    rcases List.mem_cons.mp hy with z | z
    · rw [z]; exact topT_len p c.ts x.2 h
    · split at z
      · cases z
      · rw [List.mem_singleton] at z; rw [z]; exact h
theorem goes_lt {c : Cl} {turns : List Int} {x : St} {y : List Int × Int} (h : y ∈ goes c turns x) : x.1 < turns.length := by
  unfold goes at h
  cases e : turns[x.1]? with
  | none => rw [e] at h; cases h
  | some p => exact (List.getElem?_eq_some_iff.mp e).1
def wt (T k : Nat) : Nat := 2 ^ (T + 1 - k) - 1
def wts (T : Nat) (l : List St) : Nat := (l.map fun x => wt T x.1).sum
theorem wts_app (T : Nat) (a b : List St) : wts T (a ++ b) = wts T a + wts T b := by unfold wts; rw [List.map_append, List.sum_append]
theorem wt_pos {T k : Nat} (h : k ≤ T) : 1 ≤ wt T k := by
  unfold wt
  have : 2 ^ 1 ≤ 2 ^ (T + 1 - k) := Nat.pow_le_pow_right (by omega) (by omega)
  omega
theorem wt_half {T k : Nat} (h : k < T) : 2 * wt T (k + 1) + 1 = wt T k := by
  unfold wt
  have e : T + 1 - k = (T + 1 - (k + 1)) + 1 := by omega
  have : 1 ≤ 2 ^ (T + 1 - (k + 1)) := Nat.pow_pos (by omega)
  rw [e, Nat.pow_succ]
  omega
theorem wts_len {T : Nat} : ∀ {l : List St}, (∀ x ∈ l, x.1 ≤ T) → l.length ≤ wts T l
  | [], _ => Nat.zero_le _
  | x :: l, h => by
    have h1 := wts_len (l := l) fun y hy => h y (List.mem_cons_of_mem _ hy)
    have h2 := wt_pos (h x (List.mem_cons_self ..))
    show l.length + 1 ≤ wt T x.1 + wts T l
    omega
theorem wts_new {T k : Nat} : ∀ {l : List St}, (∀ x ∈ l, x.1 = k) → wts T l = l.length * wt T k
  | [], _ => by simp [wts]
  | x :: l, h => by
    have h1 := wts_new (T := T) (l := l) fun y hy => h y (List.mem_cons_of_mem _ hy)
    show wt T x.1 + wts T l = (l.length + 1) * wt T k
    rw [h1, h x (List.mem_cons_self ..), Nat.succ_mul]
    omega
def zs (c : Cl) : List Int := List.replicate c.ts.length 0
structure Rch (c : Cl) (turns : List Int) (st : List St) : Prop where
  good : ∀ x ∈ st, x.2.length = c.ts.length ∧ x.1 ≤ turns.length
  first : (0, zs c) ∈ st
def Done (c : Cl) (turns : List Int) (st : List St) (i : Nat) : Prop := ∀ x ∈ st.take i, ∀ y ∈ goes c turns x, (x.1 + 1, y.1) ∈ st
abbrev Sn := List (List Int × Unit)
def snP (z : List Int × Unit) : P × P := (iP z.1, P.bl true)
theorem iP_inj2 : ∀ a b : List Int, iP a = iP b → a = b := fun _ _ h => iP_inj h
theorem getG_unit (d : Sn) (x : List Int) : ((getG d x).map (fun _ : Unit => P.bl true)).isSome = (getG d x).isSome := by cases getG d x <;> rfl
theorem tk_app {α : Type} {a b : List α} {i : Nat} (h : i ≤ a.length) : (a ++ b).take i = a.take i := List.take_append_of_le_length h
structure RInv (c : Cl) (turns : List Int) (st : List St) (sn : Sn) : Prop where
  r : Rch c turns st
  seen : ∀ z ∈ sn, ∃ y ∈ st, keyL y = z.1
  len : sn.length ≤ st.length
theorem RInv.add {c : Cl} {turns : List Int} {st : List St} {sn : Sn} (h : RInv c turns st sn) {x : St} (h1 : x.2.length = c.ts.length) (h2 : x.1 ≤ turns.length) : RInv c turns (st ++ [x]) (putG sn (keyL x) ()) where
  r := ⟨fun y hy => by
    rcases List.mem_append.mp hy with z | z
    · exact h.r.good y z
    · rw [List.mem_singleton] at z; subst z; exact ⟨h1, h2⟩, List.mem_append_left _ h.r.first⟩
  seen z hz := by
    rcases putG_mem hz with q | q
    · exact ⟨x, by simp, by rw [q]⟩
    · obtain ⟨y, hy, e⟩ := h.seen z q
      exact ⟨y, List.mem_append_left _ hy, e⟩
  len := by
    have := putG_len sn (keyL x) ()
    have := h.len
    simp
    omega
theorem keyL_inj {x y : St} (h : keyL x = keyL y) : x = y := by
  unfold keyL at h
  injection h with h1 h2
  exact Prod.ext (by omega) h2
/-- one way on is looked at -/
theorem reach_step (n : Nat) (c : Cl) (turns : List Int) (a b : Nat) (l : Loc) (S0 : S) (st : List St) (sn : Sn) (k : Nat) (y : List Int × Int) (l0 l1 l4 : Option P) (a5 a6 a7 : Option P)
    (hl : l = [l0, l1, some (.loc a), some (.loc b), l4, a5, a6, a7]) (ha : S0[a]? = some (.lst (st.map stP))) (hb : S0[b]? = some (.dct false (sn.map snP))) (iv : RInv c turns st sn) (hy : y.1.length = c.ts.length) (hk : k + 1 ≤ turns.length) (h2 : c.ts.length ≤ 1000) (hz : st.length < SZ) :
    Ok ((ofO (bindT (.tup (.cons (.v 5) (.cons (.v 6) (.cons (.v 7) .nil)))) (goP k y) l) S0).bind fun l s => exsA (envA pg (n + 1)) (.cons (.ife (.cmp .nin (.call 10 (.cons (.v 5) (.cons (.v 6) .nil))) (.v 3)) (.cons (.asgI (.v 3) (.call 10 (.cons (.v 5) (.cons (.v 6) .nil))) (.bl true)) (.cons (.ex (.m1 .append (.v 2) (.tup (.cons (.v 5) (.cons (.v 6) .nil))))) .nil)) .nil) .nil) l s)
      fun fl s' => ∃ a5 a6 a7 more sn', fl = .nx [l0, l1, some (.loc a), some (.loc b), l4, a5, a6, a7] ∧ s' = (S0.set a (.lst ((st ++ more).map stP))).set b (.dct false (sn'.map snP)) ∧ RInv c turns (st ++ more) sn' ∧ more.length ≤ 1 ∧ (∀ x ∈ more, x.1 = k + 1) ∧ (k + 1, y.1) ∈ st ++ more := by
  subst hl
  obtain ⟨k1, hk1⟩ : ∃ k1, k1 = k + 1 := ⟨_, rfl⟩
  rw [← hk1] at hk
  simp only [← hk1]
  have hal := (List.getElem?_eq_some_iff.mp ha).1
  have hbl := (List.getElem?_eq_some_iff.mp hb).1
  have hne : a ≠ b := fun z => by subst z; rw [ha] at hb; cases hb
  have hkey := fun st' => s_state_key n k1 y.1 st' (by omega)
  have e0 : goP k y = .tup [.int (k1 : Nat), iP y.1, .int y.2] := by rw [hk1]; rfl
  have hko : keyOk false (iP ((k1 : Int) :: y.1)) (sn.map snP) = true := keyOk_tup (e := iP) (fun k => tupK_iP k) _ sn
  have hget : dget (sn.map snP) (iP ((k1 : Int) :: y.1)) = (getG sn ((k1 : Int) :: y.1)).map fun _ => P.bl true := dget_g (v := fun _ : Unit => P.bl true) iP_inj2 _ sn
  have hput : dput (sn.map snP) (iP ((k1 : Int) :: y.1)) (.bl true) = (putG sn ((k1 : Int) :: y.1) ()).map snP := dput_g (v := fun _ : Unit => P.bl true) iP_inj2 _ () sn
  have hsl := iv.len
  have hsl2 : sn.length < SZ := by omega
  cases e : getG sn ((k1 : Int) :: y.1) with
  | some u =>
    rw [e] at hget
    refine ok_eq (a := .nx [l0, l1, some (.loc a), some (.loc b), l4, some (.int (k1 : Nat)), some (iP y.1), some (.int y.2)]) (s := S0) (by simp [e0, hkey, hb, hko, hget]) ?_
    refine ⟨_, _, _, [], sn, rfl, ?_, by simpa using iv, Nat.zero_le _, fun x hx => (by cases hx), ?_⟩
    · have e1 : S0.set a (.lst (st.map stP)) = S0 := List.ext_getElem? fun j => by
        by_cases hj : j = a
        · subst hj; rw [List.getElem?_set_self hal, ha]
        · rw [List.getElem?_set_ne (Ne.symm hj)]
      rw [List.append_nil, e1]
      exact (List.ext_getElem? fun j => by
        by_cases hj : j = b
        · subst hj; rw [List.getElem?_set_self hbl, hb]
        · rw [List.getElem?_set_ne (Ne.symm hj)])
    · obtain ⟨z, hz1, hz2⟩ := iv.seen _ (getG_mem e)
      have : z = (k1, y.1) := keyL_inj (by rw [hz2]; rfl)
      rw [← this]
      simpa using hz1
  | none =>
    rw [e] at hget
    have hsa : ∀ o, (S0.set b o)[a]? = some (.lst (st.map stP)) := fun o => by rw [List.getElem?_set_ne (Ne.symm hne)]; exact ha
    have est : stP (k1, y.1) = .tup [.int (k1 : Nat), iP y.1] := rfl
    refine ok_eq (a := .nx [l0, l1, some (.loc a), some (.loc b), l4, some (.int (k1 : Nat)), some (iP y.1), some (.int y.2)]) (s := (S0.set b (.dct false ((putG sn ((k1 : Int) :: y.1) ()).map snP))).set a (.lst ((st ++ [(k1, y.1)]).map stP))) (by simp [e0, hkey, hb, hko, hget, hput, hsl2, hsa, hz, est]) ?_
    refine ⟨_, _, _, [(k1, y.1)], putG sn ((k1 : Int) :: y.1) (), rfl, ?_, iv.add (x := (k1, y.1)) hy hk, Nat.le_refl _, ?_, by simp⟩
    · rw [List.set_comm _ _ hne]
    · intro x hx
      rw [List.mem_singleton] at hx
      rw [hx]
end K98
namespace K98
open Pa
def Sx (s : S) (st : List St) (sn : Sn) : S := s ++ [.lst (st.map stP), .dct false (sn.map snP)]
theorem sx_a {s : S} {st : List St} {sn : Sn} : (Sx s st sn)[s.length]? = some (.lst (st.map stP)) := by simp [Sx]
theorem sx_b {s : S} {st : List St} {sn : Sn} : (Sx s st sn)[s.length + 1]? = some (.dct false (sn.map snP)) := by simp [Sx]
theorem sx_set {s : S} {st st' : List St} {sn sn' : Sn} : ((Sx s st sn).set s.length (.lst (st'.map stP))).set (s.length + 1) (.dct false (sn'.map snP)) = Sx s st' sn' := by
  unfold Sx
  rw [List.set_append_right _ _ (Nat.le_refl _), List.set_append_right _ _ (by omega)]
  simp
theorem reach_for (n : Nat) (c : Cl) (turns : List Int) (s : S) (st : List St) (sn : Sn) (at_ : Nat) (k : Nat) (cs : List Int) (b5 b6 b7 : Option P)
    (iv : RInv c turns st sn) (hat : st[at_]? = some (k, cs)) (hl : turns.length ≤ 20) (h2 : c.ts.length ≤ 1000) (hz : st.length + 2 < SZ) :
    Ok (exA (envA pg (n + 3)) (.for (.tup (.cons (.v 5) (.cons (.v 6) (.cons (.v 7) .nil)))) (.ex (.call 4 (.cons (.v 0) (.cons (.v 1) (.cons (.ix (.ix (.v 2) (.v 4)) (.int 0)) (.cons (.ix (.ix (.v 2) (.v 4)) (.int 1)) .nil)))))) (.cons (.ife (.cmp .nin (.call 10 (.cons (.v 5) (.cons (.v 6) .nil))) (.v 3)) (.cons (.asgI (.v 3) (.call 10 (.cons (.v 5) (.cons (.v 6) .nil))) (.bl true)) (.cons (.ex (.m1 .append (.v 2) (.tup (.cons (.v 5) (.cons (.v 6) .nil))))) .nil)) .nil) .nil))
      [some (cP c), some (trP turns), some (.loc s.length), some (.loc (s.length + 1)), some (.int at_), b5, b6, b7] (Sx s st sn))
      fun fl s' => ∃ a5 a6 a7 more sn', fl = .nx [some (cP c), some (trP turns), some (.loc s.length), some (.loc (s.length + 1)), some (.int at_), a5, a6, a7] ∧ s' = Sx s (st ++ more) sn' ∧ RInv c turns (st ++ more) sn' ∧ more.length ≤ 2 ∧ (∀ x ∈ more, x.1 = k + 1 ∧ k < turns.length) ∧ ∀ y ∈ goes c turns (k, cs), (k + 1, y.1) ∈ st ++ more := by
  have hx := iv.r.good _ (List.mem_of_getElem? hat)
  dsimp only at hx
  have hgo := fun st' => s_go_ons n c turns cs k st' hx.1 h2
  have hgg := goOns_goes c turns (k, cs)
  dsimp only at hgg
  have hgl := goes_len c turns (k, cs)
  refine ok_for (s1 := Sx s st sn) (w := (goOns c turns k cs, fun _ => True)) (fun i l S => ∃ a5 a6 a7 more sn', l = [some (cP c), some (trP turns), some (.loc s.length), some (.loc (s.length + 1)), some (.int at_), a5, a6, a7] ∧ S = Sx s (st ++ more) sn' ∧ RInv c turns (st ++ more) sn' ∧ more.length ≤ i ∧ (∀ x ∈ more, x.1 = k + 1 ∧ k < turns.length) ∧ ∀ y ∈ (goes c turns (k, cs)).take i, (k + 1, y.1) ∈ st ++ more) ?_ ?_ ?_ ?_ ?_
  · have e1 : (st.map stP)[at_]? = some (stP (k, cs)) := by rw [List.getElem?_map, hat]; rfl
    have e2 : atI (st.map stP) (at_ : Int) = some (stP (k, cs)) := by rw [atI_nat, e1]
    simp [sx_a, e2, stP, hgo, stays]
  · exact ⟨b5, b6, b7, [], sn, rfl, by simp, by simpa using iv, by simp, by simp, by simp⟩
  · intros; trivial
  · rintro i x l S hx' ⟨a5, a6, a7, more, sn', rfl, rfl, q1, q2, q3, q4⟩
    rw [hgg] at hx'
    obtain ⟨y, hy, rfl⟩ := map_at hx'
    have hym := List.mem_of_getElem? hy
    have hk := goes_lt hym
    have hi : i < 2 := Nat.lt_of_lt_of_le (List.getElem?_eq_some_iff.mp hy).1 hgl
    have := reach_step (n + 2) c turns s.length (s.length + 1) [some (cP c), some (trP turns), some (.loc s.length), some (.loc (s.length + 1)), some (.int at_), a5, a6, a7] (Sx s (st ++ more) sn') (st ++ more) sn' k y _ _ _ _ _ _ rfl sx_a sx_b q1 (goes_good hx.1 y hym) hk h2 (by simp; omega)
    refine ok_imp this ?_
    rintro fl s' ⟨a5', a6', a7', more', sn'', rfl, rfl, r1, r2, r3, r4⟩
    refine ⟨a5', a6', a7', more ++ more', sn'', rfl, ?_, by rw [← List.append_assoc]; exact r1, by simp; omega, ?_, ?_⟩
    · rw [sx_set, List.append_assoc]
    · intro z hz'
      rcases List.mem_append.mp hz' with w | w
      · exact q3 z w
      · exact ⟨r3 z w, hk⟩
    · intro z hz'
      rw [List.take_succ, hy] at hz'
      rw [← List.append_assoc]
      rcases List.mem_append.mp hz' with w | w
      · exact List.mem_append_left _ (q4 z w)
      · have : z = y := by simpa using w
        rw [this]; exact r4
  · rintro l S ⟨a5, a6, a7, more, sn', rfl, rfl, q1, q2, q3, q4⟩
    dsimp only at q2 q4
    have e3 : (goOns c turns k cs).length = (goes c turns (k, cs)).length := by rw [hgg, List.length_map]
    rw [e3] at q2 q4
    rw [List.take_length] at q4
    exact ⟨a5, a6, a7, more, sn', rfl, rfl, q1, by omega, q3, q4⟩
theorem s_reached (n : Nat) (c : Cl) (turns : List Int) (s : S) (h1 : c.ts ≠ []) (h2 : c.ts.length ≤ 1000) (hl : turns.length ≤ 20) :
    Ok (callA pg (n + 4) 11 [cP c, trP turns] s) fun r s' => ∃ st, r = .loc s.length ∧ Grow s s' ∧ s'[s.length]? = some (.lst (st.map stP)) ∧ Rch c turns st ∧ Done c turns st st.length ∧ st.length ≤ 2097152 := by
  have hz0 : ∀ st, callA pg (n + 3) 0 [cP c] st = .ok (iP (zs c)) st := fun st => s_counts_of (n + 2) c st h1 h2
  have hk0 : ∀ st, callA pg (n + 3) 10 [.int 0, iP (zs c)] st = .ok (iP (0 :: zs c)) st := fun st => s_state_key (n + 2) 0 (zs c) st (by unfold zs; simpa using h2)
  have hko : keyOk false (iP (0 :: zs c)) [] = true := keyOk_kv _ []
  have hd : dput [] (iP (0 :: zs c)) (.bl true) = [(0 :: zs c, ())].map snP := rfl
  have hs0 : (0 : Nat) < SZ := by unfold SZ; omega
  have est : P.tup [.int 0, iP (zs c)] = stP (0, zs c) := rfl
  have hpw : 2 ^ (turns.length + 1) ≤ 2097152 := Nat.le_trans (Nat.pow_le_pow_right (by omega) (by omega : turns.length + 1 ≤ 21)) (by decide)
  rw [calA (b := d11) rfl]
  simp [runA, d11, b11, alloc, hz0, hk0, hko, hd, hs0, est]
  refine ok_gcn (ok_bind (ok_bind ?_))
  refine ok_whl (m := wts turns.length [(0, zs c)]) (fun m l S => ∃ st sn at_ a5 a6 a7, l = [some (cP c), some (trP turns), some (.loc s.length), some (.loc (s.length + 1)), some (.int (at_ : Nat)), a5, a6, a7] ∧ S = Sx s st sn ∧ RInv c turns st sn ∧ at_ ≤ st.length ∧ Done c turns st at_ ∧ at_ + wts turns.length (st.drop at_) + 1 ≤ 2 ^ (turns.length + 1) ∧ m = wts turns.length (st.drop at_)) ?_ ?_
  · refine ⟨[(0, zs c)], [(0 :: zs c, ())], 0, none, none, none, rfl, rfl, ⟨⟨fun x hx => ?_, by simp⟩, fun z hz => ?_, by simp⟩, by simp, fun x hx => (by simp at hx), ?_, by simp⟩
    · rw [List.mem_singleton] at hx; subst hx; exact ⟨by simp [zs], Nat.zero_le _⟩
    · rw [List.mem_singleton] at hz; subst hz; exact ⟨_, List.mem_cons_self .., rfl⟩
    · have : 1 ≤ 2 ^ (turns.length + 1) := Nat.pow_pos (by omega)
      simp [wts, wt]
      omega
  · rintro m l S ⟨st, sn, at_, a5, a6, a7, rfl, rfl, q1, q2, q3, q4, rfl⟩
    have hgd : ∀ x ∈ st.drop at_, x.1 ≤ turns.length := fun x hx => (q1.r.good x (List.mem_of_mem_drop hx)).2
    have hwl := wts_len hgd
    rw [List.length_drop] at hwl
    refine ok_eq (a := decide ((at_ : Int) < st.length)) (s := Sx s st sn) (by simp [sx_a]) ?_
    by_cases ha : at_ < st.length
    · have ha' : (at_ : Int) < st.length := by omega
      simp only [ha', decide_true, if_true]
      have hat : st[at_]? = some (st[at_].1, st[at_].2) := List.getElem?_eq_getElem ha
      rw [xs_cons]
      refine ok_bind (ok_imp (reach_for n c turns s st sn at_ _ _ a5 a6 a7 q1 hat hl h2 (by unfold SZ; omega)) ?_)
      rintro fl S' ⟨a5', a6', a7', more, sn', rfl, rfl, r1, r2, r3, r4⟩
      have hd1 : st.drop at_ = st[at_] :: st.drop (at_ + 1) := List.drop_eq_getElem_cons ha
      have hd2 : (st ++ more).drop (at_ + 1) = st.drop (at_ + 1) ++ more := List.drop_append_of_le_length (by omega)
      have hw1 : wts turns.length (st.drop at_) = wt turns.length st[at_].1 + wts turns.length (st.drop (at_ + 1)) := by rw [hd1]; rfl
      have hw2 : wts turns.length ((st ++ more).drop (at_ + 1)) = wts turns.length (st.drop (at_ + 1)) + wts turns.length more := by rw [hd2, wts_app]
      have hw3 : wts turns.length more + 1 ≤ wt turns.length st[at_].1 := by
        by_cases he : more = []
        · subst he
          have := wt_pos (T := turns.length) (q1.r.good _ (List.getElem_mem ha)).2
          simpa [wts] using this
        · obtain ⟨x, hx⟩ := List.exists_mem_of_ne_nil _ he
          have h3 := (r3 x hx).2
          rw [wts_new fun x hx => (r3 x hx).1, ← wt_half h3]
          have := Nat.mul_le_mul_right (wt turns.length (st[at_].1 + 1)) r2
          omega
      refine ok_eq (a := .nx [some (cP c), some (trP turns), some (.loc s.length), some (.loc (s.length + 1)), some (.int ((at_ + 1 : Nat) : Int)), a5', a6', a7']) (s := Sx s (st ++ more) sn') (by simp) ?_
      refine ⟨_, ?_, st ++ more, sn', at_ + 1, a5', a6', a7', rfl, rfl, r1, by simp; omega, ?_, ?_, rfl⟩
      · omega
      · intro x hx y hy
        rw [List.take_append_of_le_length (by omega), List.take_succ, List.getElem?_eq_getElem ha] at hx
        rcases List.mem_append.mp hx with w | w
        · exact List.mem_append_left _ (q3 x w y hy)
        · have : x = st[at_] := by simpa using w
          subst this
          exact r4 y hy
      · omega
    · have ha' : ¬ (at_ : Int) < st.length := by omega
      have e : at_ = st.length := by omega
      subst e
      simp only [ha', decide_false]
      simp
      rw [List.drop_length] at q4
      refine ⟨by simp [bnd], Grow.add, st, sx_a, q1.r, q3, by omega⟩
end K98
namespace K98
open Pa
theorem getI_eq : ∀ (d : KV) (k : List Int), getI d k = getG d k
  | [], _ => rfl
  | (a, b) :: r, k => by unfold getI getG; rw [getI_eq r k]
theorem putI_eq : ∀ (d : KV) (k : List Int) (v : Int), putI d k v = putG d k v
  | [], _, _ => rfl
  | (a, b) :: r, k, v => by unfold putI putG; rw [putI_eq r k v]
theorem getI_put (d : KV) (k x : List Int) (v : Int) : getI (putI d k v) x = if k = x then some v else getI d x := by
  rw [getI_eq, putI_eq, getG_put, getI_eq]
theorem putI_same_len {d : KV} {k : List Int} {v : Int} (h : (getI d k).isSome = true) : (putI d k v).length = d.length := by
  induction d with
  | nil => cases h
  | cons a r ih =>
    obtain ⟨a, b⟩ := a
    unfold getI at h
    unfold putI
    split
    · rfl
    · rename_i e
      rw [if_neg e] at h
      simp [ih h]
def Has (tab : KV) (x : St) : Prop := (getI tab (keyL x)).isSome = true
theorem has_put {tab : KV} {x : St} {k : List Int} {v : Int} (h : Has tab x) : Has (putI tab k v) x := by
  unfold Has at *
  rw [getI_put]
  split
  · rfl
  · exact h
def look (tab : KV) (x : St) : Int := (getI tab (keyL x)).getD 0
theorem Has.get {tab : KV} {x : St} (h : Has tab x) : getI tab (keyL x) = some (look tab x) := by
  unfold Has at h
  unfold look
  cases e : getI tab (keyL x) with
  | none => rw [e] at h; cases h
  | some v => rfl
theorem look_put (tab : KV) (x y : St) (v : Int) : look (putI tab (keyL x) v) y = if x = y then v else look tab y := by
  unfold look
  rw [getI_put]
  by_cases h : x = y
  · subst h; rw [if_pos rfl, if_pos rfl]; rfl
  · rw [if_neg h, if_neg fun z => h (keyL_inj z)]
def low (c : Cl) (turns : List Int) (tab : KV) (x : St) : Int := ((goes c turns x).map fun y => y.2 + look tab (x.1 + 1, y.1)).foldl min 0
theorem u_min (p : P) (s : S) : b1P .min p s = ofO ((((lstOf s p).bind intsOf).bind minI).map .int) s := rfl
theorem s_lowered (n : Nat) (c : Cl) (turns : List Int) (tb : Nat) (tab : KV) (x : St) (s : S) (ht : s[tb]? = some (.dct false (tab.map kvP))) (hx : x.2.length = c.ts.length) (h2 : c.ts.length ≤ 999) (hg : ∀ y ∈ goes c turns x, Has tab (x.1 + 1, y.1)) :
    callA pg (n + 4) 12 [cP c, trP turns, .loc tb, stP x] s = .ok (.int (low c turns tab x)) s := by
  obtain ⟨k, cs⟩ := x
  dsimp only at hx hg
  have key : Ok (callA pg (n + 4) 12 [cP c, trP turns, .loc tb, stP (k, cs)] s) fun r s' => r = .int (low c turns tab (k, cs)) ∧ s' = s := by
    have hgo := fun st' => s_go_ons n c turns cs k st' hx (by omega)
    have hgg := goOns_goes c turns (k, cs)
    dsimp only at hgg
    have htl := (List.getElem?_eq_some_iff.mp ht).1
    rw [calA (b := d12) rfl]
    simp [runA, d12, b12, alloc]
    refine ok_gc (ok_bind (ok_bind ?_))
    refine ok_for (s1 := s ++ [.lst [.int 0]]) (w := (goOns c turns k cs, fun _ => True)) (fun i l S => ∃ a5 a6 a7, l = [some (cP c), some (trP turns), some (.loc tb), some (stP (k, cs)), some (.loc s.length), a5, a6, a7] ∧ S = s ++ [.lst ((0 :: ((goes c turns (k, cs)).take i).map fun y => y.2 + look tab (k + 1, y.1)).map P.int)]) ?_ ?_ ?_ ?_ ?_
    · simp [stP, hgo, stays]
    · exact ⟨none, none, none, rfl, by simp⟩
    · intros; trivial
    · rintro i z l S hz ⟨a5, a6, a7, rfl, rfl⟩
      rw [hgg] at hz
      obtain ⟨y, hy, rfl⟩ := map_at hz
      have hym := List.mem_of_getElem? hy
      have hi : i < 2 := Nat.lt_of_lt_of_le (List.getElem?_eq_some_iff.mp hy).1 (goes_len c turns (k, cs))
      have hyl := goes_good hx y hym
      obtain ⟨k1, hk1⟩ : ∃ k1, k1 = k + 1 := ⟨_, rfl⟩
      have hh := (hg y hym).get
      rw [← hk1] at hh
      have hkey := fun st' => s_state_key (n + 2) k1 y.1 st' (by omega)
      have e0 : goP k y = .tup [.int (k1 : Nat), iP y.1, .int y.2] := by rw [hk1]; rfl
      have hko : keyOk false (iP ((k1 : Int) :: y.1)) (tab.map kvP) = true := keyOk_kv _ tab
      have hget : dget (tab.map kvP) (iP ((k1 : Int) :: y.1)) = some (.int (look tab (k1, y.1))) := by rw [dget_kv]; exact congrArg (Option.map P.int) hh
      have hmin : min i (goes c turns (k, cs)).length + 1 < SZ := by unfold SZ; omega
      have hat := fun t : S => (Grow.add (s := s) (t := t)).at ht
      have et : (goes c turns (k, cs)).take (i + 1) = (goes c turns (k, cs)).take i ++ [y] := by rw [List.take_succ, hy]; rfl
      simp only [et, ← hk1]
      refine ok_eq (a := .nx [some (cP c), some (trP turns), some (.loc tb), some (stP (k, cs)), some (.loc s.length), some (.int (k1 : Nat)), some (iP y.1), some (.int y.2)]) (s := s ++ [.lst ((0 :: ((goes c turns (k, cs)).take i ++ [y]).map fun y => y.2 + look tab (k1, y.1)).map P.int)]) ?_ ?_
      · simp [e0, hkey, hat, hko, hget, hmin]
      · exact ⟨_, _, _, rfl, rfl⟩
    · rintro l S ⟨a5, a6, a7, rfl, rfl⟩
      dsimp only
      have e3 : (goOns c turns k cs).length = (goes c turns (k, cs)).length := by rw [hgg, List.length_map]
      rw [e3, List.take_length]
      have e4 := intsOf_map (0 :: (goes c turns (k, cs)).map fun y => y.2 + look tab (k + 1, y.1))
      simp only [List.map_cons] at e4
      have e5 : minI (0 :: (goes c turns (k, cs)).map fun y => y.2 + look tab (k + 1, y.1)) = some (low c turns tab (k, cs)) := rfl
      refine ok_eq (a := Fl.ret (.int (low c turns tab (k, cs)))) (s := s ++ [.lst ((0 :: (goes c turns (k, cs)).map fun y => y.2 + look tab (k + 1, y.1)).map P.int)]) ?_ ?_
      · simp only [List.map_cons]
        simp only [List.getElem?_cons_succ, List.getElem?_cons_zero, bind_ok, u_min, u_lst, at_new, Option.bind_some, e4, e5, Option.map_some, ofO_some]
      · simp [bnd, Grow.add]
  obtain ⟨r, s', e, rfl, rfl⟩ := key
  exact e
/-- what lower_all wants of a table -/
def Ready (c : Cl) (turns : List Int) (tab : KV) (rows : List St) : Prop := ∀ x ∈ rows, x.2.length = c.ts.length ∧ Has tab x ∧ ∀ y ∈ goes c turns x, Has tab (x.1 + 1, y.1)
theorem Ready.put {c : Cl} {turns : List Int} {tab : KV} {rows : List St} (h : Ready c turns tab rows) (k : List Int) (v : Int) : Ready c turns (putI tab k v) rows := fun x hx =>
  ⟨(h x hx).1, has_put (h x hx).2.1, fun y hy => has_put ((h x hx).2.2 y hy)⟩
def lowStep (c : Cl) (turns : List Int) (z : Bool × KV) (x : St) : Bool × KV := (z.1 || decide (low c turns z.2 x < look z.2 x), putI z.2 (keyL x) (low c turns z.2 x))
def lowAll (c : Cl) (turns : List Int) (rows : List St) (tab : KV) : Bool × KV := rows.reverse.foldl (lowStep c turns) (false, tab)
theorem lowStep_ready {c : Cl} {turns : List Int} {rows : List St} : ∀ (l : List St) (z : Bool × KV), (∀ x ∈ l, x ∈ rows) → Ready c turns z.2 rows → Ready c turns (l.foldl (lowStep c turns) z).2 rows ∧ (l.foldl (lowStep c turns) z).2.length = z.2.length
  | [], z, _, h => ⟨h, rfl⟩
  | x :: l, z, hm, h => by
    rw [List.foldl_cons]
    have hx := h x (hm x (List.mem_cons_self ..))
    obtain ⟨h1, h2⟩ := lowStep_ready l (lowStep c turns z x) (fun y hy => hm y (List.mem_cons_of_mem _ hy)) (h.put _ _)
    exact ⟨h1, h2.trans (putI_same_len hx.2.1)⟩
theorem s_lower_all (n : Nat) (c : Cl) (turns : List Int) (tb rl : Nat) (tab : KV) (rows : List St) (s : S) (ht : s[tb]? = some (.dct false (tab.map kvP))) (hr : s[rl]? = some (.lst (rows.map stP))) (h2 : c.ts.length ≤ 999) (hR : Ready c turns tab rows) (hz : tab.length < SZ) :
    callA pg (n + 5) 13 [cP c, trP turns, .loc tb, .loc rl] s = .ok (.bl (lowAll c turns rows tab).1) (s.set tb (.dct false ((lowAll c turns rows tab).2.map kvP))) := by
  have htl := (List.getElem?_eq_some_iff.mp ht).1
  have hne : tb ≠ rl := fun z => by subst z; rw [ht] at hr; cases hr
  have key : Ok (callA pg (n + 5) 13 [cP c, trP turns, .loc tb, .loc rl] s) fun r s' => r = .bl (lowAll c turns rows tab).1 ∧ s' = s.set tb (.dct false ((lowAll c turns rows tab).2.map kvP)) := by
    have hself : ∀ o : O, (s.set tb o)[tb]? = some o := fun o => List.getElem?_set_self htl
    rw [calA (b := d13) rfl]
    simp [runA, d13, b13]
    refine ok_gcl (ok_bind (ok_bind ?_))
    refine ok_for (s1 := s) (w := (rows.reverse.map stP, stays (.loc rl) s)) (fun i l S => ∃ a5 a6 a7, l = [some (cP c), some (trP turns), some (.loc tb), some (.loc rl), some (.bl ((rows.reverse.take i).foldl (lowStep c turns) (false, tab)).1), a5, a6, a7] ∧ S = s.set tb (.dct false (((rows.reverse.take i).foldl (lowStep c turns) (false, tab)).2.map kvP))) ?_ ?_ ?_ ?_ ?_
    · simp [hr]
    · refine ⟨none, none, none, rfl, ?_⟩
      exact (List.ext_getElem? fun j => by
        by_cases hj : j = tb
        · subst hj; rw [hself, ht]; rfl
        · rw [List.getElem?_set_ne (Ne.symm hj)])
    · rintro i l S _ ⟨a5, a6, a7, rfl, rfl⟩
      show _ = _
      rw [List.getElem?_set_ne hne]
    · rintro i z l S hz' ⟨a5, a6, a7, rfl, rfl⟩
      obtain ⟨x, hx, rfl⟩ := map_at hz'
      have hxm : x ∈ rows := List.mem_reverse.mp (List.mem_of_getElem? hx)
      obtain ⟨q1, q2⟩ := lowStep_ready (c := c) (turns := turns) (rows := rows) (rows.reverse.take i) (false, tab) (fun y hy => List.mem_reverse.mp (List.mem_of_mem_take hy)) hR
      have et : (rows.reverse.take (i + 1)).foldl (lowStep c turns) (false, tab) = lowStep c turns ((rows.reverse.take i).foldl (lowStep c turns) (false, tab)) x := by
        rw [List.take_succ, hx, List.foldl_append]; rfl
      rw [et]
      generalize (rows.reverse.take i).foldl (lowStep c turns) (false, tab) = Z at q1 q2 ⊢
      obtain ⟨ch, T⟩ := Z
      dsimp only at q1 q2 ⊢
      obtain ⟨r1, r2, r3⟩ := q1 x hxm
      obtain ⟨k, cs⟩ := x
      have hlow : ∀ st' : S, st'[tb]? = some (.dct false (T.map kvP)) → callA pg (n + 4) 12 [cP c, trP turns, .loc tb, .tup [.int (k : Nat), iP cs]] st' = .ok (.int (low c turns T (k, cs))) st' := fun st' h => s_lowered n c turns tb T (k, cs) st' h r1 h2 r3
      have hkey := fun st' => s_state_key (n + 3) k cs st' (by dsimp only at r1; omega)
      have hko : keyOk false (iP ((k : Int) :: cs)) (T.map kvP) = true := keyOk_kv _ T
      have hget : dget (T.map kvP) (iP ((k : Int) :: cs)) = some (.int (look T (k, cs))) := by rw [dget_kv]; exact congrArg (Option.map P.int) r2.get
      have hput : ∀ v, dput (T.map kvP) (iP ((k : Int) :: cs)) (.int v) = (putI T (keyL (k, cs)) v).map kvP := fun v => dput_kv _ _ T
      have hlen : T.length < SZ := by omega
      refine ok_eq (a := .nx [some (cP c), some (trP turns), some (.loc tb), some (.loc rl), some (.bl (ch || decide (low c turns T (k, cs) < look T (k, cs)))), some (.int (k : Nat)), some (iP cs), some (.int (low c turns T (k, cs)))]) (s := s.set tb (.dct false ((putI T (keyL (k, cs)) (low c turns T (k, cs))).map kvP))) ?_ ?_
      · cases ch with
        | true => simp [stP, hlow _ (hself _), hkey, hself, hko, hput, hlen]
        | false => simp [stP, hlow _ (hself _), hkey, hself, hko, hget, hput, hlen]
      · exact ⟨_, _, _, rfl, rfl⟩
    · rintro l S ⟨a5, a6, a7, rfl, rfl⟩
      dsimp only
      rw [List.length_map, List.take_length]
      refine ok_eq (a := Fl.ret (.bl (lowAll c turns rows tab).1)) (s := s.set tb (.dct false ((lowAll c turns rows tab).2.map kvP))) ?_ ?_
      · unfold lowAll
        simp
      · simp
  obtain ⟨r, s', e, rfl, rfl⟩ := key
  exact e
def settle (c : Cl) (turns : List Int) (rows : List St) : Nat → KV → Bool × KV
  | 0, tab => (false, tab)
  | n + 1, tab => if (lowAll c turns rows tab).1 = true then settle c turns rows n (lowAll c turns rows tab).2 else (true, (lowAll c turns rows tab).2)
theorem lowAll_ready {c : Cl} {turns : List Int} {rows : List St} {tab : KV} (h : Ready c turns tab rows) : Ready c turns (lowAll c turns rows tab).2 rows ∧ (lowAll c turns rows tab).2.length = tab.length :=
  lowStep_ready rows.reverse (false, tab) (fun x hx => List.mem_reverse.mp hx) h
theorem s_settled (n : Nat) (c : Cl) (turns : List Int) (tb rl : Nat) (tab : KV) (rows : List St) (s : S) (ht : s[tb]? = some (.dct false (tab.map kvP))) (hr : s[rl]? = some (.lst (rows.map stP))) (h2 : c.ts.length ≤ 999) (hR : Ready c turns tab rows) (hz : tab.length < SZ) :
    callA pg (n + 6) 15 [cP c, trP turns, .loc tb, .loc rl] s = .ok (.bl (settle c turns rows 3 tab).1) (s.set tb (.dct false ((settle c turns rows 3 tab).2.map kvP))) := by
  have htl := (List.getElem?_eq_some_iff.mp ht).1
  have hne : tb ≠ rl := fun z => by subst z; rw [ht] at hr; cases hr
  have hself : ∀ o : O, (s.set tb o)[tb]? = some o := fun o => List.getElem?_set_self htl
  have key : Ok (callA pg (n + 6) 15 [cP c, trP turns, .loc tb, .loc rl] s) fun r s' => r = .bl (settle c turns rows 3 tab).1 ∧ s' = s.set tb (.dct false ((settle c turns rows 3 tab).2.map kvP)) := by
    rw [calA (b := d15) rfl]
    simp [runA, d15, b15]
    refine ok_gcl (ok_bind (ok_bind ?_))
    refine ok_for (s1 := s) (w := ((List.range 3).map (fun i : Nat => P.int i), fun _ => True)) (fun i l S => ∃ a4 T, l = [some (cP c), some (trP turns), some (.loc tb), some (.loc rl), a4] ∧ S = s.set tb (.dct false (T.map kvP)) ∧ Ready c turns T rows ∧ T.length < SZ ∧ settle c turns rows (3 - i) T = settle c turns rows 3 tab) ?_ ?_ ?_ ?_ ?_
    · exact ei_rngN (by simp) (by decide)
    · refine ⟨none, tab, rfl, ?_, hR, hz, rfl⟩
      exact (List.ext_getElem? fun j => by
        by_cases hj : j = tb
        · subst hj; rw [hself, ht]
        · rw [List.getElem?_set_ne (Ne.symm hj)])
    · intros; trivial
    · rintro i z l S hz' ⟨a4, T, rfl, rfl, q1, q2, q3⟩
      obtain ⟨j, hj, rfl⟩ := map_at hz'
      have hi : i < 3 := by simpa using (List.getElem?_eq_some_iff.mp hj).1
      have hcall := s_lower_all n c turns tb rl T rows (s.set tb (.dct false (T.map kvP))) (hself _) (by rw [List.getElem?_set_ne hne]; exact hr) h2 q1 q2
      rw [List.set_set] at hcall
      obtain ⟨r1, r2⟩ := lowAll_ready q1
      have e3 : 3 - i = (3 - (i + 1)) + 1 := by omega
      rw [e3, settle] at q3
      cases hb : (lowAll c turns rows T).1 with
      | true =>
        rw [hb] at hcall
        rw [if_pos hb] at q3
        refine ok_eq (a := .nx [some (cP c), some (trP turns), some (.loc tb), some (.loc rl), some (.int j)]) (s := s.set tb (.dct false ((lowAll c turns rows T).2.map kvP))) (by simp [hcall]) ?_
        exact ⟨_, _, rfl, rfl, r1, by omega, q3⟩
      | false =>
        rw [hb] at hcall
        rw [if_neg (by rw [hb]; simp)] at q3
        refine ok_eq (a := .ret (.bl true)) (s := s.set tb (.dct false ((lowAll c turns rows T).2.map kvP))) (by simp [hcall]) ?_
        simp [← q3]
    · rintro l S ⟨a4, T, rfl, rfl, q1, q2, q3⟩
      have q4 : (false, T) = settle c turns rows 3 tab := q3
      rw [← q4]
      simp
  obtain ⟨r, s', e, rfl, rfl⟩ := key
  exact e
end K98
namespace K98
open Pa
open PySem (PyData)
def ilP (z : Int × List Int) : P := .tup [.int z.1, iP z.2]
theorem pds_ints : ∀ l : List Int, pds (l.map P.int) = l.map PyData.int
  | [] => rfl
  | a :: l => by show pd (P.int a) :: pds (l.map P.int) = _; rw [pds_ints l]; rfl
theorem pd_il (z : Int × List Int) : pd (ilP z) = .tuple [.int z.1, .tuple (z.2.map PyData.int)] := by
  show PyData.tuple [.int z.1, .tuple (pds (z.2.map P.int))] = _
  rw [pds_ints]
theorem pure_il (z : Int × List Int) : pure? (ilP z) = true := by
  show (true && (pures? (z.2.map P.int) && true)) = true
  rw [pures_map fun a => rfl]
  rfl
theorem alike_il (z y : Int × List Int) : PySem.W.alike (pd (ilP z)) (pd (ilP y)) = true := by
  rw [pd_il, pd_il]
  simp [PySem.W.alike, PySem.W.alikeAll, PySem.W.alike_ints]
theorem sort_il (d : List (Int × List Int)) : ∃ L : List (Int × List Int), sortP (d.map ilP) = some (L.map ilP) ∧ L.Perm d ∧ L.Pairwise fun a b => a.1 ≤ b.1 := by
  have hs : ∃ ys, sortP (d.map ilP) = some ys := by
    unfold sortP
    rw [if_pos]
    · exact ⟨_, rfl⟩
    · refine ⟨pures_map pure_il d, ?_, .inl ?_, ?_⟩
      · rw [List.map_map]
        exact PySem.W.AllAlike.of fun a b => alike_il a b
      · rw [List.map_map]
        exact PySem.W.Sortable.tuples fun a => ⟨_, _, pd_il a⟩
      · intro x hx
        obtain ⟨a, _, rfl⟩ := List.mem_map.mp hx
        rw [pd_il]
        simp [PyData.depth, PyData.depthAll, PySem.W.depth_ints]
  obtain ⟨ys, hy⟩ := hs
  obtain ⟨h1, h2⟩ := sortP_perm hy
  obtain ⟨L, p1, rfl⟩ := perm_map_inv h1 d rfl
  refine ⟨L, hy, p1, ?_⟩
  rw [List.pairwise_map] at h2
  refine h2.imp fun {a b} hab => ?_
  rw [pd_il, pd_il, PySem.W.dataLt_tuple, PySem.W.dataLt_cons (by simp [PySem.W.alike])] at hab
  by_cases hlt : b.1 < a.1
  · have e : PyData.eqv (.int b.1) (.int a.1) = false := by
      simp [PyData.eqv]
      omega
    rw [e, if_neg (by simp), PySem.W.dataLt_int] at hab
    simp at hab
    omega
  · omega
def stI (x : St) : Int × List Int := ((x.1 : Int), x.2)
theorem stP_il (x : St) : stP x = ilP (stI x) := rfl
theorem sort_st (st : List St) : ∃ L : List St, sortP (st.map stP) = some (L.map stP) ∧ L.Perm st ∧ L.Pairwise fun a b => a.1 ≤ b.1 := by
  obtain ⟨M, h1, h2, h3⟩ := sort_il (st.map stI)
  obtain ⟨L, p1, rfl⟩ := perm_map_inv h2 st rfl
  rw [List.map_map, List.map_map] at h1
  refine ⟨L, h1, p1, ?_⟩
  rw [List.pairwise_map] at h3
  exact h3.imp fun {a b} h => by
    unfold stI at h
    dsimp only at h
    omega
abbrev Fd := List (List Int × Nat)
def fdP (z : List Int × Nat) : P × P := (iP z.1, P.loc z.2)
theorem putG_new {κ α : Type} [DecidableEq κ] {d : List (κ × α)} {k : κ} {v : α} (h : getG d k = none) : putG d k v = d ++ [(k, v)] := by
  induction d with
  | nil => rfl
  | cons a r ih =>
    obtain ⟨a, b⟩ := a
    unfold getG at h
    split at h
    · cases h
    · rename_i e
      unfold putG
      rw [if_neg e, ih h]
      rfl
def grp (L : List St) (cs : List Int) : List St := L.filter fun x => decide (x.2 = cs)
structure Grp (s0 : Nat) (fd : Fd) (L : List St) (S : S) : Prop where
  at_ : ∀ z ∈ fd, s0 + 2 ≤ z.2 ∧ S[z.2]? = some (.lst ((grp L z.1).map stP))
  keys : (fd.map (·.1)).Nodup
  locs : (fd.map (·.2)).Nodup
  all : ∀ x ∈ L, ∃ z ∈ fd, z.1 = x.2
theorem grp_snoc (L : List St) (x : St) (cs : List Int) : grp (L ++ [x]) cs = grp L cs ++ if x.2 = cs then [x] else [] := by
  unfold grp
  rw [List.filter_append]
  congr 1
  by_cases h : x.2 = cs <;> simp [h]
theorem u_sorted (p : P) (s : S) : b1P .sorted p s = match (lstOf s p).bind sortP with
    | some xs => alloc (.lst xs) s
    | none => .bad := rfl
theorem nodup_inj {α β : Type} {f : α → β} {l : List α} (h : (l.map f).Nodup) {a b : α} (ha : a ∈ l) (hb : b ∈ l) (e : f a = f b) : a = b := by
  induction l with
  | nil => cases ha
  | cons x l ih =>
    rw [List.map_cons, List.nodup_cons] at h
    rcases List.mem_cons.mp ha with rfl | ha'
    · rcases List.mem_cons.mp hb with rfl | hb'
      · rfl
      · exact absurd (List.mem_map.mpr ⟨b, hb', e.symm⟩) h.1
    · rcases List.mem_cons.mp hb with rfl | hb'
      · exact absurd (List.mem_map.mpr ⟨a, ha', e⟩) h.1
      · exact ih h.2 ha' hb'
theorem grp_step (n : Nat) (s : S) (L : List St) (P0 : List St) (x : St) (fd : Fd) (S : S) (sl : Nat) (a3 a4 : Option P) (hg : Grow s S) (hd : S[s.length]? = some (.dct false (fd.map fdP))) (hL : S[s.length + 1]? = some (.lst (L.map stP))) (G : Grp s.length fd P0 S) (hz : P0.length < SZ) (hf : fd.length < SZ) :
    Ok ((ofO (bindT (.tup (.cons (.v 3) (.cons (.v 4) .nil))) (stP x) [some (.loc sl), some (.loc s.length), none, a3, a4, none]) S).bind fun l s => exsA (envA pg n) (.cons (.ex (.m1 .append (.m2 .setdefault (.v 1) (.v 4) (.lst .nil)) (.tup (.cons (.v 3) (.cons (.v 4) .nil))))) .nil) l s)
      fun fl S' => ∃ fd' a3 a4, fl = .nx [some (.loc sl), some (.loc s.length), none, a3, a4, none] ∧ Grow s S' ∧ S'[s.length]? = some (.dct false (fd'.map fdP)) ∧ S'[s.length + 1]? = some (.lst (L.map stP)) ∧ Grp s.length fd' (P0 ++ [x]) S' ∧ fd'.length ≤ fd.length + 1 := by
  obtain ⟨k, cs⟩ := x
  have hdl := (List.getElem?_eq_some_iff.mp hd).1
  have hLl := (List.getElem?_eq_some_iff.mp hL).1
  have ek : tupK (iP cs) = true := tupK_iP cs
  have eall : ((fd.map fdP).all fun kv => tupK kv.1) = true := by
    rw [List.all_eq_true]
    intro y hy
    obtain ⟨z, _, rfl⟩ := List.mem_map.mp hy
    exact tupK_iP _
  have hget : dget (fd.map fdP) (iP cs) = (getG fd cs).map P.loc := dget_g (v := P.loc) iP_inj2 cs fd
  have hput : ∀ v, dput (fd.map fdP) (iP cs) (.loc v) = (putG fd cs v).map fdP := fun v => dput_g (v := P.loc) iP_inj2 cs v fd
  have hd1 : (S ++ [O.lst []])[s.length]? = some (.dct false (fd.map fdP)) := by rw [List.getElem?_append_left hdl]; exact hd
  have hfl : (fd.map fdP).length < SZ := by simpa using hf
  cases e : getG fd cs with
  | some a =>
    rw [e] at hget
    obtain ⟨g1, g2⟩ := G.at_ _ (getG_mem e)
    dsimp only at g1 g2
    have hal := (List.getElem?_eq_some_iff.mp g2).1
    have g3 : (S ++ [O.lst []])[a]? = some (.lst ((grp P0 cs).map stP)) := by rw [List.getElem?_append_left hal]; exact g2
    have gl : ((grp P0 cs).map stP).length < SZ := by
      rw [List.length_map]
      exact Nat.lt_of_le_of_lt (List.length_filter_le _ _) hz
    refine ok_eq (a := Fl.nx [some (.loc sl), some (.loc s.length), none, some (.int (k : Nat)), some (iP cs), none]) (s := (S ++ [O.lst []]).set a (.lst ((grp P0 cs).map stP ++ [stP (k, cs)]))) ?_ ?_
    · have hsd : m2P .setdefault (.loc s.length) (iP cs) (.loc S.length) (S ++ [O.lst []]) = .ok (.loc a) (S ++ [O.lst []]) := by
        unfold m2P
        simp only [hd1]
        rw [if_pos ⟨ek, eall, hfl⟩, hget]
        rfl
      simp at gl
      simp [-u_setd, stP, alloc, hd, hsd, g3, gl]
    · have hset : ∀ j, j ≠ a → ((S ++ [O.lst []]).set a (.lst ((grp P0 cs).map stP ++ [stP (k, cs)])))[j]? = (S ++ [O.lst []])[j]? := fun j hj => List.getElem?_set_ne (Ne.symm hj)
      refine ⟨fd, _, _, rfl, (hg.trans Grow.add).set (by omega), ?_, ?_, ⟨?_, G.keys, G.locs, ?_⟩, by omega⟩
      · rw [hset _ (by omega)]; exact hd1
      · rw [hset _ (by omega), List.getElem?_append_left hLl]; exact hL
      · intro z hz'
        obtain ⟨q1, q2⟩ := G.at_ z hz'
        refine ⟨q1, ?_⟩
        rw [grp_snoc]
        by_cases hc : cs = z.1
        · have : z = (cs, a) := nodup_inj G.keys hz' (getG_mem e) hc.symm
          subst this
          dsimp only
          rw [List.getElem?_set_self (by rw [List.length_append]; omega)]
          simp
        · have hne : z.2 ≠ a := fun w => hc (by
            have : z = (cs, a) := nodup_inj G.locs hz' (getG_mem e) w
            rw [this])
          rw [hset _ hne, List.getElem?_append_left (List.getElem?_eq_some_iff.mp q2).1, q2]
          simp [hc]
      · intro y hy
        rcases List.mem_append.mp hy with w | w
        · exact G.all y w
        · rw [List.mem_singleton] at w
          subst w
          exact ⟨_, getG_mem e, rfl⟩
  | none =>
    rw [e] at hget
    have hp := putG_new (v := S.length) e
    have hn0 : ((S ++ [O.lst []]).set s.length (.dct false ((putG fd cs S.length).map fdP)))[S.length]? = some (.lst []) := by
      rw [List.getElem?_set_ne (by omega)]; simp
    have hs0 : (0 : Nat) < SZ := by unfold SZ; omega
    refine ok_eq (a := Fl.nx [some (.loc sl), some (.loc s.length), none, some (.int (k : Nat)), some (iP cs), none]) (s := ((S ++ [O.lst []]).set s.length (.dct false ((putG fd cs S.length).map fdP))).set S.length (.lst [stP (k, cs)])) ?_ ?_
    · have hsd : m2P .setdefault (.loc s.length) (iP cs) (.loc S.length) (S ++ [O.lst []]) = .ok (.loc S.length) ((S ++ [O.lst []]).set s.length (.dct false ((putG fd cs S.length).map fdP))) := by
        unfold m2P
        simp only [hd1]
        rw [if_pos ⟨ek, eall, hfl⟩, hget, hput]
        rfl
      generalize (S ++ [O.lst []]).set s.length (.dct false ((putG fd cs S.length).map fdP)) = S2 at hsd hn0 ⊢
      simp [-u_setd, stP, alloc, hd, hsd, hn0, hs0]
    · have hfresh : ∀ z ∈ fd, z.2 ≠ S.length := fun z hz' w => by
        have := (List.getElem?_eq_some_iff.mp (G.at_ z hz').2).1
        omega
      refine ⟨putG fd cs S.length, _, _, rfl, ((hg.trans Grow.add).set (Nat.le_refl _)).set hg.len, ?_, ?_, ⟨?_, putG_nd G.keys, ?_, ?_⟩, putG_len _ _ _⟩
      · rw [List.getElem?_set_ne (by omega), List.getElem?_set_self (by rw [List.length_append]; omega)]
      · rw [List.getElem?_set_ne (by omega), List.getElem?_set_ne (by omega), List.getElem?_append_left hLl]; exact hL
      · rw [hp]
        intro z hz'
        rw [grp_snoc]
        rcases List.mem_append.mp hz' with w | w
        · obtain ⟨q1, q2⟩ := G.at_ z w
          refine ⟨q1, ?_⟩
          have hne := hfresh z w
          have hc : ¬ cs = z.1 := fun q => getG_none e z.2 (by rw [q]; exact w)
          rw [List.getElem?_set_ne (Ne.symm hne), List.getElem?_set_ne (by omega), List.getElem?_append_left (List.getElem?_eq_some_iff.mp q2).1, q2]
          simp [hc]
        · rw [List.mem_singleton] at w
          subst w
          dsimp only
          refine ⟨by omega, ?_⟩
          rw [List.getElem?_set_self (by rw [List.length_set, List.length_append]; simp)]
          have : grp P0 cs = [] := by
            unfold grp
            rw [List.filter_eq_nil_iff]
            intro y hy
            obtain ⟨z, hz1, hz2⟩ := G.all y hy
            simp
            intro q
            exact getG_none e z.2 (by rw [← q, ← hz2]; exact hz1)
          rw [this]
          simp
      · rw [hp, List.map_append, List.nodup_append]
        refine ⟨G.locs, by simp, ?_⟩
        intro p hp' q hq
        obtain ⟨z, hz1, rfl⟩ := List.mem_map.mp hp'
        have : q = S.length := by simpa using hq
        rw [this]
        exact hfresh z hz1
      · intro y hy
        rw [hp]
        rcases List.mem_append.mp hy with w | w
        · obtain ⟨z, h1, h2⟩ := G.all y w
          exact ⟨z, List.mem_append_left _ h1, h2⟩
        · rw [List.mem_singleton] at w
          subst w
          exact ⟨(cs, S.length), by simp, rfl⟩
end K98
namespace K98
open Pa
/-- the groups of states -/
structure Grps (s0 : Nat) (st : List St) (L : List St) (gs : List (List Int × Nat)) (S : S) : Prop where
  perm : L.Perm st
  asc : L.Pairwise fun a b => a.1 ≤ b.1
  desc : gs.Pairwise fun a b => b.1.sum ≤ a.1.sum
  at_ : ∀ z ∈ gs, s0 ≤ z.2 ∧ S[z.2]? = some (.lst ((grp L z.1).map stP))
  all : ∀ x ∈ st, ∃ z ∈ gs, z.1 = x.2
theorem sum_iP (l : List Int) (s : S) : b1P .sum (iP l) s = .ok (.int l.sum) s := by
  have := intsOf_map l
  rw [u_sum]
  show ofO (((some (l.map P.int)).bind intsOf).map fun l => P.int l.sum) s = _
  rw [Option.bind_some, this]
  rfl
theorem s_by_counts (n : Nat) (st : List St) (sl : Nat) (s : S) (hs : s[sl]? = some (.lst (st.map stP))) (hz : st.length < SZ) :
    Ok (callA pg (n + 1) 14 [.loc sl] s) fun r s' => ∃ k L gs, r = .loc k ∧ s.length ≤ k ∧ Grow s s' ∧ s'[k]? = some (.lst (gs.map fun z => P.loc z.2)) ∧ Grps s.length st L gs s' := by
  obtain ⟨L, l1, l2, l3⟩ := sort_st st
  have hsl := (List.getElem?_eq_some_iff.mp hs).1
  have hLz : L.length < SZ := by rw [l2.length_eq]; exact hz
  have hat := fun t : S => (Grow.add (s := s) (t := t)).at hs
  rw [calA (b := d14) rfl]
  simp [runA, d14, b14, alloc]
  refine ok_gcn (ok_bind (ok_bind ?_))
  refine ok_for (s1 := s ++ [.dct false [], .lst (L.map stP)]) (w := (L.map stP, stays (.loc (s.length + 1)) (s ++ [.dct false [], .lst (L.map stP)]))) (fun i l S => ∃ fd a3 a4, l = [some (.loc sl), some (.loc s.length), none, a3, a4, none] ∧ Grow s S ∧ S[s.length]? = some (.dct false (fd.map fdP)) ∧ S[s.length + 1]? = some (.lst (L.map stP)) ∧ Grp s.length fd (L.take i) S ∧ fd.length ≤ i) ?_ ?_ ?_ ?_ ?_
  · simp [hat, u_sorted, l1, alloc]
  · refine ⟨[], none, none, rfl, Grow.add, by simp, by simp, ⟨fun z hz => (by cases hz), by simp, by simp, fun x hx => (by cases hx)⟩, Nat.le_refl _⟩
  · rintro i l S _ ⟨fd, a3, a4, _, _, _, h, _⟩
    show _ = _
    rw [h]
    simp
  · rintro i x l S hx ⟨fd, a3, a4, rfl, q1, q2, q3, q4, q5⟩
    obtain ⟨y, hy, rfl⟩ := map_at hx
    have hi := (List.getElem?_eq_some_iff.mp hy).1
    refine ok_imp (grp_step n s L (L.take i) y fd S sl a3 a4 q1 q2 q3 q4 (by rw [List.length_take]; omega) (by omega)) ?_
    rintro fl S' ⟨fd', a3', a4', rfl, r1, r2, r3, r4, r5⟩
    have et : L.take (i + 1) = L.take i ++ [y] := by rw [List.take_succ, hy]; rfl
    exact ⟨fd', a3', a4', rfl, r1, r2, r3, by rw [et]; exact r4, by omega⟩
  · rintro l S ⟨fd, a3, a4, rfl, q1, q2, q3, q4, q5⟩
    dsimp only at q4 q5
    rw [List.length_map] at q4 q5
    rw [List.take_length] at q4
    obtain ⟨M, m1, m2, m3⟩ := sort_il (fd.map fun z => (z.1.sum, z.1))
    have hf : fd.length ≤ SZ := by omega
    have hSl := (List.getElem?_eq_some_iff.mp q2).1
    have hml : M.length = fd.length := by rw [m2.length_eq, List.length_map]
    have hself : ∀ o : O, (S.set s.length o)[s.length]? = some o := fun o => List.getElem?_set_self hSl
    have hc : evA (envA pg n) (.lcD (.v 4) false (.v 1) .nil (.tup (.cons (.b1 .sum (.v 4)) (.cons (.v 4) .nil))) [4]) [some (.loc sl), some (.loc s.length), none, a3, a4, none] S = .ok (.loc S.length) (S ++ [.lst ((fd.map fun z => (z.1.sum, z.1)).map ilP)]) := by
      have hk : Ok (evA (envA pg n) (.lcD (.v 4) false (.v 1) .nil (.tup (.cons (.b1 .sum (.v 4)) (.cons (.v 4) .nil))) [4]) [some (.loc sl), some (.loc s.length), none, a3, a4, none] S) fun r s' => r = .loc S.length ∧ s' = S ++ [.lst ((fd.map fun z => (z.1.sum, z.1)).map ilP)] := by
        refine ok_lcD (n := s.length) (kvs := fd.map fdP) (s1 := S) fd (fun z => iP z.1) (fun z => some (ilP (z.1.sum, z.1))) (by simp) q2 ?_ ?_ hf ⟨rfl, ?_⟩
        · unfold walkD
          simp [fdP]
        · intro z hz
          simp [wipe, sum_iP, ilP]
        · simp
      obtain ⟨r, s', e, rfl, rfl⟩ := hk
      exact e
    obtain ⟨S2, hS2⟩ : ∃ S2, S2 = S ++ [.lst ((fd.map fun z => (z.1.sum, z.1)).map ilP), .lst (M.map ilP)] := ⟨_, rfl⟩
    have hsd : b1P .sorted (.loc S.length) (S ++ [.lst ((fd.map fun z => (z.1.sum, z.1)).map ilP)]) = .ok (.loc (S.length + 1)) S2 := by
      rw [u_sorted, u_lst, at_new]
      dsimp only
      rw [Option.bind_some, m1, hS2]
      simp [alloc]
    have hn1 : S2[S.length + 1]? = some (.lst (M.map ilP)) := by rw [hS2]; simp
    have hn0 : S2[s.length]? = some (.dct false (fd.map fdP)) := by rw [hS2, List.getElem?_append_left hSl]; exact q2
    have g3 : Grow S S2 := by rw [hS2]; exact Grow.add
    dsimp only
    rw [hc, bind_ok, hsd, bind_ok]
    clear hc hsd hS2
    simp only [List.length_cons, List.length_nil, List.set_cons_succ, List.set_cons_zero]
    rw [if_pos (by decide)]
    simp only [ofO_some, bind_ok]
    · skip
      have hmem : ∀ m ∈ M, ∃ z ∈ fd, m = (z.1.sum, z.1) := fun m hm => by
        obtain ⟨z, h1, h2⟩ := List.mem_map.mp (m2.mem_iff.mp hm)
        exact ⟨z, h1, h2.symm⟩
      have hlk : ∀ z ∈ fd, getG fd z.1 = some z.2 := fun z hz' => by
        cases e : getG fd z.1 with
        | none => exact absurd hz' (getG_none e z.2)
        | some v =>
          have := nodup_inj q4.keys hz' (getG_mem e) rfl
          rw [this]
      have hF : Ok (evA (envA pg n) (.lc (.tup (.cons (.v 5) (.cons (.v 4) .nil))) (.rev (.v 2)) .nil (.ix (.v 1) (.v 4)) [4, 5]) [some (.loc sl), some (.loc s.length), some (.loc (S.length + 1)), a3, a4, none] S2) fun r s' => r = .loc S2.length ∧ s' = S2 ++ [.lst (M.reverse.map fun m => P.loc ((getG fd m.2).getD 0))] := by
        refine ok_lcm (s1 := S2) (gd := stays (.loc (S.length + 1)) S2) M.reverse ilP (fun m => P.loc ((getG fd m.2).getD 0)) ?_ rfl ?_ (by rw [List.length_reverse]; omega) ⟨rfl, rfl⟩
        · simp [hn1]
        · intro m hm
          obtain ⟨z, hz', rfl⟩ := hmem m (List.mem_reverse.mp hm)
          have hko : keyOk false (iP z.1) (fd.map fdP) = true := keyOk_tup (e := iP) (fun k => tupK_iP k) _ fd
          have hget : dget (fd.map fdP) (iP z.1) = some (.loc z.2) := (dget_g (v := P.loc) iP_inj2 z.1 fd).trans (by rw [hlk z hz']; rfl)
          simp [ilP, wipe, hn0, hko, hget, hlk z hz']
      obtain ⟨r, s', e, rfl, rfl⟩ := hF
      simp only [e, bind_ok]
      refine ok_eq rfl (ok_eq rfl ?_)
      refine ⟨by simp [bnd]; have := q1.len; have := g3.len; omega, S2.length, rfl, Nat.le_trans q1.len g3.len, (q1.trans g3).trans Grow.add, L, M.reverse.map fun m => (m.2, (getG fd m.2).getD 0), ?_, ⟨l2, l3, ?_, ?_, ?_⟩⟩
      · rw [at_new, List.map_map]; rfl
      · rw [List.pairwise_map, List.pairwise_reverse]
        refine m3.imp_of_mem ?_
        intro a b ha hb hab
        obtain ⟨za, _, rfl⟩ := hmem a ha
        obtain ⟨zb, _, rfl⟩ := hmem b hb
        exact hab
      · intro z hz'
        obtain ⟨m, hm, rfl⟩ := List.mem_map.mp hz'
        obtain ⟨y, hy, rfl⟩ := hmem m (List.mem_reverse.mp hm)
        rw [hlk y hy]
        obtain ⟨w1, w2⟩ := q4.at_ y hy
        exact ⟨by show s.length ≤ y.2; omega, (g3.trans Grow.add).at w2⟩
      · intro x hx
        obtain ⟨z, h1, h2⟩ := q4.all x (l2.mem_iff.mpr hx)
        refine ⟨(z.1, (getG fd z.1).getD 0), List.mem_map.mpr ⟨(z.1.sum, z.1), ?_, rfl⟩, h2⟩
        rw [List.mem_reverse, m2.mem_iff]
        exact List.mem_map.mpr ⟨z, h1, rfl⟩
end K98
namespace K98
open Pa
/-- the least number that may still come in -/
def lea (c : Cl) : List Int → List Int → Int
  | [], _ => 0
  | t :: ts, cs => ((moves c t cs).map fun y => y.2 + lea c ts y.1).foldl min 0
def LL (c : Cl) (turns : List Int) (x : St) : Int := lea c (turns.drop x.1) x.2
theorem low_LL {c : Cl} {turns : List Int} {tab : KV} {x : St} (h : ∀ y ∈ goes c turns x, look tab (x.1 + 1, y.1) = LL c turns (x.1 + 1, y.1)) : low c turns tab x = LL c turns x := by
  have e : (goes c turns x).map (fun y => y.2 + look tab (x.1 + 1, y.1)) = (goes c turns x).map fun y => y.2 + LL c turns (x.1 + 1, y.1) := List.map_congr_left fun y hy => by rw [h y hy]
  unfold low
  rw [e]
  unfold LL goes
  cases e2 : turns[x.1]? with
  | none =>
    have : turns.length ≤ x.1 := List.getElem?_eq_none_iff.mp e2
    rw [List.drop_eq_nil_of_le this]
    rfl
  | some p =>
    rw [drop_cons e2]
    rfl
theorem topT_sum (p : Int) : ∀ (ts : List Term) (cs : List Int), cs.length = ts.length → (topT ts cs p).1 = cs ∨ cs.sum < (topT ts cs p).1.sum
  | [], [], _ => .inl rfl
  | [], _ :: _, h => by simp at h
  | _ :: _, [], h => by simp at h
  | t :: ts, d :: cs, h => by
    have ih := topT_sum p ts cs (by simpa using h)
    rw [topT_cons]
    split
    · right
      rcases ih with e | e
      · rw [e]; simp; omega
      · simp; omega
    · rcases ih with e | e
      · left; rw [e]
      · right; simp; omega
theorem goes_sum {c : Cl} {turns : List Int} {x : St} {y : List Int × Int} (hx : x.2.length = c.ts.length) (h : y ∈ goes c turns x) : y.1 = x.2 ∨ x.2.sum < y.1.sum := by
  unfold goes at h
  cases e : turns[x.1]? with
  | none => rw [e] at h; cases h
  | some p =>
    rw [e] at h
    unfold moves at h
    rcases List.mem_cons.mp h with z | z
    · rw [z]; exact topT_sum p c.ts x.2 hx
    · split at z
      · cases z
      · rw [List.mem_singleton] at z; rw [z]; exact .inl rfl
/-- what a group wants -/
def Fine (c : Cl) (turns : List Int) (tab : KV) (R : List St) : Prop := ∀ x ∈ R, ∀ y ∈ goes c turns x, (x.1 + 1, y.1) ∈ R ∨ ((x.1 + 1, y.1) ∉ R ∧ look tab (x.1 + 1, y.1) = LL c turns (x.1 + 1, y.1))
theorem low_fold {c : Cl} {turns : List Int} {tab : KV} {R : List St} (hF : Fine c turns tab R) (hp : R.reverse.Pairwise fun a b => b.1 ≤ a.1) : ∀ (P Q : List St), R.reverse = P ++ Q → ∀ z : Bool × KV, (∀ x ∈ P, look z.2 x = LL c turns x) → (∀ x, x ∉ R → look z.2 x = look tab x) →
    (∀ x ∈ R, look (Q.foldl (lowStep c turns) z).2 x = LL c turns x) ∧ (∀ x, x ∉ R → look (Q.foldl (lowStep c turns) z).2 x = look tab x) ∧ (z.1 = false → (∀ x ∈ R, look z.2 x = LL c turns x) → (Q.foldl (lowStep c turns) z).1 = false)
  | P, [], e, z, h1, h2 => by
    rw [List.append_nil] at e
    exact ⟨fun x hx => h1 x (by rw [← e]; exact List.mem_reverse.mpr hx), h2, fun hz _ => hz⟩
  | P, x :: Q, e, z, h1, h2 => by
    have hxR : x ∈ R := List.mem_reverse.mp (by rw [e]; simp)
    have hlow : low c turns z.2 x = LL c turns x := low_LL fun y hy => by
      rcases hF x hxR y hy with w | ⟨w1, w2⟩
      · have hm : (x.1 + 1, y.1) ∈ P ++ x :: Q := by rw [← e]; exact List.mem_reverse.mpr w
        rcases List.mem_append.mp hm with q | q
        · exact h1 _ q
        · exfalso
          rw [e, List.pairwise_append] at hp
          have hq := List.pairwise_cons.mp hp.2.1
          rcases List.mem_cons.mp q with r | r
          · have : x.1 + 1 = x.1 := congrArg Prod.fst r
            omega
          · have := hq.1 _ r
            dsimp only at this
            omega
      · rw [h2 _ w1, w2]
    rw [List.foldl_cons]
    have e' : R.reverse = (P ++ [x]) ++ Q := by rw [e]; simp
    obtain ⟨r1, r2, r3⟩ := low_fold hF hp (P ++ [x]) Q e' (lowStep c turns z x) (fun y hy => by
      show look (putI z.2 (keyL x) (low c turns z.2 x)) y = _
      rw [look_put]
      split
      · rename_i q; rw [← q]; exact hlow
      · rename_i q
        rcases List.mem_append.mp hy with w | w
        · exact h1 y w
        · rw [List.mem_singleton] at w; exact absurd w.symm q) (fun y hy => by
      show look (putI z.2 (keyL x) (low c turns z.2 x)) y = _
      rw [look_put]
      split
      · rename_i q; rw [← q] at hy; exact absurd hxR hy
      · exact h2 y hy)
    refine ⟨r1, r2, fun hz hall => r3 ?_ ?_⟩
    · show (z.1 || decide (low c turns z.2 x < look z.2 x)) = false
      rw [hz, hlow, hall x hxR]
      simp
    · intro y hy
      show look (putI z.2 (keyL x) (low c turns z.2 x)) y = _
      rw [look_put]
      split
      · rename_i q; rw [← q]; exact hlow
      · exact hall y hy
theorem lowAll_spec {c : Cl} {turns : List Int} {tab : KV} {R : List St} (hF : Fine c turns tab R) (hp : R.Pairwise fun a b => a.1 ≤ b.1) :
    (∀ x ∈ R, look (lowAll c turns R tab).2 x = LL c turns x) ∧ (∀ x, x ∉ R → look (lowAll c turns R tab).2 x = look tab x) ∧ ((∀ x ∈ R, look tab x = LL c turns x) → (lowAll c turns R tab).1 = false) := by
  obtain ⟨a, b, d⟩ := low_fold hF (List.pairwise_reverse.mpr hp) [] R.reverse rfl (false, tab) (fun x hx => by cases hx) (fun x _ => rfl)
  exact ⟨a, b, d rfl⟩
theorem settle_spec {c : Cl} {turns : List Int} {tab : KV} {R : List St} (hF : Fine c turns tab R) (hp : R.Pairwise fun a b => a.1 ≤ b.1) (hR : Ready c turns tab R) :
    (settle c turns R 3 tab).1 = true ∧ (∀ x ∈ R, look (settle c turns R 3 tab).2 x = LL c turns x) ∧ (∀ x, x ∉ R → look (settle c turns R 3 tab).2 x = look tab x) ∧ (settle c turns R 3 tab).2.length = tab.length ∧ (∀ x, Has tab x → Has (settle c turns R 3 tab).2 x) := by
  have hhas : ∀ (l : List St) (z : Bool × KV) (x : St), Has z.2 x → Has (l.foldl (lowStep c turns) z).2 x := by
    intro l
    induction l with
    | nil => intro z x h; exact h
    | cons a l ih => intro z x h; exact ih _ x (has_put h)
  obtain ⟨a, b, d⟩ := lowAll_spec hF hp
  have hl := lowAll_ready hR
  have hh : ∀ x, Has tab x → Has (lowAll c turns R tab).2 x := fun x h => hhas _ _ x h
  have hF2 : Fine c turns (lowAll c turns R tab).2 R := fun x hx y hy => by
    rcases hF x hx y hy with w | ⟨w1, w2⟩
    · exact .inl w
    · exact .inr ⟨w1, by rw [b _ w1]; exact w2⟩
  obtain ⟨a2, b2, d2⟩ := lowAll_spec hF2 hp
  have hl2 := lowAll_ready hl.1
  have hh2 : ∀ x, Has tab x → Has (lowAll c turns R (lowAll c turns R tab).2).2 x := fun x h => hhas _ _ x (hh x h)
  have e2 := d2 a
  have es : settle c turns R 3 tab = if (lowAll c turns R tab).1 = true then (true, (lowAll c turns R (lowAll c turns R tab).2).2) else (true, (lowAll c turns R tab).2) := by
    show (if (lowAll c turns R tab).1 = true then (if (lowAll c turns R (lowAll c turns R tab).2).1 = true then settle c turns R 1 (lowAll c turns R (lowAll c turns R tab).2).2 else (true, (lowAll c turns R (lowAll c turns R tab).2).2)) else (true, (lowAll c turns R tab).2)) = _
    rw [e2]
    rfl
  rw [es]
  split
  · exact ⟨rfl, a2, fun x hx => (b2 x hx).trans (b x hx), hl2.2.trans hl.2, hh2⟩
  · exact ⟨rfl, a, b, hl.2, hh⟩
def tab0 (st : List St) : KV := st.foldl (fun d x => putI d (keyL x) 0) []
theorem tab0_has (st : List St) : ∀ x ∈ st, Has (tab0 st) x := by
  suffices h : ∀ (l : List St) (d : KV), (∀ x, Has d x → Has (l.foldl (fun d x => putI d (keyL x) 0) d) x) ∧ ∀ x ∈ l, Has (l.foldl (fun d x => putI d (keyL x) 0) d) x from (h st []).2
  intro l
  induction l with
  | nil => intro d; exact ⟨fun x h => h, fun x hx => by cases hx⟩
  | cons a l ih =>
    intro d
    obtain ⟨h1, h2⟩ := ih (putI d (keyL a) 0)
    refine ⟨fun x h => h1 x (has_put h), fun x hx => ?_⟩
    rcases List.mem_cons.mp hx with z | z
    · refine h1 x ?_
      unfold Has
      rw [getI_put, z, if_pos rfl]
      rfl
    · exact h2 x z
theorem tab0_len (st : List St) : (tab0 st).length ≤ st.length := by
  suffices h : ∀ (l : List St) (d : KV), (l.foldl (fun d x => putI d (keyL x) 0) d).length ≤ d.length + l.length by simpa [tab0] using h st []
  intro l
  induction l with
  | nil => intro d; simp
  | cons a l ih =>
    intro d
    have := ih (putI d (keyL a) 0)
    have h2 := putI_len d (keyL a) 0
    rw [List.foldl_cons, List.length_cons]
    omega
open Classical in
theorem merge_tab0 (st : List St) : mergeP [] (st.map fun x => (iP (keyL x), P.int 0)) = (tab0 st).map kvP := by
  suffices h : ∀ (l : List St) (d : KV), mergeP (d.map kvP) (l.map fun x => (iP (keyL x), P.int 0)) = (l.foldl (fun d x => putI d (keyL x) 0) d).map kvP from h st []
  intro l
  induction l with
  | nil => intro d; rfl
  | cons a l ih =>
    intro d
    rw [List.foldl_cons, ← ih, ← dput_kv]
    rfl
theorem pairs_map {α : Type} (f g : α → P) : ∀ l : List α, pairsOf (l.map fun x => P.tup [f x, g x]) = some (l.map fun x => (f x, g x))
  | [] => rfl
  | a :: l => by
    show (pairsOf (l.map fun x => P.tup [f x, g x])).map _ = _
    rw [pairs_map f g l]
    rfl
end K98
namespace K98
open Pa
theorem u_dict (p : P) (s : S) : b1P .dict p s = match ((lstOf s p).bind pairsOf) with
    | some kvs => if (kvs.all fun kv => tupK kv.1) then alloc (.dct false (mergeP [] kvs)) s else .bad
    | none => .bad := rfl
theorem desc_index {gs : List (List Int × Nat)} (h : gs.Pairwise fun a b => b.1.sum ≤ a.1.sum) {i j : Nat} {a b : List Int × Nat} (hi : gs[i]? = some a) (hj : gs[j]? = some b) (hlt : a.1.sum < b.1.sum) : j < i := by
  obtain ⟨hi1, hi2⟩ := List.getElem?_eq_some_iff.mp hi
  obtain ⟨hj1, hj2⟩ := List.getElem?_eq_some_iff.mp hj
  rcases Nat.lt_trichotomy j i with q | q | q
  · exact q
  · subst q
    rw [hi2] at hj2
    subst hj2
    omega
  · have := List.pairwise_iff_getElem.mp h i j hi1 hj1 q
    rw [hi2, hj2] at this
    omega
theorem mem_grp {L : List St} {cs : List Int} {x : St} : x ∈ grp L cs ↔ x ∈ L ∧ x.2 = cs := by
  unfold grp
  rw [List.mem_filter]
  simp
theorem s_least_table (n : Nat) (c : Cl) (turns : List Int) (s : S) (h1 : c.ts ≠ []) (h2 : c.ts.length ≤ 999) (hl : turns.length ≤ 20) :
    Ok (callA pg (n + 7) 16 [cP c, trP turns] s) fun r s' => ∃ k tab, r = .loc k ∧ s.length ≤ k ∧ Grow s s' ∧ s'[k]? = some (.dct false (tab.map kvP)) ∧ getI tab (0 :: zs c) = some (lea c turns (zs c)) := by
  obtain ⟨r, s1, e1, st, rfl, g1, a1, R, D, len⟩ := s_reached (n + 2) c turns s h1 (by omega) hl
  have a1l := (List.getElem?_eq_some_iff.mp a1).1
  have hz : st.length < SZ := by unfold SZ; omega
  have hlc : evA (envA pg (n + 6)) (.lc (.tup (.cons (.v 5) (.cons (.v 6) .nil))) (.ex (.v 2)) .nil (.tup (.cons (.call 10 (.cons (.v 5) (.cons (.v 6) .nil))) (.cons (.int 0) .nil))) [5, 6]) [some (cP c), some (trP turns), some (.loc s.length), none, none, none, none] s1 = .ok (.loc s1.length) (s1 ++ [.lst (st.map fun x => .tup [iP (keyL x), .int 0])]) := by
    have hk : Ok (evA (envA pg (n + 6)) (.lc (.tup (.cons (.v 5) (.cons (.v 6) .nil))) (.ex (.v 2)) .nil (.tup (.cons (.call 10 (.cons (.v 5) (.cons (.v 6) .nil))) (.cons (.int 0) .nil))) [5, 6]) [some (cP c), some (trP turns), some (.loc s.length), none, none, none, none] s1) fun r s' => r = .loc s1.length ∧ s' = s1 ++ [.lst (st.map fun x => .tup [iP (keyL x), .int 0])] := by
      refine ok_lcm (s1 := s1) (gd := stays (.loc s.length) s1) st stP (fun x => .tup [iP (keyL x), .int 0]) ?_ rfl ?_ (by omega) ⟨rfl, rfl⟩
      · simp [a1]
      · intro x hx
        have hxl := (R.good x hx).1
        obtain ⟨k, cs⟩ := x
        have hkey := fun st' => s_state_key (n + 5) k cs st' (by dsimp only at hxl; omega)
        simp [stP, wipe, hkey, keyL]
    obtain ⟨r, s', e, rfl, rfl⟩ := hk
    exact e
  obtain ⟨s2, hs2⟩ : ∃ s2, s2 = s1 ++ [.lst (st.map fun x => .tup [iP (keyL x), .int 0]), .dct false ((tab0 st).map kvP)] := ⟨_, rfl⟩
  have hdict : b1P .dict (.loc s1.length) (s1 ++ [.lst (st.map fun x => .tup [iP (keyL x), .int 0])]) = .ok (.loc (s1.length + 1)) s2 := by
    have hall : ((st.map fun x => (iP (keyL x), P.int 0)).all fun kv => tupK kv.1) = true := by
      rw [List.all_eq_true]
      intro y hy
      obtain ⟨z, _, rfl⟩ := List.mem_map.mp hy
      exact tupK_iP _
    rw [u_dict, u_lst, at_new]
    dsimp only
    rw [Option.bind_some, pairs_map (fun x => iP (keyL x)) (fun _ => P.int 0)]
    dsimp only
    rw [if_pos hall, merge_tab0, hs2]
    simp [alloc]
  have b2 : s2[s1.length + 1]? = some (.dct false ((tab0 st).map kvP)) := by rw [hs2]; simp
  have g2 : Grow s1 s2 := by rw [hs2]; exact Grow.add
  have b2l : s2.length = s1.length + 2 := by rw [hs2]; simp
  clear hs2
  obtain ⟨r, s3, e3, k3, L, gs, rfl, k3l, g3, a3, G⟩ := s_by_counts (n + 5) st s.length s2 (g2.at a1) hz
  have b3 : s3[s1.length + 1]? = some (.dct false ((tab0 st).map kvP)) := g3.at b2
  have b3l := (List.getElem?_eq_some_iff.mp b3).1
  have hself : ∀ o : O, (s3.set (s1.length + 1) o)[s1.length + 1]? = some o := fun o => List.getElem?_set_self b3l
  have hlen1 := g1.len
  have hLL : LL c turns (0, zs c) = lea c turns (zs c) := rfl
  rw [calA (b := d16) rfl]
  simp [runA, d16, b16, e1]
  rw [hlc]
  simp [hdict]
  refine ok_gcn (ok_bind (ok_bind ?_))
  refine ok_for (s1 := s3) (w := (gs.map fun z => P.loc z.2, stays (.loc k3) s3)) (fun i l S => ∃ T a4, l = [some (cP c), some (trP turns), some (.loc s.length), some (.loc (s1.length + 1)), a4, none, none] ∧ S = s3.set (s1.length + 1) (.dct false (T.map kvP)) ∧ T.length < SZ ∧ (∀ x ∈ st, Has T x) ∧ ∀ j z, j < i → gs[j]? = some z → ∀ x ∈ grp L z.1, look T x = LL c turns x) ?_ ?_ ?_ ?_ ?_
  · simp [e3, a3]
  · refine ⟨tab0 st, none, rfl, ?_, ?_, tab0_has st, fun j z hj => by omega⟩
    · exact (List.ext_getElem? fun j => by
        by_cases hj : j = s1.length + 1
        · subst hj; rw [hself, b3]
        · rw [List.getElem?_set_ne (Ne.symm hj)])
    · have := tab0_len st
      omega
  · rintro i l S _ ⟨T, a4, rfl, rfl, _⟩
    show _ = _
    rw [List.getElem?_set_ne (by omega)]
  · rintro i x l S hx ⟨T, a4, rfl, rfl, q1, q2, q3⟩
    obtain ⟨z, hz', rfl⟩ := map_at hx
    obtain ⟨w1, w2⟩ := G.at_ z (List.mem_of_getElem? hz')
    have hmem : ∀ y ∈ grp L z.1, y ∈ st := fun y hy => G.perm.mem_iff.mp (mem_grp.mp hy).1
    have hD : ∀ y ∈ st, ∀ v ∈ goes c turns y, (y.1 + 1, v.1) ∈ st := fun y hy => D y (by rw [List.take_length]; exact hy)
    have hRd : Ready c turns T (grp L z.1) := fun y hy => ⟨(R.good y (hmem y hy)).1, q2 y (hmem y hy), fun v hv => q2 _ (hD y (hmem y hy) v hv)⟩
    have hF : Fine c turns T (grp L z.1) := fun y hy v hv => by
      have hy2 := (mem_grp.mp hy).2
      have hst := hD y (hmem y hy) v hv
      rcases goes_sum (R.good y (hmem y hy)).1 hv with q | q
      · left
        rw [mem_grp]
        exact ⟨G.perm.mem_iff.mpr hst, by rw [← hy2]; exact q⟩
      · right
        refine ⟨fun w => ?_, ?_⟩
        · have := (mem_grp.mp w).2
          dsimp only at this
          rw [hy2, this] at q
          omega
        · obtain ⟨z', hz1, hz2⟩ := G.all _ hst
          obtain ⟨j, hj⟩ := List.getElem?_of_mem hz1
          have hji := desc_index G.desc hz' hj (by rw [hz2, ← hy2]; exact q)
          refine q3 j z' hji hj _ ?_
          rw [mem_grp]
          exact ⟨G.perm.mem_iff.mpr hst, hz2.symm⟩
    have hasc : (grp L z.1).Pairwise fun a b => a.1 ≤ b.1 := G.asc.filter _
    obtain ⟨r1, r2, r3, r4, r5⟩ := settle_spec hF hasc hRd
    have hcall := s_settled n c turns (s1.length + 1) z.2 T (grp L z.1) (s3.set (s1.length + 1) (.dct false (T.map kvP))) (hself _) (by rw [List.getElem?_set_ne (by omega)]; exact w2) h2 hRd q1
    rw [List.set_set, r1] at hcall
    refine ok_eq (a := Fl.nx [some (cP c), some (trP turns), some (.loc s.length), some (.loc (s1.length + 1)), some (.loc z.2), none, none]) (s := s3.set (s1.length + 1) (.dct false ((settle c turns (grp L z.1) 3 T).2.map kvP))) (by simp [hcall]) ?_
    refine ⟨_, _, rfl, rfl, by omega, fun x hx => r5 x (q2 x hx), fun j z' hj hz2 y hy => ?_⟩
    by_cases hm : y ∈ grp L z.1
    · exact r2 y hm
    · rw [r3 y hm]
      rcases Nat.lt_or_ge j i with w | w
      · exact q3 j z' w hz2 y hy
      · have : j = i := by omega
        subst this
        rw [hz'] at hz2
        cases hz2
        exact absurd hy hm
  · rintro l S ⟨T, a4, rfl, rfl, q1, q2, q3⟩
    dsimp only at q3
    rw [List.length_map] at q3
    have hf := q2 _ R.first
    obtain ⟨z, hz1, hz2⟩ := G.all _ R.first
    obtain ⟨j, hj⟩ := List.getElem?_of_mem hz1
    have hv := q3 j z (List.getElem?_eq_some_iff.mp hj).1 hj (0, zs c) (mem_grp.mpr ⟨G.perm.mem_iff.mpr R.first, hz2.symm⟩)
    refine ok_eq (a := Fl.ret (.loc (s1.length + 1))) (s := s3.set (s1.length + 1) (.dct false (T.map kvP))) (by simp) (ok_eq rfl ?_)
    refine ⟨by simp [bnd]; omega, s1.length + 1, rfl, by omega, (g1.trans (g2.trans g3)).set (by omega), T, hself _, ?_⟩
    have := hf.get
    rw [hv] at this
    exact this
end K98
namespace K98
open Pa
theorem zs_iP (c : Cl) (s : S) (h2 : c.ts.length ≤ 999) : binP .add (.tup [.int 0]) (iP (zs c)) s = .ok (iP (0 :: zs c)) s := by
  have : 1 + c.ts.length ≤ SZ := by unfold SZ; omega
  unfold iP
  rw [o_addT, if_pos (by simpa [zs] using this)]
  rfl
theorem s_least_counted (n : Nat) (c : Cl) (turns : List Int) (s : S) (h1 : c.ts ≠ []) (h2 : c.ts.length ≤ 999) (hl : turns.length ≤ 20) :
    callA pg (n + 8) 22 [cP c, iP turns] s = .ok (.int (lea c turns (zs c))) s := by
  have key : Ok (callA pg (n + 8) 22 [cP c, iP turns] s) fun r s' => r = .int (lea c turns (zs c)) ∧ s' = s := by
    have ht := s_turns_track (n + 6) turns
    have hz := fun st => s_counts_of (n + 6) c st h1 (by omega)
    obtain ⟨r, s1, e, k, tab, rfl, hk, g, a, hv⟩ := s_least_table n c turns s h1 h2 hl
    have hzs := fun st => zs_iP c st h2
    have hko : keyOk false (iP (0 :: zs c)) (tab.map kvP) = true := keyOk_kv _ tab
    have hget : dget (tab.map kvP) (iP (0 :: zs c)) = some (.int (lea c turns (zs c))) := by rw [dget_kv, hv]; rfl
    unfold zs at hzs hko hget
    rw [calA (b := d22) rfl]
    simp [runA, d22, b22, ht, e, hz, hzs, a, hko, hget]
    refine ok_gc ?_
    simp [bnd, g, zs]
  obtain ⟨r, s', e, rfl, rfl⟩ := key
  exact e
theorem s_holds_for (n : Nat) (c : Cl) (turns : List Int) (s : S) (h1 : c.ts ≠ []) (h2 : c.ts.length ≤ 999) (hl : turns.length ≤ 20) :
    callA pg (n + 8) 23 [cP c, iP turns] s = .ok (.bl (lea c turns (zs c) == 0)) s := by
  have key : Ok (callA pg (n + 8) 23 [cP c, iP turns] s) fun r s' => r = .bl (lea c turns (zs c) == 0) ∧ s' = s := by
    have ht := s_turns_track (n + 6) turns
    have hz := fun st => s_counts_of (n + 6) c st h1 (by omega)
    obtain ⟨r, s1, e, k, tab, rfl, hk, g, a, hv⟩ := s_least_table n c turns s h1 h2 hl
    have hzs := fun st => zs_iP c st h2
    have hko : keyOk false (iP (0 :: zs c)) (tab.map kvP) = true := keyOk_kv _ tab
    have hget : dget (tab.map kvP) (iP (0 :: zs c)) = some (.int (lea c turns (zs c))) := by rw [dget_kv, hv]; rfl
    unfold zs at hzs hko hget
    rw [calA (b := d23) rfl]
    simp [runA, d23, b23, ht, e, hz, hzs, a, hko, hget]
    refine ok_gc ?_
    simp [bnd, g, zs]
  obtain ⟨r, s', e, rfl, rfl⟩ := key
  exact e
def allB : Nat → List (List Bool)
  | 0 => [[]]
  | n + 1 => (allB n).flatMap fun r => [r ++ [false], r ++ [true]]
theorem allB_len : ∀ n, (allB n).length = 2 ^ n
  | 0 => rfl
  | n + 1 => by
    have : ∀ l : List (List Bool), (l.flatMap fun r => [r ++ [false], r ++ [true]]).length = 2 * l.length := by
      intro l
      induction l with
      | nil => rfl
      | cons a l ih => rw [List.flatMap_cons, List.length_append, ih]; simp; omega
    unfold allB
    rw [this, allB_len n, Nat.pow_succ]
    omega
theorem allB_mem : ∀ {n : Nat} {r : List Bool}, r ∈ allB n → r.length = n
  | 0, r, h => by have : r = [] := by simpa [allB] using h
                  rw [this]; rfl
  | n + 1, r, h => by
    unfold allB at h
    obtain ⟨a, ha, hr⟩ := List.mem_flatMap.mp h
    have := allB_mem ha
    rcases List.mem_cons.mp hr with z | z
    · rw [z]; simp [this]
    · rw [List.mem_singleton] at z; rw [z]; simp [this]
theorem allB_lex : ∀ n, allB (n + 1) = (allB n).map (false :: ·) ++ (allB n).map (true :: ·)
  | 0 => rfl
  | n + 1 => by
    have e : allB (n + 1 + 1) = (allB (n + 1)).flatMap fun r => [r ++ [false], r ++ [true]] := rfl
    rw [e, allB_lex n, List.flatMap_append]
    have h : ∀ b : Bool, ((allB n).map (b :: ·)).flatMap (fun r => [r ++ [false], r ++ [true]]) = ((allB n).flatMap fun r => [r ++ [false], r ++ [true]]).map (b :: ·) := by
      intro b
      induction allB n with
      | nil => rfl
      | cons a l ih => rw [List.map_cons, List.flatMap_cons, List.flatMap_cons, List.map_append, ih]; rfl
    rw [h, h]
    have e2 : allB (n + 1) = (allB n).flatMap fun r => [r ++ [false], r ++ [true]] := rfl
    rw [← e2, allB_lex n]
theorem boolsOf_bl : ∀ bs : List Bool, boolsOf (bs.map P.bl) = some bs
  | [] => rfl
  | b :: bs => by show (boolsOf (bs.map P.bl)).map (b :: ·) = _; rw [boolsOf_bl bs]; rfl
theorem isCh_bP {p : Int} {turns : List Int} {bs : List Bool} (h : bs.length = turns.length) : isCh p turns (bP bs) = (val p turns bs).1 := by
  show (decide ((bs.map P.bl).length = turns.length) && (match boolsOf (bs.map P.bl) with | some bs => (val p turns bs).1 | none => false)) = _
  rw [boolsOf_bl]
  simp [h]
theorem askd_bP {bs : List Bool} (s : S) (h : bs.length ≤ SZ) : Askd s (bP bs) := by
  refine ⟨fun x hx => ?_, by simpa using h⟩
  obtain ⟨b, _, rfl⟩ := List.mem_map.mp hx
  rfl
def rowsF (c : Cl) (turns : List Int) : List (List Bool) := (allB turns.length).filter fun bs => (val c.p turns bs).1
theorem bnd_bP (m : Nat) (l : List Bool) : bnd m (bP l) = true := by unfold bP bnd; exact bnds_map m _ (fun b => rfl) l
theorem s_all_choices (n : Nat) (c : Cl) (turns : List Int) (s : S) (hl : turns.length ≤ 20) :
    callA pg (n + 3) 21 [cP c, iP turns] s = .ok (.tup ((rowsF c turns).map bP)) s := by
  have key : Ok (callA pg (n + 3) 21 [cP c, iP turns] s) fun r s' => r = .tup ((rowsF c turns).map bP) ∧ s' = s := by
    have hp : ∀ i, i ≤ 20 → 2 ^ i ≤ 1048576 := fun i h => Nat.le_trans (Nat.pow_le_pow_right (by omega) h) (by decide)
    rw [calA (b := d21) rfl]
    simp [runA, d21, b21, alloc]
    refine ok_gc (ok_bind (ok_bind ?_))
    refine ok_for (s1 := s ++ [.lst [.tup []]]) (w := (turns.map P.int, fun _ => True)) (fun i l S => ∃ a a3, l = [some (cP c), some (iP turns), some (.loc a), a3, none, none] ∧ Grow s S ∧ s.length ≤ a ∧ S[a]? = some (.lst ((allB i).map bP))) ?_ ?_ ?_ ?_ ?_
    · simp [iP, stays]
    · exact ⟨s.length, none, rfl, Grow.add, Nat.le_refl _, by simp [allB, bP]⟩
    · intros; trivial
    · rintro i x l S hx ⟨a, a3, rfl, q1, q2, q3⟩
      obtain ⟨t, ht, rfl⟩ := map_at hx
      have hi := (List.getElem?_eq_some_iff.mp ht).1
      have hE : Ok (evA (envA pg (n + 2)) (.lc2 (.v 4) (.ex (.v 2)) .nil (.v 5) (.ex (.tup (.cons (.bl false) (.cons (.bl true) .nil)))) .nil (.bin .add (.v 4) (.tup (.cons (.v 5) .nil))) [4, 5] [5]) [some (cP c), some (iP turns), some (.loc a), some (.int t), none, none] S) fun r s' => r = .loc S.length ∧ s' = S ++ [.lst ((allB (i + 1)).map bP)] := by
        refine ok_lc2 (s1 := S) (gd := stays (.loc a) S) (allB i) bP (fun r => [bP (r ++ [false]), bP (r ++ [true])]) 2 ?_ rfl ?_ (fun _ _ => Nat.le_refl _) ?_ ⟨rfl, ?_⟩
        · simp [q3]
        · intro r hr
          have hrl := allB_mem hr
          have hz : r.length + 1 ≤ SZ := by unfold SZ; omega
          refine ⟨[some (cP c), some (iP turns), some (.loc a), some (.int t), some (bP r), none], [.bl false, .bl true], fun _ => True, fun x => .tup (r.map P.bl ++ [x]), ?_, ?_, trivial, ?_, ?_⟩
          · simp [wipe]
          · simp [stays]
          · intro x hx
            simp [wipe, bP, hz]
          · simp [bP]
        · rw [allB_len]
          have := hp i (by omega)
          unfold SZ
          omega
        · have e : (allB i).flatMap (fun r => [bP (r ++ [false]), bP (r ++ [true])]) = (allB (i + 1)).map bP := by
            show _ = ((allB i).flatMap fun r => [r ++ [false], r ++ [true]]).map bP
            rw [List.map_flatMap]
            rfl
          rw [e]
      obtain ⟨r, s', e, rfl, rfl⟩ := hE
      refine ok_eq (a := Fl.nx [some (cP c), some (iP turns), some (.loc S.length), some (.int t), none, none]) (s := S ++ [.lst ((allB (i + 1)).map bP)]) (by simp [e]) ?_
      exact ⟨_, _, rfl, q1.trans Grow.add, q1.len, by simp⟩
    · rintro l S ⟨a, a3, rfl, q1, q2, q3⟩
      dsimp only at q3
      rw [List.length_map] at q3
      have hlen : (allB turns.length).length ≤ SZ := by
        rw [allB_len]
        have := hp turns.length hl
        unfold SZ
        omega
      have hE : Ok (evA (envA pg (n + 2)) (.lc (.v 4) (.ex (.v 2)) (.cons (.call 19 (.cons (.v 0) (.cons (.v 1) (.cons (.v 4) .nil)))) .nil) (.v 4) [4]) [some (cP c), some (iP turns), some (.loc a), a3, none, none] S) fun r s' => r = .loc S.length ∧ s' = S ++ [.lst ((rowsF c turns).map bP)] := by
        refine ok_lcf (s1 := S) (gd := stays (.loc a) S) (allB turns.length) bP (fun r => if (val c.p turns r).1 = true then some (bP r) else none) ?_ rfl ?_ hlen ⟨rfl, ?_⟩
        · simp [q3]
        · intro r hr
          have hrl := allB_mem hr
          have hc := s_is_choice n c turns (bP r) S (by unfold SZ; omega) (askd_bP S (by unfold SZ; omega))
          rw [isCh_bP hrl] at hc
          cases hb : (val c.p turns r).1 with
          | true => rw [hb] at hc; simp [wipe, hc]
          | false => rw [hb] at hc; simp [wipe, hc]
        · have e : (allB turns.length).filterMap (fun r => if (val c.p turns r).1 = true then some (bP r) else none) = (rowsF c turns).map bP := by
            unfold rowsF
            generalize allB turns.length = l
            induction l with
            | nil => rfl
            | cons a l ih =>
              rw [List.filterMap_cons]
              cases hb : (val c.p turns a).1 with
              | true => simp [hb, ih]
              | false => simp [hb, ih]
          rw [e]
      obtain ⟨r, s', e, rfl, rfl⟩ := hE
      have hb : ∀ m, bnds m ((rowsF c turns).map bP) = true := fun m => bnds_map m _ (bnd_bP m) _
      simp [e, bnd, hb]
      exact q1.trans Grow.add
  obtain ⟨r, s', e, rfl, rfl⟩ := key
  exact e
end K98
namespace K98
open Pa
def jarO (y : Int) (xs : List Int) : O := .lst (.int 0 :: .int y :: xs.map P.int)
theorem small_of {z : Int} (h1 : 0 ≤ z) (h2 : z < 100000000) : small z := by
  have e64 : (2 : Int) ^ 64 = 18446744073709551616 := by decide
  unfold small
  rw [e64]
  omega
theorem small_mod (z : Int) : small (z % 32452843) := small_of (Int.emod_nonneg _ (by omega)) (by have := Int.emod_lt_of_pos z (show (0 : Int) < 32452843 by omega); omega)
theorem jar_in (G : Env) (s : S) (ns : List Int) (l2 l5 : Option P) (y : Int) (xs : List Int) (cell : Int) (a4 : Option P) (hx : xs.length + 60 ≤ SZ - 10) :
    Ok (exA G (.for (.v 4) (.rng1 (.int 60)) (.cons (.ife (.cmp .eq (.v 3) (.int 0)) (.cons .brk .nil) .nil) (.cons (.ex (.m1 .append (.v 1) (.bin .mod (.b1 .int (.v 3)) (.int 10253)))) (.cons (.asg (.v 3) (.bin .fdiv (.v 3) (.int 10253))) .nil)))) [some (.rol (ns.map P.int)), some (.loc s.length), l2, some (.int cell), a4, l5] (s ++ [jarO y xs]))
      fun fl S => ∃ xs' a3 a4, fl = .nx [some (.rol (ns.map P.int)), some (.loc s.length), l2, a3, a4, l5] ∧ S = s ++ [jarO y xs'] ∧ xs'.length ≤ xs.length + 60 := by
  refine ok_for (s1 := s ++ [jarO y xs]) (w := ((List.range 60).map (fun i : Nat => P.int i), fun _ => True)) (fun i l S => ∃ (xs' : List Int) (cell : Int) (a4 : Option P), l = [some (.rol (ns.map P.int)), some (.loc s.length), l2, some (.int cell), a4, l5] ∧ S = s ++ [jarO y xs'] ∧ xs'.length ≤ xs.length + i) ?_ ?_ ?_ ?_ ?_
  · exact ei_rngN (by simp) (by decide)
  · exact ⟨xs, cell, a4, rfl, rfl, by omega⟩
  · intros; trivial
  · rintro i x l S hx' ⟨xs', cell, a4, rfl, rfl, q⟩
    obtain ⟨j, hj, rfl⟩ := map_at hx'
    have hi : i < 60 := by simpa using (List.getElem?_eq_some_iff.mp hj).1
    by_cases hc : cell = 0
    · subst hc
      refine ok_eq (a := Fl.brk [some (.rol (ns.map P.int)), some (.loc s.length), l2, some (.int 0), some (.int j), l5]) (s := s ++ [jarO y xs']) (by simp) ?_
      exact ⟨xs', _, _, rfl, rfl, by omega⟩
    · have hlen : xs'.length + 2 < SZ := by omega
      have hs : (s ++ [jarO y xs'])[s.length]? = some (jarO y xs') := at_new _ _
      unfold jarO at hs
      have hb : (cell == 0) = false := by simpa using hc
      refine ok_eq (a := Fl.nx [some (.rol (ns.map P.int)), some (.loc s.length), l2, some (.int (cell / 10253)), some (.int j), l5]) (s := s ++ [jarO y (xs' ++ [cell % 10253])]) (by simp [jarO, hb, hlen]) ?_
      exact ⟨_, _, _, rfl, rfl, by simp; omega⟩
  · rintro l S ⟨xs', cell, a4, rfl, rfl, q⟩
    exact ⟨xs', _, _, rfl, rfl, by simpa using q⟩
theorem s_jar (n : Nat) (ns : List Int) (s : S) (hn : ns.length ≤ 63) : ∃ y xs, callA pg (n + 1) 24 [.rol (ns.map P.int)] s = .ok (.loc s.length) (s ++ [jarO y xs]) ∧ xs.length ≤ 4000 := by
  have key : Ok (callA pg (n + 1) 24 [.rol (ns.map P.int)] s) fun r s' => ∃ y xs, r = .loc s.length ∧ s' = s ++ [jarO y xs] ∧ xs.length ≤ 4000 := by
    obtain ⟨M, hM⟩ : ∃ M : Int, 0 < M ∧ ∀ st, binP .shl (.int 1) (.int 2000) st = .ok (.int M) st := ⟨2 ^ 2000, Int.pow_pos (by omega), fun st => by
      have e : binP .shl (.int 1) (.int 2000) st = if (0 : Int) ≤ 2000 ∧ (2000 : Int) ≤ 1000000 ∧ (1 : Int).natAbs < 2 ^ 64 then .ok (.int (1 * 2 ^ (2000 : Int).toNat)) st else .bad := rfl
      rw [e, if_pos (by decide), Int.one_mul]
      rfl⟩
    obtain ⟨N, hN⟩ : ∃ N : Int, ∀ st, binP .pow (.int 10) (.int 18) st = .ok (.int N) st := ⟨10 ^ 18, fun st => by
      have e : binP .pow (.int 10) (.int 18) st = if (0 : Int) ≤ 18 ∧ (18 : Int) ≤ 1000000 ∧ (10 : Int).natAbs < 2 ^ 64 then .ok (.int (10 ^ (18 : Int).toNat)) st else .bad := rfl
      rw [e, if_pos (by decide)]
      rfl⟩
    obtain ⟨hM0, hM⟩ := hM
    rw [calA (b := d24) rfl]
    simp [runA, d24, b24, alloc]
    refine ok_gcn (ok_bind (ok_bind ?_))
    refine ok_for (s1 := s ++ [jarO 6653 []]) (w := ((List.range ns.length).map (fun i : Nat => P.int i), fun _ => True)) (fun i l S => ∃ y xs a2 a3 a4 a5, l = [some (.rol (ns.map P.int)), some (.loc s.length), a2, a3, a4, a5] ∧ S = s ++ [jarO y xs] ∧ xs.length ≤ 60 * i) ?_ ?_ ?_ ?_ ?_
    · exact ei_rngN (by simp [jarO]) (by unfold SZ; omega)
    · exact ⟨6653, [], _, _, _, _, rfl, rfl, by simp⟩
    · intros; trivial
    · rintro i x l S hx ⟨y, xs, a2, a3, a4, a5, rfl, rfl, q⟩
      obtain ⟨j, hj, rfl⟩ := map_at hx
      obtain ⟨hi', hj'⟩ := List.getElem?_eq_some_iff.mp hj
      have hi : i < ns.length := by simpa using hi'
      have hji : j = i := by simpa using hj'.symm
      subst hji
      have hat : atI (ns.map P.int) (j : Int) = some (.int ns[j]) := by rw [atI_nat]; simp [hi]
      have hix : ∀ m : Nat, ixN (m + 2) 1 = some 1 := fun m => by unfold ixN; rw [if_pos (by decide), if_pos (by omega)]; rfl
      have s797 : small 797 := small_of (by omega) (by omega)
      have s101 : small 101 := small_of (by omega) (by omega)
      have s7411 : small 7411 := small_of (by omega) (by omega)
      have s4507 : small 4507 := small_of (by omega) (by omega)
      have s61 : small 61 := small_of (by omega) (by omega)
      have hx2 : xs.length + 2 < SZ := by unfold SZ; omega
      simp [hat, hM, hM0, hN, jarO, s797, s101, hix, xs_cons]
      generalize (if ns[j] < 0 then -ns[j] else ns[j]) % M = cell
      generalize (y * 797 + cell + 101 * (j : Int)) % 32452843 = y'
      by_cases hc : cell < N
      · simp [hc, s7411, s4507, s61, small_mod, hx2]
        refine ⟨y', xs ++ [_], ⟨rfl, (List.map_append (f := P.int) (l₁ := xs) (l₂ := [_])).symm⟩, by simp; omega⟩
      · simp [hc]
        refine ok_bind (ok_imp (jar_in (envA pg n) s ns (some (.int j)) a5 y' xs cell a4 (by unfold SZ; omega)) ?_)
        rintro fl S ⟨xs', a3', a4', rfl, rfl, h⟩
        simp [jarO]
        exact ⟨_, _, ⟨rfl, rfl⟩, by omega⟩
    · rintro l S ⟨y, xs, a2, a3, a4, a5, rfl, rfl, q⟩
      simp at q
      simp [bnd]
      exact ⟨_, _, rfl, by omega⟩
  obtain ⟨r, s', e, y, xs, rfl, rfl, h⟩ := key
  exact ⟨y, xs, e, h⟩
end K98
namespace K98
open Pa
mutual
def nodes : P → Nat
  | .tup xs => 1 + nodesL xs
  | _ => 1
def nodesL : List P → Nat
  | [] => 0
  | x :: xs => nodes x + nodesL xs
end
theorem nodes_pos (x : P) : 1 ≤ nodes x := by cases x <;> simp [nodes]
theorem nodesL_app : ∀ a b : List P, nodesL (a ++ b) = nodesL a + nodesL b
  | [], b => by simp [nodesL]
  | x :: a, b => by show nodes x + nodesL (a ++ b) = nodes x + nodesL a + nodesL b; rw [nodesL_app a b]; omega
theorem nodesL_len : ∀ a : List P, a.length ≤ nodesL a
  | [] => Nat.le_refl _
  | x :: a => by
    have := nodesL_len a
    have h2 := nodes_pos x
    show a.length + 1 ≤ nodes x + nodesL a
    omega
def twice (x : P) : P := .tup [x, x]
theorem pures_app : ∀ a b : List P, pures? (a ++ b) = (pures? a && pures? b)
  | [], b => rfl
  | x :: a, b => by show (pure? x && pures? (a ++ b)) = (pure? x && pures? a && pures? b); rw [pures_app a b, Bool.and_assoc]
theorem ne_self (x : P) (s : S) (h : scalP x = true) : cmpP .ne x x s = .ok (.bl false) s := by
  have e : eqD s x x = some (eqS x x) := by unfold eqD; rw [h]; rfl
  unfold cmpP
  dsimp only
  rw [e]
  cases x <;> first | (cases h; done) | simp [eqS]
theorem eq_nil (a : Nat) (xs : List P) (s : S) (h : s[a]? = some (.lst xs)) : cmpP .eq (.loc a) (.loc s.length) (s ++ [.lst []]) = .ok (.bl xs.isEmpty) (s ++ [.lst []]) := by
  have h1 : (s ++ [O.lst []])[a]? = some (.lst xs) := Grow.add.at h
  unfold cmpP eqP
  dsimp only
  rw [h1, at_new]
  dsimp only
  cases xs with
  | nil =>
    rw [if_neg (by simp)]
    have e : eqD (s ++ [O.lst []]) (.loc a) (.loc s.length) = some true := by
      unfold eqD dataOf
      dsimp only
      rw [h1, at_new]
      rfl
    rw [e]
    rfl
  | cons x r =>
    rw [if_pos (by simp)]
    rfl
theorem at_same {xs : List P} {i : Nat} (h : i < xs.length) : xs[i]? = some ((xs[i]?).getD .non) := by rw [List.getElem?_eq_getElem h]; rfl
theorem same_step (n : Nat) (G : Env) (x0 : P) (a3 a4 a5 a6 : Option P) (s S : S) (r : List P) (x : P) (hS : S[s.length]? = some (.lst ((r ++ [x]).map twice))) (hp : pure? x = true) (hz : nodesL (r ++ [x]) ≤ 400000) (hg : Grow s S) :
    Ok (exsA G (.cons (.ife (.cmp .eq (.v 2) (.lst .nil)) (.cons (.ret (.bl true)) .nil) .nil) (.cons (.asg (.tup (.cons (.v 4) (.cons (.v 5) .nil))) (.m0 .pop (.v 2))) (.cons (.ife (.isN (.v 5)) (.cons (.ife (.notN (.v 4)) (.cons (.ret (.bl false)) .nil) .nil) (.cons .cnt .nil)) .nil) (.cons (.ife (.or (.isi (.v 5) .tup) (.isi (.v 5) .lst)) (.cons (.ife (.or (.and (.isi (.v 5) .tup) (.not (.isi (.v 4) .tup))) (.and (.isi (.v 5) .lst) (.not (.isi (.v 4) .lst)))) (.cons (.ret (.bl false)) .nil) .nil) (.cons (.ife (.cmp .ne (.b1 .len (.v 4)) (.b1 .len (.v 5))) (.cons (.ret (.bl false)) .nil) .nil) (.cons (.ex (.m1 .extend (.v 2) (.lc (.v 6) (.rng1 (.b1 .len (.v 5))) .nil (.tup (.cons (.ix (.v 4) (.v 6)) (.cons (.ix (.v 5) (.v 6)) .nil))) [6]))) (.cons .cnt .nil)))) .nil) (.cons (.ife (.or (.isi (.v 5) .bool) (.isi (.v 4) .bool)) (.cons (.ife (.or (.not (.isi (.v 5) .bool)) (.or (.not (.isi (.v 4) .bool)) (.cmp .ne (.v 4) (.v 5)))) (.cons (.ret (.bl false)) .nil) .nil) .nil) (.cons (.ife (.or (.and (.isi (.v 5) .int) (.not (.isi (.v 4) .int))) (.and (.isi (.v 5) .str) (.not (.isi (.v 4) .str)))) (.cons (.ret (.bl false)) .nil) (.cons (.ife (.cmp .ne (.v 4) (.v 5)) (.cons (.ret (.bl false)) .nil) .nil) .nil)) .nil)) .nil)))))
      [some x0, some x0, some (.loc s.length), a3, a4, a5, a6] S)
      fun fl S' => ∃ more, (fl = .nx [some x0, some x0, some (.loc s.length), a3, some x, some x, a6] ∨ fl = .cnt [some x0, some x0, some (.loc s.length), a3, some x, some x, a6]) ∧ Grow s S' ∧ S'[s.length]? = some (.lst ((r ++ more).map twice)) ∧ pures? more = true ∧ nodesL more + 1 = nodes x := by
  have hSl := (List.getElem?_eq_some_iff.mp hS).1
  have heq := eq_nil s.length _ S hS
  have hem : ((r ++ [x]).map twice).isEmpty = false := by simp
  rw [hem] at heq
  have h1 : (S ++ [O.lst []])[s.length]? = some (.lst ((r ++ [x]).map twice)) := Grow.add.at hS
  have hlast : ((r ++ [x]).map twice)[((r ++ [x]).map twice).length - 1]? = some (twice x) := by simp
  have hdl : ((r ++ [x]).map twice).dropLast = r.map twice := by simp
  have hpop : m0P .pop (.loc s.length) (S ++ [O.lst []]) = .ok (twice x) ((S ++ [O.lst []]).set s.length (.lst (r.map twice))) := by
    rw [u_pop, h1]
    dsimp only
    rw [hlast]
    dsimp only
    rw [hdl]
  have g2 : Grow s ((S ++ [O.lst []]).set s.length (.lst (r.map twice))) := (hg.trans Grow.add).set (Nat.le_refl _)
  have h2 : ((S ++ [O.lst []]).set s.length (.lst (r.map twice)))[s.length]? = some (.lst (r.map twice)) := List.getElem?_set_self (by rw [List.length_append]; omega)
  generalize (S ++ [O.lst []]).set s.length (.lst (r.map twice)) = S2 at hpop g2 h2
  have hrun : ∀ Q, Ok (exsA G (.cons (.ife (.isN (.v 5)) (.cons (.ife (.notN (.v 4)) (.cons (.ret (.bl false)) .nil) .nil) (.cons .cnt .nil)) .nil) (.cons (.ife (.or (.isi (.v 5) .tup) (.isi (.v 5) .lst)) (.cons (.ife (.or (.and (.isi (.v 5) .tup) (.not (.isi (.v 4) .tup))) (.and (.isi (.v 5) .lst) (.not (.isi (.v 4) .lst)))) (.cons (.ret (.bl false)) .nil) .nil) (.cons (.ife (.cmp .ne (.b1 .len (.v 4)) (.b1 .len (.v 5))) (.cons (.ret (.bl false)) .nil) .nil) (.cons (.ex (.m1 .extend (.v 2) (.lc (.v 6) (.rng1 (.b1 .len (.v 5))) .nil (.tup (.cons (.ix (.v 4) (.v 6)) (.cons (.ix (.v 5) (.v 6)) .nil))) [6]))) (.cons .cnt .nil)))) .nil) (.cons (.ife (.or (.isi (.v 5) .bool) (.isi (.v 4) .bool)) (.cons (.ife (.or (.not (.isi (.v 5) .bool)) (.or (.not (.isi (.v 4) .bool)) (.cmp .ne (.v 4) (.v 5)))) (.cons (.ret (.bl false)) .nil) .nil) .nil) (.cons (.ife (.or (.and (.isi (.v 5) .int) (.not (.isi (.v 4) .int))) (.and (.isi (.v 5) .str) (.not (.isi (.v 4) .str)))) (.cons (.ret (.bl false)) .nil) (.cons (.ife (.cmp .ne (.v 4) (.v 5)) (.cons (.ret (.bl false)) .nil) .nil) .nil)) .nil)) .nil)))
      [some x0, some x0, some (.loc s.length), a3, some x, some x, a6] S2) Q → Ok (exsA G (.cons (.ife (.cmp .eq (.v 2) (.lst .nil)) (.cons (.ret (.bl true)) .nil) .nil) (.cons (.asg (.tup (.cons (.v 4) (.cons (.v 5) .nil))) (.m0 .pop (.v 2))) (.cons (.ife (.isN (.v 5)) (.cons (.ife (.notN (.v 4)) (.cons (.ret (.bl false)) .nil) .nil) (.cons .cnt .nil)) .nil) (.cons (.ife (.or (.isi (.v 5) .tup) (.isi (.v 5) .lst)) (.cons (.ife (.or (.and (.isi (.v 5) .tup) (.not (.isi (.v 4) .tup))) (.and (.isi (.v 5) .lst) (.not (.isi (.v 4) .lst)))) (.cons (.ret (.bl false)) .nil) .nil) (.cons (.ife (.cmp .ne (.b1 .len (.v 4)) (.b1 .len (.v 5))) (.cons (.ret (.bl false)) .nil) .nil) (.cons (.ex (.m1 .extend (.v 2) (.lc (.v 6) (.rng1 (.b1 .len (.v 5))) .nil (.tup (.cons (.ix (.v 4) (.v 6)) (.cons (.ix (.v 5) (.v 6)) .nil))) [6]))) (.cons .cnt .nil)))) .nil) (.cons (.ife (.or (.isi (.v 5) .bool) (.isi (.v 4) .bool)) (.cons (.ife (.or (.not (.isi (.v 5) .bool)) (.or (.not (.isi (.v 4) .bool)) (.cmp .ne (.v 4) (.v 5)))) (.cons (.ret (.bl false)) .nil) .nil) .nil) (.cons (.ife (.or (.and (.isi (.v 5) .int) (.not (.isi (.v 4) .int))) (.and (.isi (.v 5) .str) (.not (.isi (.v 4) .str)))) (.cons (.ret (.bl false)) .nil) (.cons (.ife (.cmp .ne (.v 4) (.v 5)) (.cons (.ret (.bl false)) .nil) .nil) .nil)) .nil)) .nil)))))
      [some x0, some x0, some (.loc s.length), a3, a4, a5, a6] S) Q := by
    intro Q h
    rw [xs_cons, x_ife, cond_eq, e_cmp, e_v]
    have e1 : evA G (.lst .nil) [some x0, some x0, some (.loc s.length), a3, a4, a5, a6] S = .ok (.loc S.length) (S ++ [.lst []]) := by simp [alloc]
    simp only [List.getElem?_cons_succ, List.getElem?_cons_zero, bind_ok, e1, heq, t_bl, ofO_some, xs_nil]
    rw [if_neg (by simp), bind_ok]
    dsimp only
    rw [xs_cons, x_asg, e_m0, e_v]
    simp only [List.getElem?_cons_succ, List.getElem?_cons_zero, bind_ok, hpop]
    have e2 : bindT (.tup (.cons (.v 4) (.cons (.v 5) .nil))) (twice x) [some x0, some x0, some (.loc s.length), a3, a4, a5, a6] = some [some x0, some x0, some (.loc s.length), a3, some x, some x, a6] := by
      simp [twice]
    simp only [e2, ofO_some, bind_ok]
    exact h
  apply hrun
  have hne := fun st => ne_self x st
  cases x with
  | rol xs => cases hp
  | loc k => cases hp
  | non =>
    refine ok_eq (a := Fl.cnt [some x0, some x0, some (.loc s.length), a3, some .non, some .non, a6]) (s := S2) (by simp) ?_
    exact ⟨[], .inr rfl, g2, by simpa using h2, rfl, rfl⟩
  | bl b =>
    refine ok_eq (a := Fl.nx [some x0, some x0, some (.loc s.length), a3, some (.bl b), some (.bl b), a6]) (s := S2) (by simp [isiP, hne _ rfl]) ?_
    exact ⟨[], .inl rfl, g2, by simpa using h2, rfl, rfl⟩
  | int b =>
    refine ok_eq (a := Fl.nx [some x0, some x0, some (.loc s.length), a3, some (.int b), some (.int b), a6]) (s := S2) (by simp [isiP]) ?_
    exact ⟨[], .inl rfl, g2, by simpa using h2, rfl, rfl⟩
  | str b =>
    refine ok_eq (a := Fl.nx [some x0, some x0, some (.loc s.length), a3, some (.str b), some (.str b), a6]) (s := S2) (by simp [isiP, hne _ rfl]) ?_
    exact ⟨[], .inl rfl, g2, by simpa using h2, rfl, rfl⟩
  | tup xs =>
    have hxl := nodesL_len xs
    have hrl := nodesL_len r
    rw [nodesL_app] at hz
    have hz' : nodesL r + (1 + nodesL xs + 0) ≤ 400000 := hz
    have hlc : evA G (.lc (.v 6) (.rng1 (.b1 .len (.v 5))) .nil (.tup (.cons (.ix (.v 4) (.v 6)) (.cons (.ix (.v 5) (.v 6)) .nil))) [6]) [some x0, some x0, some (.loc s.length), a3, some (.tup xs), some (.tup xs), a6] S2 = .ok (.loc S2.length) (S2 ++ [.lst (xs.map twice)]) := by
      have hk : Ok (evA G (.lc (.v 6) (.rng1 (.b1 .len (.v 5))) .nil (.tup (.cons (.ix (.v 4) (.v 6)) (.cons (.ix (.v 5) (.v 6)) .nil))) [6]) [some x0, some x0, some (.loc s.length), a3, some (.tup xs), some (.tup xs), a6] S2) fun p s' => p = .loc S2.length ∧ s' = S2 ++ [.lst (xs.map twice)] := by
        refine ok_lcm (s1 := S2) (gd := fun _ => True) (List.range xs.length) (fun i : Nat => P.int i) (fun i => twice ((xs[i]?).getD .non)) ?_ trivial ?_ ?_ ⟨rfl, ?_⟩
        · exact ei_rngN (by simp) (by unfold SZ; omega)
        · intro i hi
          have hi' : i < xs.length := by simpa using hi
          simp [wipe, atI_nat, hi', twice]
        · simp; unfold SZ; omega
        · have e3 : (List.range xs.length).map (fun i => twice ((xs[i]?).getD .non)) = xs.map twice := by
            apply List.ext_getElem (by simp)
            intro i h3 h4
            simp at h3
            simp [h3]
          rw [e3]
      obtain ⟨p, s', e, rfl, rfl⟩ := hk
      exact e
    have h3 : (S2 ++ [O.lst (xs.map twice)])[s.length]? = some (.lst (r.map twice)) := Grow.add.at h2
    have h3l := (List.getElem?_eq_some_iff.mp h3).1
    have h4 : r.length + xs.length ≤ SZ := by unfold SZ; omega
    refine ok_eq (a := Fl.cnt [some x0, some x0, some (.loc s.length), a3, some (.tup xs), some (.tup xs), a6]) (s := (S2 ++ [O.lst (xs.map twice)]).set s.length (O.lst ((r ++ xs).map twice))) ?_ ?_
    · simp [isiP, h2, hlc, h3, h4]
    · refine ⟨xs, .inr rfl, (g2.trans Grow.add).set (Nat.le_refl _), List.getElem?_set_self h3l, hp, ?_⟩
      simp [nodes]
      omega
theorem s_same (n : Nat) (x : P) (s : S) (hp : pure? x = true) (hz : nodes x < 399990) : callA pg (n + 1) 26 [x, x] s = .ok (.bl true) s := by
  have key : Ok (callA pg (n + 1) 26 [x, x] s) fun r s' => r = .bl true ∧ s' = s := by
    rw [calA (b := d26) rfl, runA_ok ⟨rfl, by decide⟩]
    have e0 : P.tup [x, x] = twice x := rfl
    simp only [d26, b26]
    refine ok_gc ?_
    rw [xs_cons]
    have e1 : exA (envA pg n) (.asg (.v 2) (.lst (.cons (.tup (.cons (.v 0) (.cons (.v 1) .nil))) .nil))) (List.map some [x, x] ++ List.replicate (7 - [x, x].length) none) s = .ok (.nx [some x, some x, some (.loc s.length), none, none, none, none]) (s ++ [.lst [twice x]]) := by
      simp [alloc, twice]
    rw [e1, bind_ok]
    dsimp only
    rw [xs_cons]
    refine ok_bind (ok_bind ?_)
    obtain ⟨N, hN⟩ : ∃ N : Nat, N = 400000 := ⟨_, rfl⟩
    refine ok_for (s1 := s ++ [.lst [twice x]]) (w := ((List.range N).map (fun i : Nat => P.int i), fun _ => True)) (fun i l S => ∃ stk a3 a4 a5 a6, l = [some x, some x, some (.loc s.length), a3, a4, a5, a6] ∧ Grow s S ∧ S[s.length]? = some (.lst (stk.map twice)) ∧ pures? stk = true ∧ i + nodesL stk ≤ nodes x) ?_ ?_ ?_ ?_ ?_
    · exact ei_rngN (by rw [hN]; simp) (by rw [hN]; unfold SZ; omega)
    · refine ⟨[x], none, none, none, none, rfl, Grow.add, by simp, by simp [pures?, hp], by simp [nodesL]⟩
    · intros; trivial
    · rintro i y l S hy ⟨stk, a3, a4, a5, a6, rfl, q1, q2, q3, q4⟩
      obtain ⟨j, hj, rfl⟩ := map_at hy
      have e2 : bindT (.v 3) (.int j) [some x, some x, some (.loc s.length), a3, a4, a5, a6] = some [some x, some x, some (.loc s.length), some (.int j), a4, a5, a6] := by simp
      rw [e2, ofO_some, bind_ok]
      rcases List.eq_nil_or_concat stk with rfl | ⟨r, z, rfl⟩
      · have heq := eq_nil s.length _ S q2
        refine ok_eq (a := Fl.ret (.bl true)) (s := S ++ [.lst []]) ?_ ?_
        · rw [xs_cons, x_ife, cond_eq, e_cmp, e_v]
          have e1 : evA (envA pg n) (.lst .nil) [some x, some x, some (.loc s.length), some (.int j), a4, a5, a6] S = .ok (.loc S.length) (S ++ [.lst []]) := by simp [alloc]
          simp only [List.getElem?_cons_succ, List.getElem?_cons_zero, bind_ok, e1, heq, t_bl, ofO_some, xs_nil, List.map_nil, List.isEmpty_nil]
          simp
        · exact ok_eq rfl (ok_eq rfl ⟨rfl, q1.trans Grow.add, rfl, rfl⟩)
      · have q2' := q2
        rw [List.concat_eq_append] at q2' q3 q4
        rw [pures_app, Bool.and_eq_true] at q3
        have hpz : pure? z = true := by simpa [pures?] using q3.2
        refine ok_imp (same_step n (envA pg n) x (some (.int j)) a4 a5 a6 s S r z q2' hpz (by omega) q1) ?_
        rintro fl S' ⟨more, hfl, r1, r2, r3, r4⟩
        have hfin : i + 1 + nodesL (r ++ more) ≤ nodes x := by
          rw [nodesL_app] at q4 ⊢
          have : nodesL [z] = nodes z := by simp [nodesL]
          omega
        rcases hfl with rfl | rfl
        · exact ⟨_, _, _, _, _, rfl, r1, r2, by rw [pures_app, q3.1, r3]; rfl, hfin⟩
        · exact ⟨_, _, _, _, _, rfl, r1, r2, by rw [pures_app, q3.1, r3]; rfl, hfin⟩
    · rintro l S ⟨stk, a3, a4, a5, a6, rfl, q1, q2, q3, q4⟩
      simp at q4
      omega
  obtain ⟨r, s', e, rfl, rfl⟩ := key
  exact e
end K98
namespace K98
open Pa
open PySem (PyData)
theorem s_drw (n : Nat) (j : Nat) (many : Int) (s : S) (h : Jar j s) (hm : 0 < many) : Ok (callA pg (n + 1) 25 [.loc j, .int many] s) fun r s' => Jm j s s' ∧ ∃ v : Int, 0 ≤ v ∧ v < many ∧ r = .int v := by
  obtain ⟨t, y, xs, h0, hx⟩ := h
  obtain ⟨v, h1, h2, e⟩ := s_draw n j t y xs many s hx h0 hm
  have hj := (List.getElem?_eq_some_iff.mp hx).1
  refine ⟨_, _, e, ⟨⟨by simp, ⟨t + 1, y, xs, by omega, List.getElem?_set_self hj⟩, fun i hi hij => List.getElem?_set_ne (Ne.symm hij)⟩, by simp⟩, v, h1, h2, rfl⟩
theorem pd_iP (l : List Int) : pd (iP l) = .tuple (l.map PyData.int) := by
  show PyData.tuple (pds (l.map P.int)) = _
  rw [pds_ints]
theorem lay_ints : ∀ l : List Int, PyData.canLayAll0 (l.map PyData.int) = true
  | [] => rfl
  | a :: l => by show (true && PyData.canLayAll0 (l.map PyData.int)) = true; rw [lay_ints l]; rfl
theorem lay_iPs : ∀ ls : List (List Int), PyData.canLayAll0 (pds (ls.map iP)) = true ∧ PyData.depthAll (pds (ls.map iP)) ≤ 1
  | [] => ⟨rfl, by simp [pds, PyData.depthAll]⟩
  | a :: ls => by
    obtain ⟨h1, h2⟩ := lay_iPs ls
    have e : pds ((a :: ls).map iP) = .tuple (a.map PyData.int) :: pds (ls.map iP) := by show pd (iP a) :: pds (ls.map iP) = _; rw [pd_iP]
    rw [e]
    refine ⟨?_, ?_⟩
    · show (PyData.canLayAll0 (a.map PyData.int) && PyData.canLayAll0 (pds (ls.map iP))) = true
      rw [lay_ints, h1]; rfl
    · simp [PyData.depthAll, PyData.depth, PySem.W.depth_ints]
      omega
theorem shaped_iPs (ls : List (List Int)) : PySem.SeqAt.shaped (.list (pds (ls.map iP))) = true := by
  obtain ⟨h1, h2⟩ := lay_iPs ls
  unfold PySem.SeqAt.shaped
  have e : (PyData.list (pds (ls.map iP))).canLay0 = true := h1
  rw [e]
  have : (PyData.list (pds (ls.map iP))).depth ≤ 64 := by
    simp [PyData.depth]
    omega
  simpa using this
theorem pure_iP (l : List Int) : pure? (iP l) = true := pures_map (fun a => rfl) l
theorem sort_iP (d : List (List Int)) (hd : ∀ x ∈ d, x ≠ []) : ∃ L : List (List Int), sortP (d.map iP) = some (L.map iP) ∧ L.Perm d := by
  have hs : ∃ ys, sortP (d.map iP) = some ys := by
    unfold sortP
    rw [if_pos]
    · exact ⟨_, rfl⟩
    · refine ⟨pures_map pure_iP d, ?_, .inl ?_, ?_⟩
      · rw [List.map_map]
        refine PySem.W.AllAlike.of fun a b => ?_
        show PySem.W.alike (pd (iP a)) (pd (iP b)) = true
        rw [pd_iP, pd_iP]
        simp [PySem.W.alike, PySem.W.alike_ints]
      · refine .inl fun y hy => ?_
        rw [List.map_map] at hy
        obtain ⟨a, ha, rfl⟩ := List.mem_map.mp hy
        show ∃ x r, pd (iP a) = .tuple (x :: r)
        rw [pd_iP]
        cases a with
        | nil => exact absurd rfl (hd _ ha)
        | cons x r => exact ⟨_, _, rfl⟩
      · intro x hx
        obtain ⟨a, _, rfl⟩ := List.mem_map.mp hx
        rw [pd_iP]
        simp [PyData.depth, PySem.W.depth_ints]
  obtain ⟨ys, hy⟩ := hs
  obtain ⟨h1, h2⟩ := sortP_perm hy
  obtain ⟨L, p1, rfl⟩ := perm_map_inv h1 d rfl
  exact ⟨L, hy, p1⟩
def tL (t : Term) : List Int := [t.1, t.2.1, t.2.2]
theorem tP_iP (t : Term) : tP t = iP (tL t) := rfl
theorem tmap (l : List Term) : l.map tP = (l.map tL).map iP := by rw [List.map_map]; rfl
/-- a claim as the law makes it -/
structure Fit (persons : Int) (c : Cl) : Prop where
  ne : c.ts ≠ []
  len : c.ts.length ≤ 4
  p0 : 0 ≤ c.p
  p1 : c.p < persons
  ts : ∀ t ∈ c.ts, 0 ≤ t.1 ∧ t.1 < persons ∧ 0 ≤ t.2.1 ∧ t.2.1 ≤ 3
def sel (o w : Int) (ts : List Term) : List Term := ts.filter fun t => t.1 == o && t.2.1 == w
/-- the terms with this person and this without; != [] -/
theorem claim_cmp (G : Env) (a : Nat) (ts : List Term) (o w : Int) (l0 l1 l3 l4 l7 l8 : Option P) (s : S) (ha : s[a]? = some (.lst (ts.map tP))) (hl : ts.length ≤ 1000) :
    evA G (.cmp .ne (.lc (.v 8) (.ex (.v 2)) (.cons (.and (.cmp .eq (.ix (.v 8) (.int 0)) (.v 5)) (.cmp .eq (.ix (.v 8) (.int 1)) (.v 6))) .nil) (.v 8) [8]) (.lst .nil)) [l0, l1, some (.loc a), l3, l4, some (.int o), some (.int w), l7, l8] s
      = .ok (.bl !(sel o w ts).isEmpty) (s ++ [.lst ((sel o w ts).map tP), .lst []]) := by
  have hlc : evA G (.lc (.v 8) (.ex (.v 2)) (.cons (.and (.cmp .eq (.ix (.v 8) (.int 0)) (.v 5)) (.cmp .eq (.ix (.v 8) (.int 1)) (.v 6))) .nil) (.v 8) [8]) [l0, l1, some (.loc a), l3, l4, some (.int o), some (.int w), l7, l8] s = .ok (.loc s.length) (s ++ [.lst ((sel o w ts).map tP)]) := by
    have hk : Ok (evA G (.lc (.v 8) (.ex (.v 2)) (.cons (.and (.cmp .eq (.ix (.v 8) (.int 0)) (.v 5)) (.cmp .eq (.ix (.v 8) (.int 1)) (.v 6))) .nil) (.v 8) [8]) [l0, l1, some (.loc a), l3, l4, some (.int o), some (.int w), l7, l8] s) fun r s' => r = .loc s.length ∧ s' = s ++ [.lst ((sel o w ts).map tP)] := by
      refine ok_lcf (s1 := s) (gd := stays (.loc a) s) ts tP (fun t => if (t.1 == o && t.2.1 == w) = true then some (tP t) else none) ?_ rfl ?_ (by unfold SZ; omega) ⟨rfl, ?_⟩
      · simp [ha]
      · intro t _
        by_cases h1 : t.1 = o
        · by_cases h2 : t.2.1 = w
          · simp [tP, wipe, h1, h2]
          · simp [tP, wipe, h1, h2]
        · simp [tP, wipe, h1]
      · have e : ts.filterMap (fun t => if (t.1 == o && t.2.1 == w) = true then some (tP t) else none) = (sel o w ts).map tP := by
          exact filterMap_if (fun t => t.1 == o && t.2.1 == w) tP ts
        rw [e]
    obtain ⟨r, s', e, rfl, rfl⟩ := hk
    exact e
  have h1 : (s ++ [O.lst ((sel o w ts).map tP), O.lst []])[s.length]? = some (.lst ((sel o w ts).map tP)) := by simp
  have h2 : (s ++ [O.lst ((sel o w ts).map tP), O.lst []])[s.length + 1]? = some (.lst []) := by simp
  have hne := ne_nil s.length (s.length + 1) _ _ h1 h2 (by rw [tmap]; exact pures_map pure_iP _) (by rw [tmap]; exact shaped_iPs _)
  have hi : ((sel o w ts).map tP).isEmpty = (sel o w ts).isEmpty := by cases sel o w ts <;> rfl
  rw [hi] at hne
  rw [e_cmp, hlc, bind_ok, e_lst, es_nil, bind_ok]
  simp only [alloc, bind_ok, List.length_append, List.length_cons, List.length_nil, List.append_assoc, List.cons_append, List.nil_append]
  exact hne
end K98
namespace K98
open Pa
theorem claim_head (n j a : Nat) (persons left : Int) (ts : List Term) (a4 a5 a6 a7 : Option P) (rest : Sms) (S : S) (Q : Fl → Pa.S → Prop) (hJ : Jar j S) (ha : S[a]? = some (.lst (ts.map tP))) (hne : a ≠ j) (hl : ts.length ≤ 1000) (hp : 0 < persons)
    (k : ∀ (o w : Int) (S' : Pa.S), 0 ≤ o → o < persons → 0 ≤ w → w ≤ 3 → Jg j S S' → S'[a]? = some (.lst (ts.map tP)) → Ok (exsA (envA pg (n + 1)) rest [some (.loc j), some (.int persons), some (.loc a), some (.int left), a4, some (.int o), some (.int w), a7, none] S') Q) :
    Ok (exsA (envA pg (n + 1)) (.cons (.asg (.v 5) (.call 25 (.cons (.v 0) (.cons (.v 1) .nil)))) (.cons (.asg (.v 6) (.call 25 (.cons (.v 0) (.cons (.int 4) .nil)))) (.cons (.ife (.or (.cmp .ge (.v 6) (.v 3)) (.cmp .ne (.lc (.v 8) (.ex (.v 2)) (.cons (.and (.cmp .eq (.ix (.v 8) (.int 0)) (.v 5)) (.cmp .eq (.ix (.v 8) (.int 1)) (.v 6))) .nil) (.v 8) [8]) (.lst .nil))) (.cons (.asg (.v 6) (.int 0)) .nil) .nil) rest)))
      [some (.loc j), some (.int persons), some (.loc a), some (.int left), a4, a5, a6, a7, none] S) Q := by
  obtain ⟨r1, S1, e1, m1, o, o0, o1, rfl⟩ := s_drw n j persons S hJ hp
  obtain ⟨r2, S2, e2, m2, w, w0, w1, rfl⟩ := s_drw n j 4 S1 m1.jar (by omega)
  have ha2 := m2.at hne (m1.at hne ha)
  have hg2 : Jg j S S2 := m1.toJg.trans m2.toJg
  have hc := claim_cmp (envA pg (n + 1)) a ts o w (some (.loc j)) (some (.int persons)) (some (.int left)) a4 a7 none S2 ha2 hl
  rw [xs_cons]
  refine ok_bind (ok_eq (a := Fl.nx [some (.loc j), some (.int persons), some (.loc a), some (.int left), a4, some (.int o), a6, a7, none]) (s := S1) (by simp [e1]) ?_)
  dsimp only
  rw [xs_cons]
  refine ok_bind (ok_eq (a := Fl.nx [some (.loc j), some (.int persons), some (.loc a), some (.int left), a4, some (.int o), some (.int w), a7, none]) (s := S2) (by simp [e2]) ?_)
  dsimp only
  rw [xs_cons]
  by_cases hw : left ≤ w
  · refine ok_bind (ok_eq (a := Fl.nx [some (.loc j), some (.int persons), some (.loc a), some (.int left), a4, some (.int o), some (.int 0), a7, none]) (s := S2) (by simp [hw]) ?_)
    exact k o 0 S2 o0 o1 (by omega) (by omega) hg2 ha2
  · by_cases hs : (sel o w ts).isEmpty = true
    · rw [hs] at hc
      refine ok_bind (ok_eq (a := Fl.nx [some (.loc j), some (.int persons), some (.loc a), some (.int left), a4, some (.int o), some (.int w), a7, none]) (s := S2 ++ [.lst ((sel o w ts).map tP), .lst []]) ?_ ?_)
      · rw [x_ife, cond_eq, e_or]
        simp [hw]
        simp at hc
        simp [hc]
      · exact k o w _ o0 o1 w0 (by omega) (hg2.add _) (Grow.add.at ha2)
    · have hs' : (sel o w ts).isEmpty = false := by simpa using hs
      rw [hs'] at hc
      refine ok_bind (ok_eq (a := Fl.nx [some (.loc j), some (.int persons), some (.loc a), some (.int left), a4, some (.int o), some (.int 0), a7, none]) (s := S2 ++ [.lst ((sel o w ts).map tP), .lst []]) ?_ ?_)
      · rw [x_ife, cond_eq, e_or]
        simp [hw]
        simp at hc
        simp [hc]
      · exact k o 0 _ o0 o1 (by omega) (by omega) (hg2.add _) (Grow.add.at ha2)
theorem claim_tail (n j a : Nat) (persons left o w : Int) (ts : List Term) (a4 a7 : Option P) (S : S) (Q : Fl → Pa.S → Prop) (hJ : Jar j S) (ha : S[a]? = some (.lst (ts.map tP))) (hne : a ≠ j) (hl : ts.length ≤ 1000) (hw : 0 ≤ w) (hw2 : w ≤ 3)
    (k : ∀ (left' m : Int) (a7 : Option P) (S' : Pa.S), Jar j S' → S'.length ≥ S.length → (∀ i, i < S.length → i ≠ j → i ≠ a → S'[i]? = S[i]?) → S'[a]? = some (.lst ((ts ++ [(o, w, m)]).map tP)) → Q (.nx [some (.loc j), some (.int persons), some (.loc a), some (.int left'), a4, some (.int o), some (.int w), a7, none]) S') :
    Ok (exsA (envA pg (n + 1)) (.cons (.asg (.v 3) (.bin .fdiv (.v 3) (.bin .add (.v 6) (.int 1)))) (.cons (.asg (.v 7) (.bin .add (.int 1) (.call 25 (.cons (.v 0) (.cons (.ix (.lst (.cons (.int 3) (.cons (.int 3) (.cons (.int 99) .nil)))) (.call 25 (.cons (.v 0) (.cons (.int 3) .nil)))) .nil))))) (.cons (.ex (.m1 .append (.v 2) (.tup (.cons (.v 5) (.cons (.v 6) (.cons (.ix (.lst (.cons (.v 7) (.cons (.bin .sub (.int 0) (.v 7)) .nil))) (.call 25 (.cons (.v 0) (.cons (.int 2) .nil)))) .nil)))))) .nil)))
      [some (.loc j), some (.int persons), some (.loc a), some (.int left), a4, some (.int o), some (.int w), a7, none] S) Q := by
  have hal := (List.getElem?_eq_some_iff.mp ha).1
  obtain ⟨r1, S1, e1, m1, v, v0, v1, rfl⟩ := s_drw n j 3 (S ++ [.lst [.int 3, .int 3, .int 99]]) (hJ.grow Grow.add) (by omega)
  have hjl := hJ.lt
  have hn1 : S1[S.length]? = some (.lst [.int 3, .int 3, .int 99]) := m1.at (by omega) (at_new _ _)
  obtain ⟨x, hx, hat⟩ := atI_in (xs := [P.int 3, .int 3, .int 99]) v0 (by simpa using v1)
  have hx' : ∃ q : Int, 0 < q ∧ x = .int q := by
    simp at hx
    rcases hx with rfl | rfl
    · exact ⟨3, by omega, rfl⟩
    · exact ⟨99, by omega, rfl⟩
  obtain ⟨q, q0, rfl⟩ := hx'
  obtain ⟨r2, S2, e2, m2, u, u0, u1, rfl⟩ := s_drw n j q S1 m1.jar q0
  obtain ⟨r3, S3, e3, m3, b, b0, b1, rfl⟩ := s_drw n j 2 (S2 ++ [.lst [.int (1 + u), .int (0 - (1 + u))]]) (m2.jar.grow Grow.add) (by omega)
  have hl1 : S1.length = S.length + 1 := by rw [m1.same]; simp
  have hl2 : S2.length = S1.length := m2.same
  have hl3 : S3.length = S2.length + 1 := by rw [m3.same]; simp
  have hn3 : S3[S2.length]? = some (.lst [.int (1 + u), .int (0 - (1 + u))]) := m3.at (by omega) (at_new _ _)
  obtain ⟨z, hz, hat2⟩ := atI_in (xs := [P.int (1 + u), .int (0 - (1 + u))]) b0 (by simpa using b1)
  have hz' : ∃ m : Int, z = .int m := by
    simp only [List.mem_cons, List.not_mem_nil, or_false] at hz
    rcases hz with rfl | rfl <;> exact ⟨_, rfl⟩
  obtain ⟨m, rfl⟩ := hz'
  have ha1 : S1[a]? = some (.lst (ts.map tP)) := m1.at hne (Grow.add.at ha)
  have ha2 : S2[a]? = some (.lst (ts.map tP)) := m2.at hne ha1
  have ha3 : S3[a]? = some (.lst (ts.map tP)) := m3.at hne (Grow.add.at ha2)
  have hz : ts.length < SZ := by unfold SZ; omega
  have hd : 0 < w + 1 ∧ w + 1 < 1073741824 := by omega
  have hda : (S2 ++ [O.lst [P.int (1 + u), .int (0 - (1 + u))]])[a]? = some (.lst (ts.map tP)) := Grow.add.at ha2
  refine ok_eq (a := Fl.nx [some (.loc j), some (.int persons), some (.loc a), some (.int (left / (w + 1))), a4, some (.int o), some (.int w), some (.int (1 + u)), none]) (s := S3.set a (.lst ((ts ++ [(o, w, m)]).map tP))) ?_ (k (left / (w + 1)) m (some (.int (1 + u))) (S3.set a (.lst ((ts ++ [(o, w, m)]).map tP))) ?_ ?_ ?_ ?_)
  · rw [xs_cons, x_asg]
    have f1 : evA (envA pg (n + 1)) (.bin .fdiv (.v 3) (.bin .add (.v 6) (.int 1))) [some (.loc j), some (.int persons), some (.loc a), some (.int left), a4, some (.int o), some (.int w), a7, none] S = .ok (.int (left / (w + 1))) S := by simp [hd]
    rw [f1, bind_ok, bt_v, if_pos (by simp), ofO_some, bind_ok, bind_ok]
    dsimp only
    rw [xs_cons, x_asg]
    have f2 : evA (envA pg (n + 1)) (.bin .add (.int 1) (.call 25 (.cons (.v 0) (.cons (.ix (.lst (.cons (.int 3) (.cons (.int 3) (.cons (.int 99) .nil)))) (.call 25 (.cons (.v 0) (.cons (.int 3) .nil)))) .nil)))) [some (.loc j), some (.int persons), some (.loc a), some (.int (left / (w + 1))), a4, some (.int o), some (.int w), a7, none] S = .ok (.int (1 + u)) S2 := by
      simp [alloc, e1, hn1, hat, e2]
    have el : List.set [some (.loc j), some (.int persons), some (.loc a), some (.int left), a4, some (.int o), some (.int w), a7, none] 3 (some (.int (left / (w + 1)))) = [some (.loc j), some (.int persons), some (.loc a), some (.int (left / (w + 1))), a4, some (.int o), some (.int w), a7, none] := rfl
    rw [el, f2, bind_ok, bt_v, if_pos (by simp), ofO_some, bind_ok, bind_ok]
    have el2 : List.set [some (.loc j), some (.int persons), some (.loc a), some (.int (left / (w + 1))), a4, some (.int o), some (.int w), a7, none] 7 (some (.int (1 + u))) = [some (.loc j), some (.int persons), some (.loc a), some (.int (left / (w + 1))), a4, some (.int o), some (.int w), some (.int (1 + u)), none] := rfl
    rw [el2]
    dsimp only
    have f3 : evA (envA pg (n + 1)) (.tup (.cons (.v 5) (.cons (.v 6) (.cons (.ix (.lst (.cons (.v 7) (.cons (.bin .sub (.int 0) (.v 7)) .nil))) (.call 25 (.cons (.v 0) (.cons (.int 2) .nil)))) .nil)))) [some (.loc j), some (.int persons), some (.loc a), some (.int (left / (w + 1))), a4, some (.int o), some (.int w), some (.int (1 + u)), none] S2 = .ok (tP (o, w, m)) S3 := by
      simp only [e_tup, es_cons, es_nil, e_v, e_ix, e_lst, e_bin, e_int, e_call, o_sub, bind_ok, List.getElem?_cons_succ, List.getElem?_cons_zero, alloc, envA_cal, e3, u_ixI, hn3, hat2, ofO_some]
      rfl
    rw [xs_cons, x_ex, e_m1, e_v]
    simp only [List.getElem?_cons_succ, List.getElem?_cons_zero, bind_ok, f3, u_k1a, u_isL, ha2, u_app, ha3, List.length_map, if_pos hz, if_true, xs_nil, List.map_append, List.map_cons, List.map_nil]
  · obtain ⟨t, y, xs, t0, h⟩ := m3.jar
    exact ⟨t, y, xs, t0, by rw [List.getElem?_set_ne hne]; exact h⟩
  · rw [List.length_set]; omega
  · intro i hi hij hia
    rw [List.getElem?_set_ne (Ne.symm hia), m3.old i (by rw [List.length_append]; omega) hij, List.getElem?_append_left (by omega), m2.old i (by omega) hij, m1.old i (by rw [List.length_append]; omega) hij, List.getElem?_append_left hi]
  · exact List.getElem?_set_self (by omega)
end K98
namespace K98
open Pa
def GoodT (persons : Int) (t : Term) : Prop := 0 ≤ t.1 ∧ t.1 < persons ∧ 0 ≤ t.2.1 ∧ t.2.1 ≤ 3
theorem tL_inj {a b : Term} (h : tL a = tL b) : a = b := by
  unfold tL at h
  simp at h
  exact Prod.ext h.1 (Prod.ext h.2.1 h.2.2)
theorem sort_terms (ts : List Term) : ∃ L : List Term, sortP (ts.map tP) = some (L.map tP) ∧ L.Perm ts := by
  obtain ⟨M, h1, h2⟩ := sort_iP (ts.map tL) (fun x hx => by
    obtain ⟨t, _, rfl⟩ := List.mem_map.mp hx
    simp [tL])
  obtain ⟨L, p1, rfl⟩ := perm_map_inv h2 ts rfl
  exact ⟨L, by rw [tmap, h1, tmap], p1⟩
theorem s_law_claim (n j : Nat) (persons : Int) (s : S) (hJ : Jar j s) (hp : 0 < persons) : Ok (callA pg (n + 2) 27 [.loc j, .int persons] s) fun r s' => Jm j s s' ∧ ∃ c, r = cP c ∧ Fit persons c := by
  have hj := hJ.lt
  obtain ⟨r1, S1, e1, m1, z, z0, z1, rfl⟩ := s_drw n j 4 (s ++ [.lst []]) (hJ.grow Grow.add) (by omega)
  have hl1 : S1.length = s.length + 1 := by rw [m1.same]; simp
  have hv : S1[s.length]? = some (.lst []) := m1.at (by omega) (at_new _ _)
  have g1 : Jg j s S1 := (Jg.of_grow hJ Grow.add).trans m1.toJg
  obtain ⟨N, hN⟩ : ∃ N : Nat, (1 : Int) + z = N := ⟨(1 + z).toNat, by omega⟩
  rw [calA (b := d27) rfl, runA_ok ⟨rfl, by decide⟩]
  simp only [d27, b27]
  refine ok_gcj hj ?_
  rw [xs_cons]
  have q1 : exA (envA pg (n + 1)) (.asg (.v 2) (.lst .nil)) (List.map some [P.loc j, P.int persons] ++ List.replicate (9 - [P.loc j, P.int persons].length) none) s = .ok (.nx [some (.loc j), some (.int persons), some (.loc s.length), none, none, none, none, none, none]) (s ++ [.lst []]) := by simp [alloc]
  rw [q1, bind_ok]
  dsimp only
  rw [xs_cons]
  have q2 : exA (envA pg (n + 1)) (.asg (.v 3) (.int 64)) [some (.loc j), some (.int persons), some (.loc s.length), none, none, none, none, none, none] (s ++ [.lst []]) = .ok (.nx [some (.loc j), some (.int persons), some (.loc s.length), some (.int 64), none, none, none, none, none]) (s ++ [.lst []]) := by simp
  rw [q2, bind_ok]
  dsimp only
  rw [xs_cons]
  refine ok_bind (ok_bind ?_)
  refine ok_for (s1 := S1) (w := ((List.range N).map (fun i : Nat => P.int i), fun _ => True)) (fun i l S => ∃ (ts : List Term) (left : Int) (a4 a5 a6 a7 : Option P), l = [some (.loc j), some (.int persons), some (.loc s.length), some (.int left), a4, a5, a6, a7, none] ∧ Jg j s S ∧ S[s.length]? = some (.lst (ts.map tP)) ∧ ts.length ≤ i ∧ (∀ t ∈ ts, GoodT persons t) ∧ (1 ≤ i → ts ≠ [])) ?_ ?_ ?_ ?_ ?_
  · refine ei_rngN ?_ (by unfold SZ; omega)
    simp [e1, hN]
  · exact ⟨[], 64, none, none, none, none, rfl, g1, by simpa using hv, Nat.le_refl _, fun t ht => (by cases ht), fun h => by omega⟩
  · intros; trivial
  · rintro i x l S hx ⟨ts, left, a4, a5, a6, a7, rfl, i1, i2, i3, i4, i5⟩
    obtain ⟨i', hi', rfl⟩ := map_at hx
    have hi := (List.getElem?_eq_some_iff.mp hi').1
    rw [List.length_range] at hi
    have eb : bindT (.v 4) (P.int (i' : Nat)) [some (.loc j), some (.int persons), some (.loc s.length), some (.int left), a4, a5, a6, a7, none] = some [some (.loc j), some (.int persons), some (.loc s.length), some (.int left), some (.int (i' : Nat)), a5, a6, a7, none] := by simp
    rw [eb, ofO_some, bind_ok]
    have hlt : ts.length ≤ 1000 := by omega
    refine claim_head n j s.length persons left ts _ a5 a6 a7 _ S _ i1.jar i2 (by omega) hlt hp ?_
    intro o w S' o0 o1 w0 w1 g ha
    have hc := claim_cmp (envA pg (n + 1)) s.length ts o w (some (.loc j)) (some (.int persons)) (some (.int left)) (some (.int (i' : Nat))) a7 none S' ha hlt
    have g' : Jg j s (S' ++ [.lst ((sel o w ts).map tP), .lst []]) := (i1.trans g).add _
    have ha' : (S' ++ [.lst ((sel o w ts).map tP), .lst []])[s.length]? = some (.lst (ts.map tP)) := Grow.add.at ha
    generalize S' ++ [.lst ((sel o w ts).map tP), .lst []] = S2 at hc g' ha'
    rw [xs_cons]
    cases hs : (sel o w ts).isEmpty with
    | false =>
      rw [hs] at hc
      refine ok_bind (ok_eq (a := Fl.cnt [some (.loc j), some (.int persons), some (.loc s.length), some (.int left), some (.int (i' : Nat)), some (.int o), some (.int w), a7, none]) (s := S2) ?_ ?_)
      · rw [x_ife, cond_eq, hc]
        simp
      · refine ok_eq rfl ?_
        refine ⟨ts, left, _, _, _, _, rfl, g', ha', by omega, i4, fun _ hz => ?_⟩
        subst hz
        simp [sel] at hs
    | true =>
      rw [hs] at hc
      refine ok_bind (ok_eq (a := Fl.nx [some (.loc j), some (.int persons), some (.loc s.length), some (.int left), some (.int (i' : Nat)), some (.int o), some (.int w), a7, none]) (s := S2) ?_ ?_)
      · rw [x_ife, cond_eq, hc]
        simp
      · dsimp only
        refine claim_tail n j s.length persons left o w ts _ a7 S2 _ g'.jar ha' (by omega) hlt w0 w1 ?_
        intro left' m a7' S3 k1 k2 k3 k4
        refine ⟨ts ++ [(o, w, m)], left', _, _, _, _, rfl, ⟨Nat.le_trans g'.len k2, k1, fun k hk hkj => ?_⟩, k4, by simp; omega, fun t ht => ?_, fun _ => by simp⟩
        · rw [k3 k (Nat.lt_of_lt_of_le hk g'.len) hkj (by omega)]
          exact g'.old k hk hkj
        · rcases List.mem_append.mp ht with q | q
          · exact i4 t q
          · rw [List.mem_singleton] at q
            subst q
            exact ⟨o0, o1, w0, w1⟩
  · rintro l S ⟨ts, left, a4, a5, a6, a7, rfl, i1, i2, i3, i4, i5⟩
    dsimp only at i3 i5
    rw [List.length_map, List.length_range] at i3 i5
    obtain ⟨r2, S2, e2, m2, p, p0, p1, rfl⟩ := s_drw n j persons S i1.jar hp
    obtain ⟨L, l1, l2⟩ := sort_terms ts
    have h2 : S2[s.length]? = some (.lst (ts.map tP)) := m2.at (by omega) i2
    have hsd : b1P .sorted (.loc s.length) S2 = .ok (.loc S2.length) (S2 ++ [.lst (L.map tP)]) := by
      rw [u_sorted, u_lst, h2]
      dsimp only
      rw [Option.bind_some, l1]
      rfl
    refine ok_eq (a := Fl.ret (cP ⟨p, L⟩)) (s := S2 ++ [.lst (L.map tP)]) ?_ (ok_eq rfl ⟨?_, (i1.trans m2.toJg).add _, ⟨p, L⟩, rfl, ⟨?_, ?_, p0, p1, ?_⟩⟩)
    · simp [e2, hsd, cP]
    · have hb : ∀ t, bnd s.length (tP t) = true := fun t => by simp [tP, bnd, bnds]
      simp [cP, bnd, bnds, bnds_map _ _ hb]
    · intro h
      have := l2.length_eq
      dsimp only at h
      rw [h] at this
      exact i5 (by omega) (List.eq_nil_of_length_eq_zero this.symm)
    · have := l2.length_eq
      show L.length ≤ 4
      omega
    · intro t ht
      exact i4 t (l2.mem_iff.mp ht)
end K98
namespace K98
open Pa
open PySem (PyData)
def fals (n : Nat) : List Bool := List.replicate n false
def nonF (p : Int) : List Int → List (List Bool)
  | [] => []
  | t :: ts => (if t = p then [] else (nonF p ts).map (false :: ·)) ++ (fals ts.length :: nonF p ts).map (true :: ·)
def rowsN (p : Int) (ts : List Int) : List (List Bool) := fals ts.length :: nonF p ts
theorem rowsN_cons (p t : Int) (ts : List Int) : rowsN p (t :: ts) = (if t = p then [fals ts.length] else rowsN p ts).map (false :: ·) ++ (rowsN p ts).map (true :: ·) := by
  unfold rowsN
  show fals (ts.length + 1) :: ((if t = p then [] else (nonF p ts).map (false :: ·)) ++ (fals ts.length :: nonF p ts).map (true :: ·)) = _
  have e : fals (ts.length + 1) = false :: fals ts.length := List.replicate_succ
  rw [e]
  split <;> simp
theorem nonF_len (p : Int) : ∀ (ts : List Int), ∀ r ∈ nonF p ts, r.length = ts.length
  | [], r, h => by cases h
  | t :: ts, r, h => by
    have ih := nonF_len p ts
    unfold nonF at h
    rcases List.mem_append.mp h with z | z
    · split at z
      · cases z
      · obtain ⟨a, ha, rfl⟩ := List.mem_map.mp z
        simp [ih a ha]
    · obtain ⟨a, ha, rfl⟩ := List.mem_map.mp z
      rcases List.mem_cons.mp ha with q | q
      · rw [q]; simp [fals]
      · simp [ih a q]
theorem rowsN_len {p : Int} {ts : List Int} {r : List Bool} (h : r ∈ rowsN p ts) : r.length = ts.length := by
  rcases List.mem_cons.mp h with z | z
  · rw [z]; simp [fals]
  · exact nonF_len p ts r z
theorem filter_map {α β : Type} (f : α → β) (p : β → Bool) (l : List α) : (l.map f).filter p = (l.filter fun a => p (f a)).map f := by
  induction l with
  | nil => rfl
  | cons a l ih =>
    rw [List.map_cons, List.filter_cons, List.filter_cons, ih]
    cases hb : p (f a) <;> simp
theorem val_cons (p t : Int) (ts : List Int) (b : Bool) (bs : List Bool) : val p (t :: ts) (b :: bs) = ((val p ts bs).1 && !((val p ts bs).2 && (t == p) && !b), b || (val p ts bs).2) := rfl
theorem filt_rows (p : Int) : ∀ ts : List Int, ((allB ts.length).filter fun bs => (val p ts bs).1) = rowsN p ts ∧ ((allB ts.length).filter fun bs => (val p ts bs).1 && !(val p ts bs).2) = [fals ts.length]
  | [] => ⟨rfl, rfl⟩
  | t :: ts => by
    obtain ⟨h1, h2⟩ := filt_rows p ts
    have e : allB (t :: ts).length = (allB ts.length).map (false :: ·) ++ (allB ts.length).map (true :: ·) := allB_lex ts.length
    rw [e]
    have hf : ((allB ts.length).filter fun bs => (val p (t :: ts) (false :: bs)).1) = if t = p then [fals ts.length] else rowsN p ts := by
      by_cases ht : t = p
      · rw [if_pos ht, ← h2]
        congr 1
        funext bs
        rw [val_cons]
        simp [ht]
      · rw [if_neg ht, ← h1]
        congr 1
        funext bs
        rw [val_cons]
        simp [ht]
    have htr : ((allB ts.length).filter fun bs => (val p (t :: ts) (true :: bs)).1) = rowsN p ts := by
      rw [← h1]
      congr 1
      funext bs
      rw [val_cons]
      simp
    refine ⟨?_, ?_⟩
    · rw [List.filter_append, filter_map, filter_map, hf, htr, rowsN_cons]
    · rw [List.filter_append, filter_map, filter_map]
      have a1 : ((allB ts.length).filter fun bs => (val p (t :: ts) (false :: bs)).1 && !(val p (t :: ts) (false :: bs)).2) = [fals ts.length] := by
        rw [← h2]
        congr 1
        funext bs
        rw [val_cons]
        cases (val p ts bs).1 <;> cases (val p ts bs).2 <;> cases (t == p) <;> rfl
      have a2 : ((allB ts.length).filter fun bs => (val p (t :: ts) (true :: bs)).1 && !(val p (t :: ts) (true :: bs)).2) = [] := by
        rw [List.filter_eq_nil_iff]
        intro bs _
        rw [val_cons]
        simp
      rw [a1, a2]
      rfl
theorem rowsF_eq (c : Cl) (turns : List Int) : rowsF c turns = rowsN c.p turns := (filt_rows c.p turns).1
/-! the order -/
def ltB : List Bool → List Bool → Bool
  | x :: xs, y :: ys => if x = y then ltB xs ys else (!x && y)
  | _, _ => false
theorem pds_bools : ∀ l : List Bool, pds (l.map P.bl) = l.map PyData.bool
  | [] => rfl
  | a :: l => by show pd (P.bl a) :: pds (l.map P.bl) = _; rw [pds_bools l]; rfl
theorem pd_bP (l : List Bool) : pd (bP l) = .tuple (l.map PyData.bool) := by
  show PyData.tuple (pds (l.map P.bl)) = _
  rw [pds_bools]
theorem lex_bools : ∀ xs ys : List Bool, xs.length = ys.length → PyProof.Rows.lexLt PyProof.Rows.itemOrd (PySem.W.keyToksAll (xs.map PyData.bool)) (PySem.W.keyToksAll (ys.map PyData.bool)) = ltB xs ys
  | [], [], _ => by
    show PyProof.Rows.lexLt PyProof.Rows.itemOrd _ _ = false
    exact PyProof.Rows.lex_irrefl _
  | [], _ :: _, h => by simp at h
  | _ :: _, [], h => by simp at h
  | x :: xs, y :: ys, h => by
    have ih := lex_bools xs ys (by simpa using h)
    rw [List.map_cons, List.map_cons, PySem.W.dataLt_cons (by simp [PySem.W.alike]), ih, PySem.W.dataLt_bool]
    cases x <;> cases y <;> simp [ltB, PyData.eqv] <;> decide
theorem dataLt_bP {xs ys : List Bool} (h : xs.length = ys.length) : PySem.W.dataLt (pd (bP xs)) (pd (bP ys)) = ltB xs ys := by
  rw [pd_bP, pd_bP, PySem.W.dataLt_tuple, lex_bools xs ys h]
theorem ltB_anti : ∀ xs ys : List Bool, xs.length = ys.length → ltB xs ys = false → ltB ys xs = false → xs = ys
  | [], [], _, _, _ => rfl
  | [], _ :: _, h, _, _ => by simp at h
  | _ :: _, [], h, _, _ => by simp at h
  | x :: xs, y :: ys, h, a, b => by
    have hl : xs.length = ys.length := by simpa using h
    unfold ltB at a b
    by_cases e : x = y
    · subst e
      rw [if_pos rfl] at a b
      rw [ltB_anti xs ys hl a b]
    · rw [if_neg e] at a
      rw [if_neg (Ne.symm e)] at b
      cases x <;> cases y <;> simp at a b e
theorem rowsN_asc (p : Int) : ∀ ts : List Int, (rowsN p ts).Pairwise fun a b => ltB b a = false
  | [] => by simp [rowsN, nonF]
  | t :: ts => by
    have ih := rowsN_asc p ts
    rw [rowsN_cons, List.pairwise_append]
    refine ⟨?_, ?_, ?_⟩
    · rw [List.pairwise_map]
      split
      · simp
      · exact ih.imp fun {a b} h => by simp [ltB, h]
    · rw [List.pairwise_map]
      exact ih.imp fun {a b} h => by simp [ltB, h]
    · intro a ha b hb
      obtain ⟨a', _, rfl⟩ := List.mem_map.mp ha
      obtain ⟨b', _, rfl⟩ := List.mem_map.mp hb
      simp [ltB]
theorem pure_bP (l : List Bool) : pure? (bP l) = true := pures_map (fun a => rfl) l
theorem depth_bools : ∀ a : List Bool, PyData.depthAll (a.map PyData.bool) = 0
  | [] => by simp [PyData.depthAll]
  | x :: xs => by
    rw [List.map_cons, PyData.depthAll, depth_bools xs]
    simp [PyData.depth]
theorem sort_rows (told : List (List Bool)) (p : Int) (ts : List Int) (hp : told.Perm (rowsN p ts)) (h0 : ts = [] → told = [[]]) : sortP (told.map bP) = some ((rowsN p ts).map bP) := by
  have hlen : ∀ r ∈ told, r.length = ts.length := fun r hr => rowsN_len (hp.mem_iff.mp hr)
  have hs : ∃ ys, sortP (told.map bP) = some ys := by
    unfold sortP
    rw [if_pos]
    · exact ⟨_, rfl⟩
    · refine ⟨pures_map pure_bP told, ?_, ?_, ?_⟩
      · rw [List.map_map]
        refine PySem.W.AllAlike.of fun a b => ?_
        show PySem.W.alike (pd (bP a)) (pd (bP b)) = true
        rw [pd_bP, pd_bP]
        simp only [PySem.W.alike]
        have : ∀ xs ys : List Bool, PySem.W.alikeAll (xs.map PyData.bool) (ys.map PyData.bool) = true := by
          intro xs
          induction xs with
          | nil => intro ys; simp [PySem.W.alikeAll]
          | cons x xs ih =>
            intro ys
            cases ys with
            | nil => simp [PySem.W.alikeAll]
            | cons y ys => simp [PySem.W.alikeAll, PySem.W.alike, ih ys]
        exact this a b
      · rw [List.map_map]
        by_cases e : ts = []
        · right
          rw [h0 e]
          rfl
        · left
          refine .inl fun d hd => ?_
          obtain ⟨a, ha, rfl⟩ := List.mem_map.mp hd
          show ∃ x r, pd (bP a) = .tuple (x :: r)
          rw [pd_bP]
          cases a with
          | nil =>
            have := hlen _ ha
            exact absurd (List.eq_nil_of_length_eq_zero this.symm) e
          | cons x r => exact ⟨_, _, rfl⟩
      · intro x hx
        obtain ⟨a, _, rfl⟩ := List.mem_map.mp hx
        rw [pd_bP]
        have := depth_bools a
        simp [PyData.depth, this]
  obtain ⟨ys, hy⟩ := hs
  obtain ⟨h1, h2⟩ := sortP_perm hy
  obtain ⟨L, p1, rfl⟩ := perm_map_inv h1 told rfl
  rw [hy]
  have hL : ∀ r ∈ L, r.length = ts.length := fun r hr => hlen r (p1.mem_iff.mp hr)
  congr 2
  refine sorted_one (le := fun a b => ltB b a = false) (p1.trans hp) ?_ ?_ (rowsN_asc p ts)
  · intro x hx y hy a b
    exact (ltB_anti y x ((hL y hy).trans (hL x hx).symm) a b).symm
  · rw [List.pairwise_map] at h2
    refine h2.imp_of_mem ?_
    intro a b ha hb hab
    rw [dataLt_bP ((hL b hb).trans (hL a ha).symm)] at hab
    exact hab
end K98
namespace K98
open Pa
theorem flatMap_app {α β : Type} (f g : α → List β) : ∀ l : List α, (l.flatMap fun x => f x ++ g x).Perm (l.flatMap f ++ l.flatMap g)
  | [] => .refl _
  | a :: l => by
    rw [List.flatMap_cons, List.flatMap_cons, List.flatMap_cons]
    have ih := flatMap_app f g l
    have h1 : (f a ++ g a ++ l.flatMap fun x => f x ++ g x).Perm (f a ++ g a ++ (l.flatMap f ++ l.flatMap g)) := ih.append_left _
    refine h1.trans ?_
    rw [List.append_assoc, List.append_assoc]
    refine List.Perm.append_left _ ?_
    rw [← List.append_assoc, ← List.append_assoc]
    exact (List.perm_append_comm).append_right _
theorem flatMap_one {α β : Type} (f : α → β) (l : List α) : (l.flatMap fun x => [f x]) = l.map f := by
  induction l with
  | nil => rfl
  | cons a l ih => rw [List.flatMap_cons, ih]; rfl
abbrev Rw := List (List Bool)
def stepL (p t : Int) (m : Nat) (x : Rw × Rw) : Rw × Rw :=
  (x.1.map (· ++ [true]) ++ (if t = p then [] else x.1.map (· ++ [false])), x.2 ++ (x.1.map (· ++ [true])).map (· ++ fals m))
def fill (p : Int) (ts : List Int) (live : Rw) : Rw := live.flatMap fun l => (nonF p ts).map (l ++ ·)
theorem fill_map (p : Int) (ts : List Int) (live : Rw) (b : Bool) : fill p ts (live.map (· ++ [b])) = live.flatMap fun l => ((nonF p ts).map (b :: ·)).map (l ++ ·) := by
  unfold fill
  induction live with
  | nil => rfl
  | cons l r ih =>
    rw [List.map_cons, List.flatMap_cons, List.flatMap_cons, ih, List.map_map]
    congr 1
    refine List.map_congr_left fun z _ => ?_
    simp
theorem step_perm (p t : Int) (ts : List Int) (x : Rw × Rw) : (x.2 ++ fill p (t :: ts) x.1).Perm ((stepL p t ts.length x).2 ++ fill p ts (stepL p t ts.length x).1) := by
  obtain ⟨live, told⟩ := x
  have e1 : fill p (t :: ts) live = live.flatMap fun l => ((if t = p then [] else (nonF p ts).map (false :: ·)).map (l ++ ·)) ++ ([l ++ (true :: fals ts.length)] ++ ((nonF p ts).map (true :: ·)).map (l ++ ·)) := by
    unfold fill
    congr 1
    funext l
    show (((if t = p then [] else (nonF p ts).map (false :: ·)) ++ (fals ts.length :: nonF p ts).map (true :: ·))).map (l ++ ·) = _
    rw [List.map_append, List.map_cons, List.map_cons]
    rfl
  have e2 : (stepL p t ts.length (live, told)).2 = told ++ live.map (fun l => l ++ (true :: fals ts.length)) := by
    show told ++ (live.map (· ++ [true])).map (· ++ fals ts.length) = _
    rw [List.map_map]
    congr 1
    refine List.map_congr_left fun z _ => ?_
    simp
  have e3 : fill p ts (stepL p t ts.length (live, told)).1 = (live.flatMap fun l => ((nonF p ts).map (true :: ·)).map (l ++ ·)) ++ live.flatMap fun l => ((if t = p then [] else (nonF p ts).map (false :: ·)).map (l ++ ·)) := by
    show fill p ts (live.map (· ++ [true]) ++ (if t = p then [] else live.map (· ++ [false]))) = _
    have ea : ∀ a b : Rw, fill p ts (a ++ b) = fill p ts a ++ fill p ts b := fun a b => by unfold fill; rw [List.flatMap_append]
    rw [ea, fill_map]
    congr 1
    by_cases h : t = p
    · rw [if_pos h, if_pos h]
      unfold fill
      simp
    · rw [if_neg h, if_neg h, fill_map]
  rw [e1, e2, e3]
  show (told ++ _).Perm _
  have h1 := flatMap_app (fun l => ((if t = p then [] else (nonF p ts).map (false :: ·)).map (l ++ ·))) (fun l => [l ++ (true :: fals ts.length)] ++ ((nonF p ts).map (true :: ·)).map (l ++ ·)) live
  have h2 := flatMap_app (fun l => [l ++ (true :: fals ts.length)]) (fun l => ((nonF p ts).map (true :: ·)).map (l ++ ·)) live
  rw [flatMap_one] at h2
  rw [List.append_assoc]
  refine List.Perm.append_left _ ?_
  refine h1.trans ?_
  refine (List.Perm.append_left _ h2).trans ?_
  refine List.perm_append_comm.trans ?_
  rw [List.append_assoc]
def runL (p : Int) : List Int → Rw × Rw → Rw × Rw
  | [], x => x
  | t :: ts, x => runL p ts (stepL p t ts.length x)
theorem runL_perm (p : Int) : ∀ (ts : List Int) (x : Rw × Rw), (x.2 ++ fill p ts x.1).Perm (runL p ts x).2
  | [], x => by
    have : fill p [] x.1 = [] := by unfold fill nonF; simp
    rw [this, List.append_nil]
    exact .refl _
  | t :: ts, x => (step_perm p t ts x).trans (runL_perm p ts _)
theorem told_perm (p : Int) (ts : List Int) : (runL p ts ([[]], [fals ts.length])).2.Perm (rowsN p ts) := by
  have := runL_perm p ts ([[]], [fals ts.length])
  have e : fill p ts [[]] = nonF p ts := by unfold fill; simp
  rw [e] at this
  exact this.symm
theorem cut_drop (ts : List Int) (k : Nat) (s : S) : slP (iP ts) (some ((k : Int) + 1)) none s = .ok (iP (ts.drop (k + 1))) s := by
  have e : cut (ts.map P.int) (some ((k : Int) + 1)) none = (ts.drop (k + 1)).map P.int := by
    unfold cut sIx
    dsimp only
    rw [if_neg (by omega)]
    have e2 : ((k : Int) + 1).toNat = k + 1 := by omega
    rw [e2]
    by_cases h : k + 1 ≤ (ts.map P.int).length
    · rw [Nat.min_eq_left h, ← List.map_drop, List.take_of_length_le]
      simp
    · have : (ts.map P.int).length ≤ k + 1 := by omega
      rw [Nat.min_eq_right this, List.drop_eq_nil_of_le (Nat.le_refl _), List.drop_eq_nil_of_le (by simpa using this)]
      simp
  show R.ok (P.tup (cut (ts.map P.int) (some ((k : Int) + 1)) none)) s = _
  rw [e]
  rfl
theorem fals_lc (n : Nat) (G : Env) (a : Ex) (l : Loc) (s : S) (ts : List Int) (h : evA G a l s = .ok (iP ts) s) (hn : ts.length ≤ SZ) (hl : 8 < l.length) : evA G (.b1 .tuple (.lc (.v 8) (.ex a) .nil (.bl false) [8])) l s = .ok (bP (fals ts.length)) (s ++ [.lst ((fals ts.length).map P.bl)]) := by
  have hk : Ok (evA G (.lc (.v 8) (.ex a) .nil (.bl false) [8]) l s) fun r s' => r = .loc s.length ∧ s' = s ++ [.lst ((fals ts.length).map P.bl)] := by
    refine ok_lcm (s1 := s) (gd := fun _ => True) ts P.int (fun _ => .bl false) ?_ trivial ?_ hn ⟨rfl, ?_⟩
    · simp [h, iP, stays]
    · intro y _
      simp [wipe, hl]
    · have : ts.map (fun _ => P.bl false) = (fals ts.length).map P.bl := by unfold fals; rw [List.map_const']; simp
      rw [this]
  obtain ⟨r, s', e, rfl, rfl⟩ := hk
  rw [e_b1, e, bind_ok, b_tup, u_seq, at_new]
  rfl
/-- [some + tail for some in a list] -/
theorem app_lc (G : Env) (a : Nat) (ea eb : Ex) (tail : List Bool) (l : Loc) (s : S) (rs : Rw) (he : evA G ea l s = .ok (.loc a) s) (ha : s[a]? = some (.lst (rs.map bP))) (hl : 7 < l.length) (hb : ∀ (x : Option P) st, evA G eb (l.set 7 x) st = .ok (bP tail) st) (hn : rs.length ≤ SZ) (hz : ∀ r ∈ rs, r.length + tail.length ≤ SZ) : evA G (.lc (.v 7) (.ex ea) .nil (.bin .add (.v 7) eb) [7]) l s = .ok (.loc s.length) (s ++ [.lst ((rs.map (· ++ tail)).map bP)]) := by
  have hk : Ok (evA G (.lc (.v 7) (.ex ea) .nil (.bin .add (.v 7) eb) [7]) l s) fun r s' => r = .loc s.length ∧ s' = s ++ [.lst ((rs.map (· ++ tail)).map bP)] := by
    refine ok_lcm (s1 := s) (gd := stays (.loc a) s) rs bP (fun r => bP (r ++ tail)) ?_ rfl ?_ hn ⟨rfl, ?_⟩
    · simp [he, ha]
    · intro y hy
      have := hz y hy
      have hw : wipe l [7] = l.set 7 none := rfl
      have hs : (l.set 7 none).set 7 (some (bP y)) = l.set 7 (some (bP y)) := List.set_set ..
      rw [hw, bt_v, if_pos (by simpa using hl), ofO_some, bind_ok, hs, e_bin, e_v, List.getElem?_set_self hl]
      dsimp only
      rw [bind_ok, hb, bind_ok]
      unfold bP
      rw [o_addT, if_pos (by simpa using this), List.map_append]
    · rw [List.map_map]; rfl
  obtain ⟨r, s', e, rfl, rfl⟩ := hk
  exact e
/-- the same with the test that does not look at what is walked -/
theorem app_lcf (G : Env) (a : Nat) (ea eb ec : Ex) (tail : List Bool) (q : Bool) (l : Loc) (s : S) (rs : Rw) (he : evA G ea l s = .ok (.loc a) s) (ha : s[a]? = some (.lst (rs.map bP))) (hl : 7 < l.length) (hb : ∀ (x : Option P) st, evA G eb (l.set 7 x) st = .ok (bP tail) st) (hc : ∀ (x : Option P) st, evA G ec (l.set 7 x) st = .ok (.bl q) st) (hn : rs.length ≤ SZ) (hz : ∀ r ∈ rs, r.length + tail.length ≤ SZ) : evA G (.lc (.v 7) (.ex ea) (.cons ec .nil) (.bin .add (.v 7) eb) [7]) l s = .ok (.loc s.length) (s ++ [.lst ((if q = true then rs.map (· ++ tail) else []).map bP)]) := by
  have hk : Ok (evA G (.lc (.v 7) (.ex ea) (.cons ec .nil) (.bin .add (.v 7) eb) [7]) l s) fun r s' => r = .loc s.length ∧ s' = s ++ [.lst ((if q = true then rs.map (· ++ tail) else []).map bP)] := by
    refine ok_lcf (s1 := s) (gd := stays (.loc a) s) rs bP (fun r => if q = true then some (bP (r ++ tail)) else none) ?_ rfl ?_ hn ⟨rfl, ?_⟩
    · simp [he, ha]
    · intro y hy
      have := hz y hy
      have hw : wipe l [7] = l.set 7 none := rfl
      have hs : (l.set 7 none).set 7 (some (bP y)) = l.set 7 (some (bP y)) := List.set_set ..
      rw [hw, bt_v, if_pos (by simpa using hl), ofO_some, bind_ok, hs, ec_cons, hc, bind_ok, t_bl, ofO_some, bind_ok]
      cases q with
      | false => rfl
      | true =>
        rw [if_pos rfl, ec_nil, bind_ok, if_pos rfl, e_bin, e_v, List.getElem?_set_self hl]
        dsimp only
        rw [bind_ok, hb, bind_ok]
        unfold bP
        rw [o_addT, if_pos (by simpa using this), List.map_append]
        rfl
    · cases q with
      | true =>
        have : rs.filterMap (fun r => if true = true then some (bP (r ++ tail)) else none) = (rs.map (· ++ tail)).map bP := by
          rw [List.map_map]
          simp only [if_true]
          rw [List.filterMap_eq_map']
          rfl
        rw [this]; rfl
      | false => simp
  obtain ⟨r, s', e, rfl, rfl⟩ := hk
  exact e
end K98
namespace K98
open Pa
structure Ch (p : Int) (turns : List Int) (i : Nat) (x : Rw × Rw) : Prop where
  run : runL p (turns.drop i) x = runL p turns ([[]], [fals turns.length])
  l1 : x.1.length ≤ 2 ^ i
  l2 : x.2.length ≤ 2 ^ i
  r1 : ∀ r ∈ x.1, r.length = i
theorem Ch.step {p : Int} {turns : List Int} {i : Nat} {x : Rw × Rw} {t : Int} (h : Ch p turns i x) (ht : turns[i]? = some t) : Ch p turns (i + 1) (stepL p t (turns.drop (i + 1)).length x) where
  run := by rw [← h.run, drop_cons ht]; rfl
  l1 := by
    have := h.l1
    unfold stepL
    dsimp only
    rw [List.length_append, List.length_map, Nat.pow_succ]
    split <;> simp <;> omega
  l2 := by
    have := h.l1
    have := h.l2
    unfold stepL
    dsimp only
    rw [List.length_append, List.length_map, List.length_map, Nat.pow_succ]
    omega
  r1 r hr := by
    unfold stepL at hr
    dsimp only at hr
    rcases List.mem_append.mp hr with z | z
    · obtain ⟨a, ha, rfl⟩ := List.mem_map.mp z
      simp [h.r1 a ha]
    · split at z
      · cases z
      · obtain ⟨a, ha, rfl⟩ := List.mem_map.mp z
        simp [h.r1 a ha]
theorem choices_step (n : Nat) (p : Int) (turns : List Int) (s S : S) (i a : Nat) (t : Int) (x : Rw × Rw) (a5 a6 : Option P) (hl : turns.length ≤ 20) (ht : turns[i]? = some t) (C : Ch p turns i x) (hg : Grow s S) (ha0 : s.length ≤ a) (hne : a ≠ s.length + 2) (ha : S[a]? = some (.lst (x.1.map bP))) (htl : S[s.length + 2]? = some (.lst (x.2.map bP))) :
    Ok (exsA (envA pg n) (.cons (.asg (.v 5) (.b1 .tuple (.lc (.v 8) (.ex (.slL (.v 1) (.bin .add (.v 4) (.int 1)))) .nil (.bl false) [8]))) (.cons (.asg (.v 6) (.lc (.v 7) (.ex (.v 2)) .nil (.bin .add (.v 7) (.tup (.cons (.bl true) .nil))) [7])) (.cons (.ex (.m1 .extend (.v 3) (.lc (.v 7) (.ex (.v 6)) .nil (.bin .add (.v 7) (.v 5)) [7]))) (.cons (.asg (.v 2) (.bin .add (.v 6) (.lc (.v 7) (.ex (.v 2)) (.cons (.cmp .ne (.ix (.v 1) (.v 4)) (.v 0)) .nil) (.bin .add (.v 7) (.tup (.cons (.bl false) .nil))) [7]))) .nil))))
      [some (.int p), some (iP turns), some (.loc a), some (.loc (s.length + 2)), some (.int i), a5, a6, none, none] S)
      fun fl S' => ∃ a' a5 a6, fl = .nx [some (.int p), some (iP turns), some (.loc a'), some (.loc (s.length + 2)), some (.int i), a5, a6, none, none] ∧ Grow s S' ∧ s.length ≤ a' ∧ a' ≠ s.length + 2 ∧ S'[a']? = some (.lst ((stepL p t (turns.drop (i + 1)).length x).1.map bP)) ∧ S'[s.length + 2]? = some (.lst ((stepL p t (turns.drop (i + 1)).length x).2.map bP)) := by
  obtain ⟨live, told⟩ := x
  dsimp only at ha htl
  have hi := (List.getElem?_eq_some_iff.mp ht).1
  have hp : 2 ^ i ≤ 1048576 := Nat.le_trans (Nat.pow_le_pow_right (by omega) (by omega : i ≤ 20)) (by decide)
  have hll : live.length ≤ 1048576 := Nat.le_trans C.l1 hp
  have htl2 : told.length ≤ 1048576 := Nat.le_trans C.l2 hp
  have hm : (turns.drop (i + 1)).length ≤ 20 := by rw [List.length_drop]; omega
  obtain ⟨m, hmm⟩ : ∃ m, m = (turns.drop (i + 1)).length := ⟨_, rfl⟩
  rw [← hmm]
  have hfl : (fals m).length = m := by simp [fals]
  have hal := (List.getElem?_eq_some_iff.mp ha).1
  have htll := (List.getElem?_eq_some_iff.mp htl).1
  obtain ⟨S1, h1⟩ : ∃ S1, S1 = S ++ [O.lst ((fals m).map P.bl)] := ⟨_, rfl⟩
  obtain ⟨S2, h2⟩ : ∃ S2, S2 = S1 ++ [O.lst ((live.map (· ++ [true])).map bP)] := ⟨_, rfl⟩
  obtain ⟨S3, h3⟩ : ∃ S3, S3 = S2 ++ [O.lst (((live.map (· ++ [true])).map (· ++ fals m)).map bP)] := ⟨_, rfl⟩
  obtain ⟨S4, h4⟩ : ∃ S4, S4 = S3.set (s.length + 2) (O.lst ((told ++ (live.map (· ++ [true])).map (· ++ fals m)).map bP)) := ⟨_, rfl⟩
  obtain ⟨S5, h5⟩ : ∃ S5, S5 = S4 ++ [O.lst ((if (!(t == p)) = true then live.map (· ++ [false]) else []).map bP)] := ⟨_, rfl⟩
  obtain ⟨S6, h6⟩ : ∃ S6, S6 = S5 ++ [O.lst ((live.map (· ++ [true]) ++ (if (!(t == p)) = true then live.map (· ++ [false]) else [])).map bP)] := ⟨_, rfl⟩
  have g1 : Grow S S1 := by rw [h1]; exact Grow.add
  have g2 : Grow S1 S2 := by rw [h2]; exact Grow.add
  have g3 : Grow S2 S3 := by rw [h3]; exact Grow.add
  have l1 : S1.length = S.length + 1 := by rw [h1]; simp
  have l2 : S2.length = S1.length + 1 := by rw [h2]; simp
  have l3 : S3.length = S2.length + 1 := by rw [h3]; simp
  have l4 : S4.length = S3.length := by rw [h4]; simp
  have l5 : S5.length = S4.length + 1 := by rw [h5]; simp
  have at1 : S1[a]? = some (.lst (live.map bP)) := g1.at ha
  have tp2 : S2[S1.length]? = some (.lst ((live.map (· ++ [true])).map bP)) := by rw [h2]; simp
  have nw3 : S3[S2.length]? = some (.lst (((live.map (· ++ [true])).map (· ++ fals m)).map bP)) := by rw [h3]; simp
  have td3 : S3[s.length + 2]? = some (.lst (told.map bP)) := g3.at (g2.at (g1.at htl))
  have td2 : S2[s.length + 2]? = some (.lst (told.map bP)) := g2.at (g1.at htl)
  have at4 : S4[a]? = some (.lst (live.map bP)) := by rw [h4, List.getElem?_set_ne (Ne.symm hne)]; exact g3.at (g2.at at1)
  have tp4 : S4[S1.length]? = some (.lst ((live.map (· ++ [true])).map bP)) := by rw [h4, List.getElem?_set_ne (by omega)]; exact g3.at tp2
  have tp5 : S5[S1.length]? = some (.lst ((live.map (· ++ [true])).map bP)) := by rw [h5]; exact Grow.add.at tp4
  have nw5 : S5[S4.length]? = some (.lst ((if (!(t == p)) = true then live.map (· ++ [false]) else []).map bP)) := by rw [h5]; simp
  have td4 : S4[s.length + 2]? = some (.lst ((told ++ (live.map (· ++ [true])).map (· ++ fals m)).map bP)) := by rw [h4]; exact List.getElem?_set_self (by omega)
  have e1 : evA (envA pg n) (.b1 .tuple (.lc (.v 8) (.ex (.slL (.v 1) (.bin .add (.v 4) (.int 1)))) .nil (.bl false) [8])) [some (.int p), some (iP turns), some (.loc a), some (.loc (s.length + 2)), some (.int i), a5, a6, none, none] S = .ok (bP (fals m)) S1 := by
    rw [h1, hmm]
    refine fals_lc n _ _ _ _ _ ?_ (by unfold SZ; omega) (by simp)
    simp [cut_drop]
  have e2 : evA (envA pg n) (.lc (.v 7) (.ex (.v 2)) .nil (.bin .add (.v 7) (.tup (.cons (.bl true) .nil))) [7]) [some (.int p), some (iP turns), some (.loc a), some (.loc (s.length + 2)), some (.int i), some (bP (fals m)), a6, none, none] S1 = .ok (.loc S1.length) S2 := by
    rw [h2]
    refine app_lc _ a _ _ [true] _ _ live (by simp) at1 (by simp) (fun x st => by simp [bP]) (by unfold SZ; omega) (fun r hr => ?_)
    have := C.r1 r hr
    simp
    unfold SZ
    omega
  have e3 : evA (envA pg n) (.lc (.v 7) (.ex (.v 6)) .nil (.bin .add (.v 7) (.v 5)) [7]) [some (.int p), some (iP turns), some (.loc a), some (.loc (s.length + 2)), some (.int i), some (bP (fals m)), some (.loc S1.length), none, none] S2 = .ok (.loc S2.length) S3 := by
    rw [h3]
    refine app_lc _ S1.length _ _ (fals m) _ _ _ (by simp) tp2 (by simp) (fun x st => by simp) (by rw [List.length_map]; unfold SZ; omega) (fun r hr => ?_)
    obtain ⟨r', hr', rfl⟩ := List.mem_map.mp hr
    have := C.r1 r' hr'
    rw [hfl]
    simp
    unfold SZ
    omega
  have e4 : evA (envA pg n) (.lc (.v 7) (.ex (.v 2)) (.cons (.cmp .ne (.ix (.v 1) (.v 4)) (.v 0)) .nil) (.bin .add (.v 7) (.tup (.cons (.bl false) .nil))) [7]) [some (.int p), some (iP turns), some (.loc a), some (.loc (s.length + 2)), some (.int i), some (bP (fals m)), some (.loc S1.length), none, none] S4 = .ok (.loc S4.length) S5 := by
    rw [h5]
    have hat : atI (turns.map P.int) (i : Int) = some (.int t) := by rw [atI_nat, List.getElem?_map, ht]; rfl
    refine app_lcf _ a _ _ _ [false] (!(t == p)) _ _ live (by simp) at4 (by simp) (fun x st => by simp [bP]) (fun x st => by simp [iP, hat]) (by unfold SZ; omega) (fun r hr => ?_)
    have := C.r1 r hr
    simp
    unfold SZ
    omega
  have hx1 : told.length + live.length ≤ SZ := by unfold SZ; omega
  have hx2 : (live.map (· ++ [true])).length + (if (!(t == p)) = true then live.map (· ++ [false]) else []).length ≤ SZ := by
    rw [List.length_map]
    split
    · rw [List.length_map]; unfold SZ; omega
    · simp; unfold SZ; omega
  refine ok_eq (a := Fl.nx [some (.int p), some (iP turns), some (.loc S5.length), some (.loc (s.length + 2)), some (.int i), some (bP (fals m)), some (.loc S1.length), none, none]) (s := S6) ?_ ?_
  · rw [xs_cons, x_asg, e1, bind_ok, bt_v, if_pos (by simp), ofO_some, bind_ok, bind_ok]
    dsimp only [List.set_cons_succ, List.set_cons_zero]
    rw [xs_cons, x_asg, e2, bind_ok, bt_v, if_pos (by simp), ofO_some, bind_ok, bind_ok]
    dsimp only [List.set_cons_succ, List.set_cons_zero]
    rw [xs_cons, x_ex, e_m1, e_v]
    dsimp only [List.getElem?_cons_succ, List.getElem?_cons_zero]
    have hk : k1 .extend S2 (.loc (s.length + 2)) = true := by rw [u_k1e, u_isL, td2]
    have hext : m1P .extend (.loc (s.length + 2)) (.loc S2.length) S3 = .ok .non S4 := by
      rw [u_ext, td3, nw3, h4]
      dsimp only
      rw [if_pos (by simpa using hx1)]
      simp
    simp only [bind_ok, hk, if_true, e3, hext]
    rw [xs_cons, x_asg, e_bin, e_v]
    dsimp only [List.getElem?_cons_succ, List.getElem?_cons_zero]
    have hcat : binP .add (.loc S1.length) (.loc S4.length) S5 = .ok (.loc S5.length) S6 := by
      rw [u_cat, tp5, nw5, h6]
      dsimp only
      rw [if_pos (by simpa only [List.length_map] using hx2), List.map_append]
      rfl
    rw [bind_ok, e4, bind_ok, hcat, bind_ok, bt_v, if_pos (by simp), ofO_some, bind_ok, bind_ok]
    dsimp only [List.set_cons_succ, List.set_cons_zero]
    rw [xs_nil]
  · have hq : (if (!(t == p)) = true then live.map (· ++ [false]) else []) = if t = p then [] else live.map (· ++ [false]) := by
      by_cases h : t = p <;> simp [h]
    have gA : Grow s S4 := by rw [h4]; exact (((hg.trans g1).trans g2).trans g3).set (by omega)
    have gB : Grow S4 S6 := by rw [h6, h5]; exact Grow.add.trans Grow.add
    refine ⟨S5.length, _, _, rfl, gA.trans gB, ?_, ?_, ?_, gB.at td4⟩
    · have := hg.len; omega
    · omega
    · rw [h6, at_new]
      show some (O.lst (List.map bP _)) = some (O.lst (List.map bP (live.map (· ++ [true]) ++ (if t = p then [] else live.map (· ++ [false])))))
      rw [hq]
theorem s_law_choices (n : Nat) (p : Int) (turns : List Int) (s : S) (hl : turns.length ≤ 20) : Ok (callA pg (n + 1) 28 [.int p, iP turns] s) fun r s' => ∃ k, r = .loc k ∧ s.length ≤ k ∧ Grow s s' ∧ s'[k]? = some (.lst ((rowsN p turns).map bP)) := by
  rw [calA (b := d28) rfl, runA_ok ⟨rfl, by decide⟩]
  simp only [d28, b28]
  refine ok_gcn ?_
  rw [xs_cons]
  have q1 : exA (envA pg n) (.asg (.v 2) (.lst (.cons (.tup .nil) .nil))) (List.map some [P.int p, iP turns] ++ List.replicate (9 - [P.int p, iP turns].length) none) s = .ok (.nx [some (.int p), some (iP turns), some (.loc s.length), none, none, none, none, none, none]) (s ++ [.lst [.tup []]]) := by simp [alloc]
  rw [q1, bind_ok]
  dsimp only
  rw [xs_cons]
  obtain ⟨S0, hS0⟩ : ∃ S0, S0 = s ++ [.lst [.tup []], .lst ((fals turns.length).map P.bl), .lst [bP (fals turns.length)]] := ⟨_, rfl⟩
  have q2 : exA (envA pg n) (.asg (.v 3) (.lst (.cons (.b1 .tuple (.lc (.v 8) (.ex (.v 1)) .nil (.bl false) [8])) .nil))) [some (.int p), some (iP turns), some (.loc s.length), none, none, none, none, none, none] (s ++ [.lst [.tup []]]) = .ok (.nx [some (.int p), some (iP turns), some (.loc s.length), some (.loc (s.length + 2)), none, none, none, none, none]) S0 := by
    rw [x_asg, e_lst, es_cons, fals_lc n _ _ _ _ turns (by simp) (by unfold SZ; omega) (by simp)]
    simp [alloc, hS0]
  rw [q2, bind_ok]
  dsimp only
  rw [xs_cons]
  have g0 : Grow s S0 := by rw [hS0]; exact Grow.add
  have hz0 : S0[s.length]? = some (.lst [.tup []]) := by rw [hS0]; simp
  have hz2 : S0[s.length + 2]? = some (.lst [bP (fals turns.length)]) := by
    rw [hS0, List.getElem?_append_right (by omega)]
    have : s.length + 2 - s.length = 2 := by omega
    rw [this]; rfl
  refine ok_bind (ok_bind ?_)
  refine ok_for (s1 := S0) (w := ((List.range turns.length).map (fun i : Nat => P.int i), fun _ => True)) (fun i l S => ∃ a x a4 a5 a6, l = [some (.int p), some (iP turns), some (.loc a), some (.loc (s.length + 2)), a4, a5, a6, none, none] ∧ Grow s S ∧ s.length ≤ a ∧ a ≠ s.length + 2 ∧ S[a]? = some (.lst (x.1.map bP)) ∧ S[s.length + 2]? = some (.lst (x.2.map bP)) ∧ Ch p turns i x) ?_ ?_ ?_ ?_ ?_
  · exact ei_rngN (by simp [iP]) (by unfold SZ; omega)
  · exact ⟨s.length, ([[]], [fals turns.length]), none, none, none, rfl, g0, Nat.le_refl _, by omega, hz0, hz2, ⟨by rw [List.drop_zero], by simp, by simp, by simp⟩⟩
  · intros; trivial
  · rintro i y l S hy ⟨a, x, a4, a5, a6, rfl, i1, i2, i3, i4, i5, i6⟩
    obtain ⟨k, hk, rfl⟩ := map_at hy
    obtain ⟨hi', hj'⟩ := List.getElem?_eq_some_iff.mp hk
    have hi : i < turns.length := by simpa using hi'
    have hki : k = i := by simpa using hj'.symm
    subst hki
    have ht : turns[k]? = some turns[k] := List.getElem?_eq_getElem hi
    have eb : bindT (.v 4) (P.int (k : Nat)) [some (.int p), some (iP turns), some (.loc a), some (.loc (s.length + 2)), a4, a5, a6, none, none] = some [some (.int p), some (iP turns), some (.loc a), some (.loc (s.length + 2)), some (.int (k : Nat)), a5, a6, none, none] := by simp
    rw [eb, ofO_some, bind_ok]
    refine ok_imp (choices_step n p turns s S k a turns[k] x a5 a6 hl ht i6 i1 i2 i3 i4 i5) ?_
    rintro fl S' ⟨a', a5', a6', rfl, j1, j2, j3, j4, j5⟩
    exact ⟨a', _, _, _, _, rfl, j1, j2, j3, j4, j5, i6.step ht⟩
  · rintro l S ⟨a, x, a4, a5, a6, rfl, i1, i2, i3, i4, i5, i6⟩
    dsimp only at i6
    rw [List.length_map, List.length_range] at i6
    have hr := i6.run
    rw [List.drop_length] at hr
    have hr2 : x = runL p turns ([[]], [fals turns.length]) := hr
    have hperm : x.2.Perm (rowsN p turns) := by rw [hr2]; exact told_perm p turns
    have hso := sort_rows x.2 p turns hperm (fun e => by rw [hr2, e]; rfl)
    refine ok_eq (a := Fl.ret (.loc S.length)) (s := S ++ [.lst ((rowsN p turns).map bP)]) ?_ (ok_eq rfl ⟨?_, S.length, rfl, i1.len, i1.trans Grow.add, at_new _ _⟩)
    · have hsd : b1P .sorted (.loc (s.length + 2)) S = .ok (.loc S.length) (S ++ [.lst ((rowsN p turns).map bP)]) := by
        rw [u_sorted, u_lst, i5]
        dsimp only
        rw [Option.bind_some, hso]
        rfl
      simp [hsd]
    · have := i1.len
      simp [bnd]
      omega
end K98
namespace K98
open Pa
/-- how many tops a person's turns have -/
def cT (q : Int) : List Int → List Bool → Int
  | t :: ts, b :: bs => (if t = q then (if b = true then 1 else 0) else 0) + cT q ts bs
  | _, _ => 0
theorem cT_snoc (q : Int) : ∀ (ts : List Int) (bs : List Bool) (t : Int) (b : Bool), ts.length = bs.length → cT q (ts ++ [t]) (bs ++ [b]) = cT q ts bs + if t = q then (if b = true then 1 else 0) else 0
  | [], [], t, b, _ => by simp [cT]
  | [], _ :: _, _, _, h => by simp at h
  | _ :: _, [], _, _, h => by simp at h
  | x :: ts, y :: bs, t, b, h => by
    simp only [List.cons_append, cT]
    rw [cT_snoc q ts bs t b (by simpa using h)]
    omega
theorem cT_bound (q : Int) : ∀ (ts : List Int) (bs : List Bool), 0 ≤ cT q ts bs ∧ cT q ts bs ≤ ts.length
  | [], _ => by simp [cT]
  | _ :: _, [] => by simp [cT]; omega
  | x :: ts, y :: bs => by
    have := cT_bound q ts bs
    simp only [cT, List.length_cons]
    split
    · split <;> omega
    · omega
def lawN (c : Cl) (turns : List Int) (bs : List Bool) : Int := (c.ts.map fun t => t.2.2 * (if cT t.1 turns bs - t.2.1 > 0 then cT t.1 turns bs - t.2.1 else 0)).sum
def tpP (turns : List Int) (bs : List Bool) : List P := (List.range 5).map fun q : Nat => .int (cT q turns bs)
theorem s_law_counted (n : Nat) (c : Cl) (turns : List Int) (bs : List Bool) (s : S) (hl : turns.length ≤ 20) (hb : bs.length = turns.length) (ht : ∀ t ∈ turns, 0 ≤ t ∧ t < 5) (hc : ∀ t ∈ c.ts, 0 ≤ t.1 ∧ t.1 < 5 ∧ 0 ≤ t.2.1) (h2 : c.ts.length ≤ 1000) :
    callA pg (n + 1) 29 [cP c, iP turns, bP bs] s = .ok (.int (lawN c turns bs)) s := by
  have key : Ok (callA pg (n + 1) 29 [cP c, iP turns, bP bs] s) fun r s' => r = .int (lawN c turns bs) ∧ s' = s := by
    rw [calA (b := d29) rfl, runA_ok ⟨rfl, by decide⟩]
    simp only [d29, b29]
    refine ok_gc ?_
    rw [xs_cons]
    have q1 : exA (envA pg n) (.asg (.v 3) (.lst (.cons (.int 0) (.cons (.int 0) (.cons (.int 0) (.cons (.int 0) (.cons (.int 0) .nil))))))) (List.map some [cP c, iP turns, bP bs] ++ List.replicate (6 - [cP c, iP turns, bP bs].length) none) s = .ok (.nx [some (cP c), some (iP turns), some (bP bs), some (.loc s.length), none, none]) (s ++ [.lst (tpP [] [])]) := by
      have e : tpP [] [] = [.int 0, .int 0, .int 0, .int 0, .int 0] := rfl
      rw [e]
      simp [alloc]
    rw [q1, bind_ok]
    dsimp only
    rw [xs_cons]
    refine ok_bind (ok_bind ?_)
    refine ok_for (s1 := s ++ [.lst (tpP [] [])]) (w := ((List.range turns.length).map (fun i : Nat => P.int i), fun _ => True)) (fun i l S => ∃ a4, l = [some (cP c), some (iP turns), some (bP bs), some (.loc s.length), a4, none] ∧ S = s ++ [.lst (tpP (turns.take i) (bs.take i))]) ?_ ?_ ?_ ?_ ?_
    · exact ei_rngN (by simp [iP]) (by unfold SZ; omega)
    · exact ⟨none, rfl, by simp⟩
    · intros; trivial
    · rintro i y l S hy ⟨a4, rfl, rfl⟩
      obtain ⟨k, hk, rfl⟩ := map_at hy
      obtain ⟨hi', hj'⟩ := List.getElem?_eq_some_iff.mp hk
      have hi : i < turns.length := by simpa using hi'
      have hki : k = i := by simpa using hj'.symm
      subst hki
      have hbk : k < bs.length := by omega
      obtain ⟨t0, t1⟩ := ht turns[k] (List.getElem_mem hi)
      obtain ⟨q, hq⟩ := Int.eq_ofNat_of_zero_le t0
      have hq5 : q < 5 := by omega
      have at1 : atI (turns.map P.int) (k : Int) = some (.int q) := by rw [atI_nat, List.getElem?_map, List.getElem?_eq_getElem hi, ← hq]; rfl
      have at2 : atI (bs.map P.bl) (k : Int) = some (.bl bs[k]) := by rw [atI_nat, List.getElem?_map, List.getElem?_eq_getElem hbk]; rfl
      have at3 : atI (tpP (turns.take k) (bs.take k)) (q : Int) = some (.int (cT q (turns.take k) (bs.take k))) := by
        rw [atI_nat]; unfold tpP; rw [List.getElem?_map, List.getElem?_range hq5]; rfl
      have hix : ixN (tpP (turns.take k) (bs.take k)).length (q : Int) = some q := by unfold ixN tpP; simp; omega
      have et : turns.take (k + 1) = turns.take k ++ [(q : Int)] := by rw [List.take_succ, List.getElem?_eq_getElem hi, hq]; rfl
      have eb : bs.take (k + 1) = bs.take k ++ [bs[k]] := by rw [List.take_succ, List.getElem?_eq_getElem hbk]; rfl
      have hset : (tpP (turns.take k) (bs.take k)).set q (.int (cT q (turns.take k) (bs.take k) + if bs[k] = true then 1 else 0)) = tpP (turns.take (k + 1)) (bs.take (k + 1)) := by
        unfold tpP
        refine map_range_set _ _ _ _ _ ?_ ?_
        · rw [et, eb, cT_snoc _ _ _ _ _ (by simp; omega), if_pos rfl]
        · intro j hj
          rw [et, eb, cT_snoc _ _ _ _ _ (by simp; omega), if_neg (by omega), Int.add_zero]
      refine ok_eq (a := Fl.nx [some (cP c), some (iP turns), some (bP bs), some (.loc s.length), some (.int k), none]) (s := s ++ [.lst (tpP (turns.take (k + 1)) (bs.take (k + 1)))]) ?_ ⟨_, rfl, rfl⟩
      rw [← hset]
      simp [iP, bP, at1, at2, at3, hix]
    · rintro l S ⟨a4, rfl, rfl⟩
      dsimp only
      rw [List.length_map, List.length_range, List.take_length, List.take_of_length_le (by omega)]
      have e3 : evA (envA pg n) (.lc (.v 5) (.ex (.ix (.v 0) (.int 1))) .nil (.bin .mul (.ix (.v 5) (.int 2)) (.b2 .max (.int 0) (.bin .sub (.ix (.v 3) (.ix (.v 5) (.int 0))) (.ix (.v 5) (.int 1))))) [5]) [some (cP c), some (iP turns), some (bP bs), some (.loc s.length), a4, none] (s ++ [.lst (tpP turns bs)]) = .ok (.loc (s ++ [O.lst (tpP turns bs)]).length) (s ++ [O.lst (tpP turns bs)] ++ [.lst ((c.ts.map fun t => t.2.2 * (if cT t.1 turns bs - t.2.1 > 0 then cT t.1 turns bs - t.2.1 else 0)).map P.int)]) := by
        have hk : Ok (evA (envA pg n) (.lc (.v 5) (.ex (.ix (.v 0) (.int 1))) .nil (.bin .mul (.ix (.v 5) (.int 2)) (.b2 .max (.int 0) (.bin .sub (.ix (.v 3) (.ix (.v 5) (.int 0))) (.ix (.v 5) (.int 1))))) [5]) [some (cP c), some (iP turns), some (bP bs), some (.loc s.length), a4, none] (s ++ [.lst (tpP turns bs)])) fun r s' => r = .loc (s ++ [O.lst (tpP turns bs)]).length ∧ s' = s ++ [O.lst (tpP turns bs)] ++ [.lst ((c.ts.map fun t => t.2.2 * (if cT t.1 turns bs - t.2.1 > 0 then cT t.1 turns bs - t.2.1 else 0)).map P.int)] := by
          refine ok_lcm (s1 := s ++ [O.lst (tpP turns bs)]) (gd := fun _ => True) c.ts tP (fun t => .int (t.2.2 * (if cT t.1 turns bs - t.2.1 > 0 then cT t.1 turns bs - t.2.1 else 0))) ?_ trivial ?_ (by unfold SZ; omega) ⟨rfl, ?_⟩
          · simp [cP, stays]
          · intro t htm
            obtain ⟨c0, c1, c2⟩ := hc t htm
            obtain ⟨q, hq⟩ := Int.eq_ofNat_of_zero_le c0
            have hq5 : q < 5 := by omega
            have at3 : atI (tpP turns bs) (q : Int) = some (.int (cT q turns bs)) := by
              rw [atI_nat]; unfold tpP; rw [List.getElem?_map, List.getElem?_range hq5]; rfl
            have hbd := cT_bound q turns bs
            have hsm : small (if t.2.1 < cT q turns bs then cT q turns bs - t.2.1 else 0) := by
              refine small_of ?_ ?_ <;> split <;> omega
            simp [wipe, tP, hq, at3, hsm]
          · rw [List.map_map]; rfl
        obtain ⟨r, s', e, rfl, rfl⟩ := hk
        exact e
      have hsum : b1P .sum (.loc (s ++ [O.lst (tpP turns bs)]).length) (s ++ [O.lst (tpP turns bs)] ++ [.lst ((c.ts.map fun t => t.2.2 * (if cT t.1 turns bs - t.2.1 > 0 then cT t.1 turns bs - t.2.1 else 0)).map P.int)]) = .ok (.int (lawN c turns bs)) (s ++ [O.lst (tpP turns bs)] ++ [.lst ((c.ts.map fun t => t.2.2 * (if cT t.1 turns bs - t.2.1 > 0 then cT t.1 turns bs - t.2.1 else 0)).map P.int)]) := by
        rw [u_sum, u_seq, at_new]
        dsimp only
        rw [Option.bind_some, intsOf_map]
        rfl
      refine ok_eq (a := Fl.ret (.int (lawN c turns bs))) (s := s ++ [O.lst (tpP turns bs)] ++ [.lst ((c.ts.map fun t => t.2.2 * (if cT t.1 turns bs - t.2.1 > 0 then cT t.1 turns bs - t.2.1 else 0)).map P.int)]) ?_ (ok_eq rfl ⟨rfl, Grow.add.trans Grow.add, rfl, rfl⟩)
      rw [xs_cons, x_ret, e_b1, e3, bind_ok, hsum]
      rfl
  obtain ⟨r, s', e, rfl, rfl⟩ := key
  exact e
end K98
namespace K98
open Pa
theorem bools_all : ∀ {xs : List P}, (∀ x ∈ xs, ∃ b, x = .bl b) → ∃ bs, boolsOf xs = some bs
  | [], _ => ⟨[], rfl⟩
  | x :: xs, h => by
    obtain ⟨bs, hb⟩ := bools_all (xs := xs) fun y hy => h y (List.mem_cons_of_mem _ hy)
    obtain ⟨b, rfl⟩ := h x (List.mem_cons_self ..)
    exact ⟨b :: bs, by show (boolsOf xs).map (b :: ·) = _; rw [hb]; rfl⟩
theorem bools_not {xs : List P} {x : P} (hx : x ∈ xs) (h : ∀ b, x ≠ .bl b) : boolsOf xs = none := by
  cases e : boolsOf xs with
  | none => rfl
  | some bs =>
    rw [boolsOf_map e] at hx
    obtain ⟨b, _, rfl⟩ := List.mem_map.mp hx
    exact absurd rfl (h b)
theorem val_drop (p : Int) : ∀ (a : Nat) (ts : List Int) (bs : List Bool), (val p (ts.drop a) (bs.drop a)).1 = false → (val p ts bs).1 = false
  | 0, _, _, h => by simpa using h
  | a + 1, [], bs, h => by rw [List.drop_nil] at h; exact absurd h (by cases bs.drop (a + 1) <;> simp [val])
  | a + 1, t :: ts, [], h => by
    rw [List.drop_nil] at h
    exact absurd h (by cases (t :: ts).drop (a + 1) <;> simp [val])
  | a + 1, t :: ts, b :: bs, h => by
    have := val_drop p a ts bs h
    rw [val_cons, this]
    rfl
theorem lic_other (n : Nat) (p : Int) (turns : List Int) (thing : P) (s : S) (ht : isiP .tup thing s = some false) (hq : isCh p turns thing = false) : callA pg (n + 1) 30 [.int p, iP turns, thing] s = .ok (.bl (isCh p turns thing)) s := by
  have key : Ok (callA pg (n + 1) 30 [.int p, iP turns, thing] s) fun r s' => r = .bl (isCh p turns thing) ∧ s' = s := by
    rw [calA (b := d30) rfl]
    simp [runA, d30, b30, ht, hq]
    refine ok_gc ?_
    simp [bnd, Grow.refl]
  obtain ⟨r, s', e, rfl, rfl⟩ := key
  exact e
theorem lic_tup (n : Nat) (p : Int) (turns : List Int) (xs : List P) (s : S) (hl : turns.length ≤ 20) (hs : ∀ x ∈ xs, scalP x = true) : Ok (callA pg (n + 1) 30 [.int p, iP turns, .tup xs] s) fun r s' => r = .bl (isCh p turns (.tup xs)) ∧ s' = s := by
  rw [calA (b := d30) rfl, runA_ok ⟨rfl, by decide⟩]
  simp only [d30, b30]
  refine ok_gc ?_
  rw [xs_cons]
  have hl0 : List.map some [P.int p, iP turns, P.tup xs] ++ List.replicate (7 - [P.int p, iP turns, P.tup xs].length) none = [some (.int p), some (iP turns), some (.tup xs), none, none, none, none] := rfl
  rw [hl0]
  by_cases hn : xs.length = turns.length
  · have q1 : exA (envA pg n) (.ife (.or (.not (.isi (.v 2) .tup)) (.cmp .ne (.b1 .len (.v 2)) (.b1 .len (.v 1)))) (.cons (.ret (.bl false)) .nil) .nil) [some (.int p), some (iP turns), some (.tup xs), none, none, none, none] s = .ok (.nx [some (.int p), some (iP turns), some (.tup xs), none, none, none, none]) s := by
      simp [isiP, iP, hn]
    rw [q1, bind_ok]
    dsimp only
    rw [xs_cons]
    refine ok_bind (ok_bind ?_)
    refine ok_for (s1 := s) (w := (xs, fun _ => True)) (fun i l S => ∃ a3, l = [some (.int p), some (iP turns), some (.tup xs), a3, none, none, none] ∧ S = s ∧ ∀ x ∈ xs.take i, ∃ b, x = .bl b) ?_ ?_ ?_ ?_ ?_
    · simp [stays]
    · exact ⟨none, rfl, rfl, fun x hx => by cases hx⟩
    · intros; trivial
    · rintro i x l S hx ⟨a3, rfl, rfl, q⟩
      have hxm : x ∈ xs := List.mem_of_getElem? hx
      have hsx := isi_scal (hs x hxm) S
      by_cases hb : ∃ b, x = .bl b
      · obtain ⟨b, rfl⟩ := hb
        refine ok_eq (a := Fl.nx [some (.int p), some (iP turns), some (.tup xs), some (.bl b), none, none, none]) (s := S) (by simp [isiP]) ⟨_, rfl, rfl, fun y hy => ?_⟩
        rw [List.take_succ] at hy
        rcases List.mem_append.mp hy with z | z
        · exact q y z
        · have : y = .bl b := by
            dsimp only at hx
            rw [hx] at z
            simpa using z
          exact ⟨b, this⟩
      · have hnb : ∀ b, x ≠ .bl b := fun b e => hb ⟨b, e⟩
        have hf : isiP .bool x S = some false := by
          rw [hsx]
          cases x <;> first | rfl | exact absurd rfl (hnb _)
        refine ok_eq (a := Fl.ret (.bl false)) (s := S) (by simp [hf]) ?_
        refine ok_eq rfl (ok_eq rfl ⟨rfl, Grow.refl, ?_, rfl⟩)
        have : isCh p turns (.tup xs) = false := by
          unfold isCh
          dsimp only
          rw [bools_not hxm hnb]
          simp
        rw [this]
    · rintro l S ⟨a3, rfl, rfl, q⟩
      dsimp only at q
      rw [List.take_length] at q
      obtain ⟨bs, hbs⟩ := bools_all q
      have exs := boolsOf_map hbs
      subst exs
      have hbl : bs.length = turns.length := by simpa using hn
      have hch : isCh p turns (.tup (bs.map P.bl)) = (val p turns bs).1 := isCh_bP hbl
      rw [hch]
      dsimp only
      rw [xs_cons]
      have q2 : exA (envA pg n) (.asg (.v 4) (.bl false)) [some (.int p), some (iP turns), some (.tup (bs.map P.bl)), a3, none, none, none] S = .ok (.nx [some (.int p), some (iP turns), some (.tup (bs.map P.bl)), a3, some (.bl false), none, none]) S := by simp
      rw [q2, bind_ok]
      dsimp only
      rw [xs_cons]
      refine ok_bind ?_
      refine ok_for (s1 := S) (w := ((List.range turns.length).map (fun i : Nat => P.int i), fun _ => True)) (fun i l S' => ∃ a5 a6, l = [some (.int p), some (iP turns), some (.tup (bs.map P.bl)), a3, some (.bl (val p (turns.drop (turns.length - i)) (bs.drop (turns.length - i))).2), a5, a6] ∧ S' = S ∧ (val p (turns.drop (turns.length - i)) (bs.drop (turns.length - i))).1 = true) ?_ ?_ ?_ ?_ ?_
      · exact ei_rngN (by simp [iP]) (by unfold SZ; omega)
      · refine ⟨none, none, ?_, rfl, ?_⟩
        · rw [Nat.sub_zero, List.drop_length, ← hbl, List.drop_length]; rfl
        · rw [Nat.sub_zero, List.drop_length, ← hbl, List.drop_length]; rfl
      · intros; trivial
      · rintro i y l S' hy ⟨a5, a6, rfl, rfl, r1⟩
        obtain ⟨k, hk, rfl⟩ := map_at hy
        obtain ⟨hi', hj'⟩ := List.getElem?_eq_some_iff.mp hk
        have hi : i < turns.length := by simpa using hi'
        have hki : k = i := by simpa using hj'.symm
        subst hki
        obtain ⟨a, ha⟩ : ∃ a, a = turns.length - (k + 1) := ⟨_, rfl⟩
        have ha1 : turns.length - k = a + 1 := by omega
        have hat : a < turns.length := by omega
        have hab : a < bs.length := by omega
        have ei : ((turns.length : Int) - 1 - k) = (a : Int) := by omega
        have at1 : atI (turns.map P.int) (a : Int) = some (.int turns[a]) := by rw [atI_nat, List.getElem?_map, List.getElem?_eq_getElem hat]; rfl
        have at2 : atI (bs.map P.bl) (a : Int) = some (.bl bs[a]) := by rw [atI_nat, List.getElem?_map, List.getElem?_eq_getElem hab]; rfl
        have ev : val p (turns.drop a) (bs.drop a) = ((val p (turns.drop (a + 1)) (bs.drop (a + 1))).1 && !((val p (turns.drop (a + 1)) (bs.drop (a + 1))).2 && (turns[a] == p) && !bs[a]), bs[a] || (val p (turns.drop (a + 1)) (bs.drop (a + 1))).2) := by
          rw [List.drop_eq_getElem_cons hat, List.drop_eq_getElem_cons hab, val_cons]
        rw [ha1] at r1 ⊢
        rw [← ha]
        rw [r1] at ev
        generalize (val p (turns.drop (a + 1)) (bs.drop (a + 1))).2 = v at ev ⊢
        by_cases hbad : v = true ∧ turns[a] = p ∧ bs[a] = false
        · obtain ⟨b1, b2, b3⟩ := hbad
          refine ok_eq (a := Fl.ret (.bl false)) (s := S') ?_ ?_
          · simp [iP, ei, at1, at2, b1, b2, b3]
          · refine ok_eq rfl (ok_eq rfl ⟨rfl, Grow.refl, ?_, rfl⟩)
            rw [val_drop p a turns bs (by rw [ev]; simp [b1, b2, b3])]
        · refine ok_eq (a := Fl.nx [some (.int p), some (iP turns), some (.tup (bs.map P.bl)), a3, some (.bl (bs[a] || v)), some (.int k), some (.int a)]) (s := S') ?_ ⟨some (.int k), some (.int a), ?_, rfl, ?_⟩
          · cases hv : v with
            | false => cases hb : bs[a] <;> simp [iP, ei, at1, at2, hb]
            | true =>
              by_cases ht : turns[a] = p
              · have hb : bs[a] = true := by
                  cases hb : bs[a] with
                  | true => rfl
                  | false => exact absurd ⟨hv, ht, hb⟩ hbad
                simp [iP, ei, at1, at2, ht, hb]
              · cases hb : bs[a] <;> simp [iP, ei, at1, at2, ht, hb]
          · rw [ev]
          · rw [ev]
            by_cases ht : turns[a] = p
            · cases hv : v <;> cases hb : bs[a] <;> simp [ht] <;> exact absurd ⟨hv, ht, hb⟩ hbad
            · simp [ht]
      · rintro l S' ⟨a5, a6, rfl, rfl, r1⟩
        dsimp only at r1
        rw [List.length_map, List.length_range, Nat.sub_self, List.drop_zero, List.drop_zero] at r1
        refine ok_eq (a := Fl.ret (.bl true)) (s := S') (by simp) (ok_eq rfl ⟨rfl, Grow.refl, by rw [r1], rfl⟩)
  · have hn' : ¬ (xs.length : Int) = turns.length := by omega
    have hf : isCh p turns (.tup xs) = false := by unfold isCh; simp [hn]
    have q1 : exA (envA pg n) (.ife (.or (.not (.isi (.v 2) .tup)) (.cmp .ne (.b1 .len (.v 2)) (.b1 .len (.v 1)))) (.cons (.ret (.bl false)) .nil) .nil) [some (.int p), some (iP turns), some (.tup xs), none, none, none, none] s = .ok (.ret (.bl false)) s := by
      simp [isiP, iP, hn']
    rw [q1, bind_ok, hf]
    exact ok_eq rfl ⟨rfl, Grow.refl, rfl, rfl⟩
theorem s_law_is_choice (n : Nat) (p : Int) (turns : List Int) (thing : P) (s : S) (hl : turns.length ≤ 20) (ha : Askd s thing) : callA pg (n + 1) 30 [.int p, iP turns, thing] s = .ok (.bl (isCh p turns thing)) s := by
  cases thing with
  | non => exact lic_other n p turns _ s rfl rfl
  | bl b => exact lic_other n p turns _ s rfl rfl
  | int b => exact lic_other n p turns _ s rfl rfl
  | str b => exact lic_other n p turns _ s rfl rfl
  | rol b => exact ha.elim
  | loc k =>
    obtain ⟨xs, h⟩ := ha
    exact lic_other n p turns _ s (by unfold isiP; simp [h]) rfl
  | tup xs =>
    obtain ⟨r, s', e, rfl, rfl⟩ := lic_tup n p turns xs s hl ha.1
    exact e
end K98
namespace K98
open Pa
open PySem (PyData)
/-- what a bent row is: a new list, or a thing without a place -/
def Bent (n0 : Nat) (S : S) (p : P) : Prop := (∃ k xs, p = .loc k ∧ n0 ≤ k ∧ S[k]? = some (.lst xs)) ∨ (bnd n0 p = true ∧ ∀ S', Askd S' p)
theorem ok_bent {j : Nat} {s : S} {r : R P} (hj : j < s.length) (h : Ok r fun p s1 => Jg j s s1 ∧ Bent s.length s1 p) : Ok (gc s r) fun p s' => Jg j s s' ∧ Askd s' p := by
  obtain ⟨p, s1, e, h1, h2⟩ := h
  rcases h2 with ⟨k, xs, rfl, hk, hx⟩ | ⟨h2, h3⟩
  · refine ok_imp (ok_gcjn (j := j) (Q := fun p S => Askd S p) ⟨_, s1, e, ?_, h1, ⟨xs, hx⟩⟩) fun a b q => q
    simp [bnd]; omega
  · exact ok_imp (ok_gcj hj (Q := fun p => ∀ S, Askd S p) ⟨p, s1, e, h2, h1, h3⟩) fun a b q => ⟨q.1.toJg, q.2 b⟩
theorem bent_tup {n0 : Nat} {S : S} {xs : List P} (h : ∀ x ∈ xs, scalP x = true) (hl : xs.length ≤ SZ) : Bent n0 S (.tup xs) := by
  refine .inr ⟨?_, fun S' => ⟨h, hl⟩⟩
  show bnds n0 xs = true
  induction xs with
  | nil => rfl
  | cons x xs ih =>
    show (bnd n0 x && bnds n0 xs) = true
    rw [ih (fun y hy => h y (List.mem_cons_of_mem _ hy)) (by simp at hl; omega)]
    have := h x (List.mem_cons_self ..)
    cases x <;> first | rfl | (cases this; done)
theorem bent_sc {n0 : Nat} {S : S} {x : P} (h : x = .non ∨ x = .bl true ∨ x = .int 0 ∨ x = .str "TF") : Bent n0 S x := by
  rcases h with rfl | rfl | rfl | rfl
  · exact .inr ⟨rfl, fun _ => trivial⟩
  · exact .inr ⟨rfl, fun _ => trivial⟩
  · exact .inr ⟨rfl, fun _ => trivial⟩
  · exact .inr ⟨rfl, fun _ => trivial⟩
theorem shaped_bools (bs : List Bool) : PySem.SeqAt.shaped (.list (pds (bs.map P.bl))) = true := by
  rw [pds_bools]
  unfold PySem.SeqAt.shaped
  have h1 : ∀ l : List Bool, PyData.canLayAll0 (l.map PyData.bool) = true := fun l => by
    induction l with
    | nil => rfl
    | cons a l ih => show (true && PyData.canLayAll0 (l.map PyData.bool)) = true; rw [ih]; rfl
  have e : (PyData.list (bs.map PyData.bool)).canLay0 = true := h1 bs
  rw [e]
  have : (PyData.list (bs.map PyData.bool)).depth ≤ 64 := by
    simp [PyData.depth, depth_bools]
  simpa using this
theorem pures_bools (l : List Bool) : pures? (l.map P.bl) = true := pures_map (fun a => rfl) l
/-- row != [] -/
theorem row_ne (G : Env) (a : Nat) (bs : List Bool) (l : Loc) (s : S) (e : Ex) (he : evA G e l s = .ok (.loc a) s) (ha : s[a]? = some (.lst (bs.map P.bl))) : evA G (.cmp .ne e (.lst .nil)) l s = .ok (.bl !bs.isEmpty) (s ++ [.lst []]) := by
  have h1 : (s ++ [O.lst []])[a]? = some (.lst (bs.map P.bl)) := Grow.add.at ha
  have hne := ne_nil a s.length _ _ h1 (at_new _ _) (pures_bools bs) (shaped_bools bs)
  have hi : (bs.map P.bl).isEmpty = bs.isEmpty := by cases bs <;> rfl
  rw [hi] at hne
  rw [e_cmp, he, bind_ok, e_lst, es_nil, bind_ok]
  simp only [alloc, bind_ok]
  exact hne
theorem scal_bools {bs : List Bool} : ∀ x ∈ bs.map P.bl, scalP x = true := fun x hx => by
  obtain ⟨b, _, rfl⟩ := List.mem_map.mp hx
  rfl
theorem s_law_bent (n j : Nat) (turns : List Int) (bs : List Bool) (s : S) (hJ : Jar j s) (hl : bs.length ≤ 20) : Ok (callA pg (n + 2) 31 [.loc j, iP turns, bP bs] s) fun r s' => Jg j s s' ∧ Askd s' r := by
  have hj := hJ.lt
  obtain ⟨r1, S1, e1, m1, z, z0, z1, rfl⟩ := s_drw n j 7 (s ++ [.lst (bs.map P.bl)]) (hJ.grow Grow.add) (by omega)
  have hl1 : S1.length = s.length + 1 := by rw [m1.same]; simp
  have hv : S1[s.length]? = some (.lst (bs.map P.bl)) := m1.at (by omega) (at_new _ _)
  have g1 : Jg j s S1 := (Jg.of_grow hJ Grow.add).trans m1.toJg
  rw [calA (b := d31) rfl, runA_ok ⟨rfl, by decide⟩]
  simp only [d31, b31]
  refine ok_bent hj ?_
  rw [xs_cons]
  have q1 : exA (envA pg (n + 1)) (.asg (.v 3) (.b1 .list (.v 2))) (List.map some [P.loc j, iP turns, bP bs] ++ List.replicate (7 - [P.loc j, iP turns, bP bs].length) none) s = .ok (.nx [some (.loc j), some (iP turns), some (bP bs), some (.loc s.length), none, none, none]) (s ++ [.lst (bs.map P.bl)]) := by
    have hlist : b1P .list (bP bs) s = .ok (.loc s.length) (s ++ [.lst (bs.map P.bl)]) := rfl
    simp [hlist]
  rw [q1, bind_ok]
  dsimp only
  rw [xs_cons]
  have q2 : exA (envA pg (n + 1)) (.asg (.v 4) (.call 25 (.cons (.v 0) (.cons (.int 7) .nil)))) [some (.loc j), some (iP turns), some (bP bs), some (.loc s.length), none, none, none] (s ++ [.lst (bs.map P.bl)]) = .ok (.nx [some (.loc j), some (iP turns), some (bP bs), some (.loc s.length), some (.int z), none, none]) S1 := by simp [e1]
  rw [q2, bind_ok]
  dsimp only
  by_cases c0 : z = 0
  · subst c0
    refine ok_eq (a := .loc s.length) (s := S1) (by simp) ⟨g1, .inl ⟨_, _, rfl, Nat.le_refl _, hv⟩⟩
  by_cases c1 : z = 1
  · subst c1
    obtain ⟨r2, S2, e2, m2, u, u0, u1, rfl⟩ := s_drw n j 2 (S1 ++ [.lst [.bl false, .bl true]]) (m1.jar.grow Grow.add) (by omega)
    have hl2 : S2.length = S1.length + 1 := by rw [m2.same]; simp
    have hft : S2[S1.length]? = some (.lst [.bl false, .bl true]) := m2.at (by omega) (at_new _ _)
    have hr2 : S2[s.length]? = some (.lst (bs.map P.bl)) := m2.at (by omega) (Grow.add.at hv)
    obtain ⟨x, hx, hat⟩ := atI_in (xs := [P.bl false, .bl true]) u0 (by simpa using u1)
    have hx' : ∃ b, x = .bl b := by
      simp only [List.mem_cons, List.not_mem_nil, or_false] at hx
      rcases hx with rfl | rfl <;> exact ⟨_, rfl⟩
    obtain ⟨b, rfl⟩ := hx'
    have hr3 : (S2 ++ [O.lst [P.bl b]])[s.length]? = some (.lst (bs.map P.bl)) := Grow.add.at hr2
    have hlen : bs.length + 1 ≤ SZ := by unfold SZ; omega
    have g2 : Jg j s (S2 ++ [O.lst [P.bl b], O.lst ((bs ++ [b]).map P.bl)]) := (g1.trans ((Jg.of_grow m1.jar Grow.add).trans m2.toJg)).add _
    refine ok_eq (a := .tup ((bs ++ [b]).map P.bl)) (s := S2 ++ [O.lst [P.bl b], O.lst ((bs ++ [b]).map P.bl)]) ?_ ⟨g2, bent_tup scal_bools (by simpa using hlen)⟩
    simp [alloc, e2, hft, hat, u_cat, hr3, hlen]
  by_cases c2 : z = 2
  · subst c2
    have e3 : evA (envA pg (n + 1)) (.lc (.v 6) (.ex (.v 3)) .nil (.b1 .int (.v 6)) [6]) [some (.loc j), some (iP turns), some (bP bs), some (.loc s.length), some (.int 2), none, none] S1 = .ok (.loc S1.length) (S1 ++ [.lst (bs.map fun b => .int (if b = true then 1 else 0))]) := by
      have hk : Ok (evA (envA pg (n + 1)) (.lc (.v 6) (.ex (.v 3)) .nil (.b1 .int (.v 6)) [6]) [some (.loc j), some (iP turns), some (bP bs), some (.loc s.length), some (.int 2), none, none] S1) fun r s' => r = .loc S1.length ∧ s' = S1 ++ [.lst (bs.map fun b => .int (if b = true then 1 else 0))] := by
        refine ok_lcm (s1 := S1) (gd := stays (.loc s.length) S1) bs P.bl (fun b => .int (if b = true then 1 else 0)) ?_ rfl ?_ (by unfold SZ; omega) ⟨rfl, rfl⟩
        · simp [hv]
        · intro y _
          simp [wipe]
      obtain ⟨r, s', e, rfl, rfl⟩ := hk
      exact e
    refine ok_eq (a := .tup (bs.map fun b => .int (if b = true then 1 else 0))) (s := S1 ++ [.lst (bs.map fun b => .int (if b = true then 1 else 0))]) (by simp [e3]) ⟨g1.add _, bent_tup (fun x hx => ?_) (by simp; unfold SZ; omega)⟩
    obtain ⟨b, _, rfl⟩ := List.mem_map.mp hx
    rfl
  by_cases c3 : z = 3
  · subst c3
    obtain ⟨cs, hcs⟩ : ∃ cs : List P, cs = cut (bs.map P.bl) none (some ((bs.length : Int) - 1)) := ⟨_, rfl⟩
    have hcsm : ∀ x ∈ cs, scalP x = true := fun x hx => by
      rw [hcs] at hx
      exact scal_bools (bs := bs) x (List.mem_of_mem_drop (List.mem_of_mem_take hx))
    have hcsl : cs.length ≤ SZ := by
      rw [hcs]
      unfold cut
      rw [List.length_take, List.length_drop, List.length_map]
      unfold SZ
      omega
    have hsl : slP (.loc s.length) none (some ((bs.length : Int) - 1)) S1 = .ok (.loc S1.length) (S1 ++ [.lst cs]) := by
      unfold slP
      simp only [hv, ← hcs, alloc]
    obtain ⟨r2, S2, e2, m2, u, u0, u1, rfl⟩ := s_drw n j 6 (S1 ++ [.lst cs, .lst [.non, .bl true, .tup [], .int 0, .str "TF", .tup cs]]) (m1.jar.grow Grow.add) (by omega)
    have hl2 : S2.length = S1.length + 2 := by rw [m2.same]; simp
    have hft : S2[S1.length + 1]? = some (.lst [.non, .bl true, .tup [], .int 0, .str "TF", .tup cs]) := m2.at (by omega) (by simp)
    obtain ⟨x, hx, hat⟩ := atI_in (xs := [P.non, .bl true, .tup [], .int 0, .str "TF", .tup cs]) u0 (by simpa using u1)
    have g2 : Jg j s S2 := g1.trans ((Jg.of_grow m1.jar Grow.add).trans m2.toJg)
    refine ok_eq (a := x) (s := S2) (by simp [alloc, hv, hsl, e2, hft, hat]) ⟨g2, ?_⟩
    simp only [List.mem_cons, List.not_mem_nil, or_false] at hx
    rcases hx with rfl | rfl | rfl | rfl | rfl | rfl
    · exact bent_sc (.inl rfl)
    · exact bent_sc (.inr (.inl rfl))
    · exact bent_tup (fun x hx => by cases hx) (Nat.zero_le _)
    · exact bent_sc (.inr (.inr (.inl rfl)))
    · exact bent_sc (.inr (.inr (.inr rfl)))
    · exact bent_tup hcsm hcsl
  · have k0 : (z == 0) = false := by simpa using c0
    have k1 : (z == 1) = false := by simpa using c1
    have k2 : (z == 2) = false := by simpa using c2
    have k3 : (z == 3) = false := by simpa using c3
    have hrow := row_ne (envA pg (n + 1)) s.length bs [some (.loc j), some (iP turns), some (bP bs), some (.loc s.length), some (.int z), none, none] S1 (.v 3) (by simp) hv
    have hv2 : (S1 ++ [O.lst []])[s.length]? = some (.lst (bs.map P.bl)) := Grow.add.at hv
    have g2 : Jg j s (S1 ++ [O.lst []]) := g1.add _
    have hl2 : (S1 ++ [O.lst []]).length = s.length + 2 := by simp [hl1]
    generalize S1 ++ [O.lst []] = S2 at hrow hv2 g2 hl2
    have f1 : ∀ k : Int, (z == k) = false → ∀ A l S, l[4]? = some (some (.int z)) → exA (envA pg (n + 1)) (.ife (.cmp .eq (.v 4) (.int k)) A .nil) l S = .ok (.nx l) S := fun k hk A l S h4 => by
      rw [x_ife, cond_eq, e_cmp, e_v, h4]
      simp [hk]
    cases hb : bs with
    | nil =>
      subst hb
      refine ok_eq (a := .tup []) (s := S2) ?_ ⟨g2, bent_tup (fun x hx => by cases hx) (Nat.zero_le _)⟩
      simp only [List.isEmpty_nil, Bool.not_true] at hrow
      rw [xs_cons, f1 0 k0 _ _ _ rfl, bind_ok]
      dsimp only
      rw [xs_cons, f1 1 k1 _ _ _ rfl, bind_ok]
      dsimp only
      rw [xs_cons, f1 2 k2 _ _ _ rfl, bind_ok]
      dsimp only
      rw [xs_cons, f1 3 k3 _ _ _ rfl, bind_ok]
      dsimp only
      rw [xs_cons, x_ife, cond_eq, hrow, bind_ok, t_bl, ofO_some, bind_ok, if_neg (by decide), xs_nil, bind_ok]
      simp [hv2]
    | cons b0 br =>
      rw [← hb]
      have hne : bs.isEmpty = false := by rw [hb]; rfl
      rw [hne] at hrow
      have hpos : 0 < bs.length := by rw [hb]; simp
      obtain ⟨r3, S3, e3, m3, u, u0, u1, rfl⟩ := s_drw n j bs.length S2 g2.jar (by omega)
      obtain ⟨u, rfl⟩ := Int.eq_ofNat_of_zero_le u0
      have hu : u < bs.length := by omega
      have hl3 : S3.length = S2.length := m3.same
      have hv3 : S3[s.length]? = some (.lst (bs.map P.bl)) := m3.at (by omega) hv2
      obtain ⟨r4, S4, e4, m4, w, w0, w1, rfl⟩ := s_drw n j 4 (S3 ++ [.lst [.int 0, .int 1, .non, .str "1"]]) (m3.jar.grow Grow.add) (by omega)
      have hl4 : S4.length = S3.length + 1 := by rw [m4.same]; simp
      have hft : S4[S3.length]? = some (.lst [.int 0, .int 1, .non, .str "1"]) := m4.at (by omega) (at_new _ _)
      have hv4 : S4[s.length]? = some (.lst (bs.map P.bl)) := m4.at (by omega) (Grow.add.at hv3)
      obtain ⟨y, hy, hat⟩ := atI_in (xs := [P.int 0, .int 1, .non, .str "1"]) w0 (by simpa using w1)
      have hys : scalP y = true := by
        simp only [List.mem_cons, List.not_mem_nil, or_false] at hy
        rcases hy with rfl | rfl | rfl | rfl <;> rfl
      have hix : ixN bs.length (u : Int) = some u := by unfold ixN; simp; omega
      have hat2 : atI (bs.map P.bl) (u : Int) = some (.bl bs[u]) := by rw [atI_nat, List.getElem?_map, List.getElem?_eq_getElem hu]; rfl
      obtain ⟨q, hq⟩ : ∃ q : Nat, q < 2 ∧ ∀ st, b1P .int (.bl (z == 4)) st = .ok (.int q) st := by
        cases (z == 4) with
        | true => exact ⟨1, by omega, fun st => rfl⟩
        | false => exact ⟨0, by omega, fun st => rfl⟩
      obtain ⟨hq2, hq⟩ := hq
      obtain ⟨v, hvv, hatv⟩ := atI_in (xs := [P.bl !bs[u], y]) (v := (q : Int)) (by omega) (by simp; omega)
      have hvs : scalP v = true := by
        simp only [List.mem_cons, List.not_mem_nil, or_false] at hvv
        rcases hvv with rfl | rfl
        · rfl
        · exact hys
      have hv5 : (S4 ++ [O.lst [P.bl !bs[u], y]])[s.length]? = some (.lst (bs.map P.bl)) := Grow.add.at hv4
      have hn5 : (S4 ++ [O.lst [P.bl !bs[u], y]])[S4.length]? = some (.lst [P.bl !bs[u], y]) := at_new _ _
      have g5 : Jg j s (S4 ++ [O.lst [P.bl !bs[u], y]]) := (g2.trans (m3.toJg.trans ((Jg.of_grow m3.jar Grow.add).trans m4.toJg))).add _
      have hl5 := (List.getElem?_eq_some_iff.mp hv5).1
      have hself : ((S4 ++ [O.lst [P.bl !bs[u], y]]).set s.length (.lst ((bs.map P.bl).set u v)))[s.length]? = some (.lst ((bs.map P.bl).set u v)) := List.getElem?_set_self hl5
      have g6 : Jg j s ((S4 ++ [O.lst [P.bl !bs[u], y]]).set s.length (.lst ((bs.map P.bl).set u v))) := g5.set (Nat.le_refl _) hj
      have hval : evA (envA pg (n + 1)) (.ix (.lst (.cons (.not (.ix (.v 3) (.v 5))) (.cons (.ix (.lst (.cons (.int 0) (.cons (.int 1) (.cons .non (.cons (.str "1") .nil))))) (.call 25 (.cons (.v 0) (.cons (.int 4) .nil)))) .nil))) (.b1 .int (.cmp .eq (.v 4) (.int 4)))) [some (.loc j), some (iP turns), some (bP bs), some (.loc s.length), some (.int z), some (.int u), none] S3 = .ok v (S4 ++ [O.lst [P.bl !bs[u], y]]) := by
        simp [hv3, hat2, alloc, e4, hft, hat, hq, hn5, hatv]
      generalize hS5 : S4 ++ [O.lst [P.bl !bs[u], y]] = S5 at hval hv5 hn5 g5 hl5 hself g6
      refine ok_eq (a := .tup ((bs.map P.bl).set u v)) (s := S5.set s.length (.lst ((bs.map P.bl).set u v))) ?_ ⟨g6, bent_tup (fun x hx => ?_) (by simp; unfold SZ; omega)⟩
      · rw [xs_cons, f1 0 k0 _ _ _ rfl, bind_ok]
        dsimp only
        rw [xs_cons, f1 1 k1 _ _ _ rfl, bind_ok]
        dsimp only
        rw [xs_cons, f1 2 k2 _ _ _ rfl, bind_ok]
        dsimp only
        rw [xs_cons, f1 3 k3 _ _ _ rfl, bind_ok]
        dsimp only
        rw [xs_cons, x_ife, cond_eq, hrow, bind_ok, t_bl, ofO_some, bind_ok, if_pos (by decide), xs_cons]
        have f2 : exA (envA pg (n + 1)) (.asg (.v 5) (.call 25 (.cons (.v 0) (.cons (.b1 .len (.v 3)) .nil)))) [some (.loc j), some (iP turns), some (bP bs), some (.loc s.length), some (.int z), none, none] S2 = .ok (.nx [some (.loc j), some (iP turns), some (bP bs), some (.loc s.length), some (.int z), some (.int u), none]) S3 := by
          simp [hv2, e3]
        rw [f2, bind_ok]
        dsimp only
        rw [xs_cons, x_asgI, hval, bind_ok]
        simp [hv5, hix, hself]
      · rcases List.mem_or_eq_of_mem_set hx with w | w
        · exact scal_bools x w
        · rw [w]; exact hvs
end K98
namespace K98
open Pa
/-! the mathematics of the counted choices -/
theorem dsum_lin (a b : List Int → Int) : ∀ d : KV, dsum (fun k => a k + b k) d = dsum a d + dsum b d
  | [] => rfl
  | (k, v) :: r => by simp only [dsum]; rw [dsum_lin a b r, Int.mul_add]; omega
theorem dsum_zero : ∀ d : KV, dsum (fun _ => 0) d = 0
  | [] => rfl
  | (k, v) :: r => by simp only [dsum]; rw [dsum_zero r]; simp
theorem dsum_over (f : List Int → Int) : ∀ (d acc : KV), dsum f (d.foldl (fun acc kv => addI acc kv.1 kv.2) acc) = dsum f acc + dsum f d
  | [], acc => by simp [dsum]
  | (k, v) :: r, acc => by rw [List.foldl_cons, dsum_over f r, dsum_add]; simp only [dsum]; omega
theorem dsum_go (c : Cl) (p : Int) (f h : List Int → Int) : ∀ (d : KV) (x : KV × KV), dsum h (d.foldl (goStep c p) x).1 + dsum f (d.foldl (goStep c p) x).2 = dsum h x.1 + dsum f x.2 + dsum (fun k => h (topK c p k) + if p = c.p then f k else h k) d
  | [], x => by simp [dsum]
  | (k, v) :: r, x => by
    rw [List.foldl_cons, dsum_go c p f h r]
    unfold goStep
    dsimp only
    split
    · rename_i e
      simp only [dsum, dsum_add, e, if_true, Int.mul_add]
      omega
    · rename_i e
      simp only [dsum, dsum_add, e, if_false, Int.mul_add]
      omega
def adv (c : Cl) : List Int → List Int → List Bool → List Int
  | t :: ts, k, b :: bs => adv c ts (if b = true then topK c t k else k) bs
  | _, k, _ => k
def FF (c : Cl) (ts : List Int) (f : List Int → Int) (k : List Int) : Int := ((rowsN c.p ts).map fun bs => f (adv c ts k bs)).sum
theorem adv_fals (c : Cl) : ∀ (ts : List Int) (k : List Int), adv c ts k (fals ts.length) = k
  | [], k => rfl
  | t :: ts, k => by
    have e : fals (t :: ts).length = false :: fals ts.length := List.replicate_succ
    rw [e]
    show adv c ts k (fals ts.length) = k
    exact adv_fals c ts k
theorem FF_cons (c : Cl) (t : Int) (ts : List Int) (f : List Int → Int) (k : List Int) : FF c (t :: ts) f k = FF c ts f (topK c t k) + if t = c.p then f k else FF c ts f k := by
  unfold FF
  rw [rowsN_cons, List.map_append, List.sum_append, List.map_map, List.map_map]
  have e1 : (rowsN c.p ts).map ((fun bs => f (adv c (t :: ts) k bs)) ∘ (true :: ·)) = (rowsN c.p ts).map fun bs => f (adv c ts (topK c t k) bs) := rfl
  rw [e1]
  split
  · have e2 : [fals ts.length].map ((fun bs => f (adv c (t :: ts) k bs)) ∘ (false :: ·)) = [f (adv c ts k (fals ts.length))] := rfl
    rw [e2, adv_fals]
    simp
    omega
  · have e2 : (rowsN c.p ts).map ((fun bs => f (adv c (t :: ts) k bs)) ∘ (false :: ·)) = (rowsN c.p ts).map fun bs => f (adv c ts k bs) := rfl
    rw [e2]
    omega
theorem run_sum (c : Cl) (f : List Int → Int) : ∀ (ts : List Int) (x : KV × KV), dsum f (ts.foldl (fun x p => goK c p x.1 x.2) x).1 + dsum f (ts.foldl (fun x p => goK c p x.1 x.2) x).2 = dsum (FF c ts f) x.1 + dsum f x.2
  | [], x => by
    have : FF c [] f = f := by funext k; show f (adv c [] k []) + 0 = f k; simp [adv]
    rw [this]
    rfl
  | t :: ts, x => by
    rw [List.foldl_cons, run_sum c f ts]
    unfold goK
    rw [dsum_go c t f (FF c ts f) x.1]
    have e : (fun k => FF c ts f (topK c t k) + if t = c.p then f k else FF c ts f k) = FF c (t :: ts) f := by
      funext k; rw [FF_cons]
    rw [e]
    have e2 : dsum f (goOver x.2) = dsum f x.2 := by
      unfold goOver
      rw [dsum_over]
      simp [dsum]
    show dsum (FF c ts f) [] + dsum f (goOver x.2) + _ = _
    rw [e2]
    simp [dsum]
    omega
theorem all_sum (c : Cl) (turns : List Int) (f : List Int → Int) : dsum f (allK c turns) = FF c turns f (0 :: 0 :: zs c) := by
  unfold allK
  rw [dsum_append]
  have := run_sum c f turns (startK c)
  unfold runK
  rw [this]
  simp [startK, dsum, zs]
def cntB (bs : List Bool) : Int := (bs.filter id).length
theorem adv_form (c : Cl) : ∀ (ts : List Int) (bs : List Bool) (t m : Int) (cs : List Int), ts.length = bs.length → ∃ cs', adv c ts (t :: m :: cs) bs = (t + cntB bs) :: (m + cnt c.ts ts bs cs) :: cs'
  | [], [], t, m, cs, _ => ⟨cs, by simp [adv, cntB, cnt]⟩
  | [], _ :: _, _, _, _, h => by simp at h
  | _ :: _, [], _, _, _, h => by simp at h
  | x :: ts, b :: bs, t, m, cs, h => by
    cases b with
    | true =>
      obtain ⟨cs', e⟩ := adv_form c ts bs (t + 1) (m + (topT c.ts cs x).2) (topT c.ts cs x).1 (by simpa using h)
      refine ⟨cs', ?_⟩
      show adv c ts ((t + 1) :: (m + (topT c.ts cs x).2) :: (topT c.ts cs x).1) bs = _
      rw [e]
      simp [cntB, cnt]
      omega
    | false =>
      obtain ⟨cs', e⟩ := adv_form c ts bs t m cs (by simpa using h)
      refine ⟨cs', ?_⟩
      show adv c ts (t :: m :: cs) bs = _
      rw [e]
      simp [cntB, cnt]
/-- a sum over all counted choices is a sum over all rows -/
theorem all_rows (c : Cl) (turns : List Int) (f : List Int → Int) (g : List Bool → Int) (h : ∀ bs ∈ rowsN c.p turns, ∀ cs, f (cntB bs :: cnt c.ts turns bs (zs c) :: cs) = g bs) : dsum f (allK c turns) = ((rowsN c.p turns).map g).sum := by
  rw [all_sum]
  unfold FF
  congr 1
  refine List.map_congr_left fun bs hb => ?_
  obtain ⟨cs, e⟩ := adv_form c turns bs 0 0 (zs c) (rowsN_len hb).symm
  rw [e, Int.zero_add, Int.zero_add]
  exact h bs hb cs
def pos (z : Int) : Int := if z > 0 then z else 0
def lawZ : List Term → List Int → List Int → List Bool → Int
  | t :: ts, d :: cs, turns, bs => t.2.2 * pos (cT t.1 turns bs - (t.2.1 - d)) + lawZ ts cs turns bs
  | _, _, _, _ => 0
def Below : List Term → List Int → Prop
  | t :: ts, d :: cs => d ≤ t.2.1 ∧ Below ts cs
  | [], [] => True
  | _, _ => False
theorem lawZ_top (x : Int) (turns : List Int) (bs : List Bool) : ∀ (ts : List Term) (cs : List Int), Below ts cs → lawZ ts cs (x :: turns) (true :: bs) = (topT ts cs x).2 + lawZ ts (topT ts cs x).1 turns bs ∧ Below ts (topT ts cs x).1
  | [], [], _ => by simp [lawZ, topT, Below]
  | [], _ :: _, h => h.elim
  | _ :: _, [], h => h.elim
  | t :: ts, d :: cs, h => by
    obtain ⟨i1, i2⟩ := lawZ_top x turns bs ts cs h.2
    have hb := (cT_bound t.1 turns bs).1
    have hd := h.1
    have e0 : lawZ (t :: ts) (d :: cs) (x :: turns) (true :: bs) = t.2.2 * pos (cT t.1 (x :: turns) (true :: bs) - (t.2.1 - d)) + ((topT ts cs x).2 + lawZ ts (topT ts cs x).1 turns bs) := by
      rw [← i1]; rfl
    rw [e0]
    by_cases e : t.1 = x
    · have ec : cT t.1 (x :: turns) (true :: bs) = 1 + cT t.1 turns bs := by simp [cT, e]
      rw [ec]
      by_cases l : d < t.2.1
      · have et : topT (t :: ts) (d :: cs) x = ((d + 1) :: (topT ts cs x).1, (topT ts cs x).2) := by rw [topT_cons, if_pos ⟨e, l⟩]
        rw [et]
        refine ⟨?_, ⟨by omega, i2⟩⟩
        have : (1 + cT t.1 turns bs - (t.2.1 - d)) = (cT t.1 turns bs - (t.2.1 - (d + 1))) := by omega
        rw [this]
        simp only [lawZ]
        omega
      · have et : topT (t :: ts) (d :: cs) x = (d :: (topT ts cs x).1, t.2.2 + (topT ts cs x).2) := by rw [topT_cons, if_neg (fun q => l q.2), if_pos e]
        rw [et]
        refine ⟨?_, ⟨hd, i2⟩⟩
        have hd2 : t.2.1 - d = 0 := by omega
        simp only [lawZ]
        rw [hd2, Int.sub_zero, Int.sub_zero]
        have p1 : pos (1 + cT t.1 turns bs) = 1 + cT t.1 turns bs := by unfold pos; rw [if_pos (by omega)]
        have p2 : pos (cT t.1 turns bs) = cT t.1 turns bs := by unfold pos; split <;> omega
        rw [p1, p2, Int.mul_add]
        omega
    · have ec : cT t.1 (x :: turns) (true :: bs) = cT t.1 turns bs := by
        have e' : ¬ x = t.1 := fun q => e q.symm
        simp [cT, e']
      have et : topT (t :: ts) (d :: cs) x = (d :: (topT ts cs x).1, 0 + (topT ts cs x).2) := by rw [topT_cons, if_neg (fun q => e q.1), if_neg e]
      rw [ec, et]
      refine ⟨?_, ⟨hd, i2⟩⟩
      simp only [lawZ]
      omega
theorem lawZ_skip (x : Int) (turns : List Int) (bs : List Bool) : ∀ (ts : List Term) (cs : List Int), lawZ ts cs (x :: turns) (false :: bs) = lawZ ts cs turns bs
  | [], _ => rfl
  | _ :: _, [] => rfl
  | t :: ts, d :: cs => by
    simp only [lawZ, cT]
    rw [lawZ_skip x turns bs ts cs]
    simp
theorem lawZ_nil : ∀ (ts : List Term) (cs : List Int) (bs : List Bool), Below ts cs → lawZ ts cs [] bs = 0
  | [], [], _, _ => rfl
  | [], _ :: _, _, h => h.elim
  | _ :: _, [], _, h => h.elim
  | t :: ts, d :: cs, bs, h => by
    have := h.1
    simp only [lawZ, cT]
    rw [lawZ_nil ts cs bs h.2]
    unfold pos
    rw [if_neg (by omega)]
    simp
theorem cnt_lawZ (ts : List Term) : ∀ (turns : List Int) (bs : List Bool) (cs : List Int), turns.length = bs.length → Below ts cs → cnt ts turns bs cs = lawZ ts cs turns bs
  | [], [], cs, _, h => by rw [lawZ_nil ts cs [] h]; rfl
  | [], _ :: _, _, h, _ => by simp at h
  | _ :: _, [], _, h, _ => by simp at h
  | x :: turns, b :: bs, cs, hl, h => by
    cases b with
    | true =>
      obtain ⟨h1, h2⟩ := lawZ_top x turns bs ts cs h
      rw [h1, ← cnt_lawZ ts turns bs _ (by simpa using hl) h2]
      simp [cnt]
    | false =>
      rw [lawZ_skip, ← cnt_lawZ ts turns bs cs (by simpa using hl) h]
      simp [cnt]
theorem cnt_law (c : Cl) (turns : List Int) (bs : List Bool) (hl : turns.length = bs.length) (hw : ∀ t ∈ c.ts, 0 ≤ t.2.1) : cnt c.ts turns bs (zs c) = lawN c turns bs := by
  have hB : ∀ ts : List Term, (∀ t ∈ ts, 0 ≤ t.2.1) → Below ts (List.replicate ts.length 0) := by
    intro ts
    induction ts with
    | nil => intro _; trivial
    | cons t ts ih => intro h; exact ⟨h t (List.mem_cons_self ..), ih fun y hy => h y (List.mem_cons_of_mem _ hy)⟩
  unfold zs
  rw [cnt_lawZ c.ts turns bs _ hl (hB c.ts hw)]
  unfold lawN
  have : ∀ ts : List Term, lawZ ts (List.replicate ts.length 0) turns bs = (ts.map fun t => t.2.2 * (if cT t.1 turns bs - t.2.1 > 0 then cT t.1 turns bs - t.2.1 else 0)).sum := by
    intro ts
    induction ts with
    | nil => rfl
    | cons t ts ih =>
      rw [List.map_cons, List.sum_cons, ← ih]
      show t.2.2 * pos (cT t.1 turns bs - (t.2.1 - 0)) + _ = _
      rw [Int.sub_zero]
      rfl
  exact this c.ts
theorem cnt_fals (ts : List Term) : ∀ (turns : List Int) (cs : List Int), cnt ts turns (fals turns.length) cs = 0
  | [], _ => rfl
  | t :: turns, cs => by
    have e : fals (t :: turns).length = false :: fals turns.length := List.replicate_succ
    rw [e]
    show (if false = true then _ else cnt ts turns (fals turns.length) cs) = 0
    rw [if_neg (by decide)]
    exact cnt_fals ts turns cs
theorem lea_min (c : Cl) : ∀ (turns : List Int) (cs : List Int), (∃ bs ∈ rowsN c.p turns, cnt c.ts turns bs cs = lea c turns cs) ∧ ∀ bs ∈ rowsN c.p turns, lea c turns cs ≤ cnt c.ts turns bs cs
  | [], cs => by
    refine ⟨⟨[], by simp [rowsN, nonF, fals], rfl⟩, fun bs hb => ?_⟩
    have : bs = [] := by simpa [rowsN, nonF, fals] using hb
    subst this
    exact Int.le_refl _
  | t :: turns, cs => by
    obtain ⟨⟨b1, m1, q1⟩, l1⟩ := lea_min c turns (topT c.ts cs t).1
    obtain ⟨⟨b2, m2, q2⟩, l2⟩ := lea_min c turns cs
    have l2z : lea c turns cs ≤ 0 := by
      have := l2 (fals turns.length) (List.mem_cons_self ..)
      rwa [cnt_fals] at this
    have ct : ∀ bs, cnt c.ts (t :: turns) (true :: bs) cs = (topT c.ts cs t).2 + cnt c.ts turns bs (topT c.ts cs t).1 := fun bs => rfl
    have cf : ∀ bs, cnt c.ts (t :: turns) (false :: bs) cs = cnt c.ts turns bs cs := fun bs => rfl
    rw [rowsN_cons]
    by_cases e : t = c.p
    · have hl : lea c (t :: turns) cs = min 0 ((topT c.ts cs t).2 + lea c turns (topT c.ts cs t).1) := by
        show ((moves c t cs).map fun y => y.2 + lea c turns y.1).foldl min 0 = _
        unfold moves
        rw [if_pos e]
        rfl
      rw [hl, if_pos e]
      refine ⟨?_, fun bs hb => ?_⟩
      · by_cases h : (topT c.ts cs t).2 + lea c turns (topT c.ts cs t).1 ≤ 0
        · refine ⟨true :: b1, List.mem_append_right _ (List.mem_map.mpr ⟨b1, m1, rfl⟩), ?_⟩
          rw [ct, q1]; omega
        · refine ⟨false :: fals turns.length, List.mem_append_left _ (List.mem_map.mpr ⟨_, List.mem_cons_self .., rfl⟩), ?_⟩
          rw [cf, cnt_fals]; omega
      · rcases List.mem_append.mp hb with z | z
        · obtain ⟨a, ha, rfl⟩ := List.mem_map.mp z
          rw [List.mem_singleton] at ha
          rw [cf, ha, cnt_fals]; omega
        · obtain ⟨a, ha, rfl⟩ := List.mem_map.mp z
          have := l1 a ha
          rw [ct]; omega
    · have hl : lea c (t :: turns) cs = min (min 0 ((topT c.ts cs t).2 + lea c turns (topT c.ts cs t).1)) (0 + lea c turns cs) := by
        show ((moves c t cs).map fun y => y.2 + lea c turns y.1).foldl min 0 = _
        unfold moves
        rw [if_neg e]
        rfl
      rw [hl, if_neg e]
      refine ⟨?_, fun bs hb => ?_⟩
      · by_cases h : (topT c.ts cs t).2 + lea c turns (topT c.ts cs t).1 ≤ lea c turns cs
        · refine ⟨true :: b1, List.mem_append_right _ (List.mem_map.mpr ⟨b1, m1, rfl⟩), ?_⟩
          rw [ct, q1]; omega
        · refine ⟨false :: b2, List.mem_append_left _ (List.mem_map.mpr ⟨b2, m2, rfl⟩), ?_⟩
          rw [cf, q2]; omega
      · rcases List.mem_append.mp hb with z | z
        · obtain ⟨a, ha, rfl⟩ := List.mem_map.mp z
          have := l2 a ha
          rw [cf]; omega
        · obtain ⟨a, ha, rfl⟩ := List.mem_map.mp z
          have := l1 a ha
          rw [ct]; omega
theorem minI_eq {l : List Int} {v : Int} (hv : v ∈ l) (hl : ∀ y ∈ l, v ≤ y) : minI l = some v := by
  cases l with
  | nil => cases hv
  | cons x xs =>
    have key : ∀ (xs : List Int) (x : Int), (xs.foldl min x ∈ x :: xs) ∧ ∀ y ∈ x :: xs, xs.foldl min x ≤ y := by
      intro xs
      induction xs with
      | nil => intro x; exact ⟨List.mem_cons_self .., fun y hy => by have := List.mem_singleton.mp hy; subst this; exact Int.le_refl _⟩
      | cons a xs ih =>
        intro x
        obtain ⟨h1, h2⟩ := ih (min x a)
        rw [List.foldl_cons]
        refine ⟨?_, fun y hy => ?_⟩
        · rcases List.mem_cons.mp h1 with z | z
          · rw [z]
            by_cases h : x ≤ a
            · rw [Int.min_eq_left h]; exact List.mem_cons_self ..
            · rw [Int.min_eq_right (by omega)]; exact List.mem_cons_of_mem _ (List.mem_cons_self ..)
          · exact List.mem_cons_of_mem _ (List.mem_cons_of_mem _ z)
        · have hm := h2 _ (List.mem_cons_self ..)
          rcases List.mem_cons.mp hy with z | z
          · subst z; omega
          · rcases List.mem_cons.mp z with w | w
            · subst w; omega
            · exact h2 y (List.mem_cons_of_mem _ w)
    obtain ⟨h1, h2⟩ := key xs x
    have a := hl _ h1
    have b := h2 v hv
    show some (xs.foldl min x) = some v
    congr 1
    omega
/-- two ascending lists of pairs that give the same sums are the same -/
theorem gsum_above {L : IV} {a : Int} (h : ∀ x ∈ L, a < x.1) : gsum (fun v => if v = a then 1 else 0) L = 0 := by
  induction L with
  | nil => rfl
  | cons x r ih =>
    obtain ⟨k, v⟩ := x
    have h1 := h (k, v) (List.mem_cons_self ..)
    dsimp only at h1
    simp only [gsum]
    rw [ih fun y hy => h y (List.mem_cons_of_mem _ hy), if_neg (by omega)]
    simp
theorem asc_one : ∀ {L M : IV}, (L.Pairwise fun a b => a.1 < b.1) → (M.Pairwise fun a b => a.1 < b.1) → (∀ x ∈ L, 0 < x.2) → (∀ x ∈ M, 0 < x.2) → (∀ g : Int → Int, gsum g L = gsum g M) → L = M
  | [], [], _, _, _, _, _ => rfl
  | [], (b, k) :: r, _, hM, _, pM, h => by
    rw [List.pairwise_cons] at hM
    have := h fun v => if v = b then 1 else 0
    have pk := pM _ (List.mem_cons_self ..)
    dsimp only at pk
    simp only [gsum] at this
    rw [gsum_above hM.1] at this
    simp at this
    omega
  | (b, k) :: r, [], hM, _, pM, _, h => by
    rw [List.pairwise_cons] at hM
    have := h fun v => if v = b then 1 else 0
    have pk := pM _ (List.mem_cons_self ..)
    dsimp only at pk
    simp only [gsum] at this
    rw [gsum_above hM.1] at this
    simp at this
    omega
  | (a, m) :: r, (b, k) :: q, hL, hM, pL, pM, h => by
    rw [List.pairwise_cons] at hL hM
    have pm := pL _ (List.mem_cons_self ..)
    have pk := pM _ (List.mem_cons_self ..)
    dsimp only at pm pk
    have hab : a = b := by
      rcases Int.lt_trichotomy a b with z | z | z
      · have := h fun v => if v = a then 1 else 0
        simp only [gsum] at this
        rw [gsum_above hL.1, gsum_above (fun x hx => Int.lt_trans z (hM.1 x hx)), if_neg (show ¬ b = a by omega)] at this
        simp at this
        omega
      · exact z
      · have := h fun v => if v = b then 1 else 0
        simp only [gsum] at this
        rw [gsum_above hM.1, gsum_above (fun x hx => Int.lt_trans z (hL.1 x hx)), if_neg (show ¬ a = b by omega)] at this
        simp at this
        omega
    subst hab
    have hmk : m = k := by
      have := h fun v => if v = a then 1 else 0
      simp only [gsum] at this
      rw [gsum_above hL.1, gsum_above hM.1] at this
      simpa using this
    subst hmk
    rw [asc_one hL.2 hM.2 (fun x hx => pL x (List.mem_cons_of_mem _ hx)) (fun x hx => pM x (List.mem_cons_of_mem _ hx)) fun g => by
      have := h g
      simp only [gsum] at this
      omega]
end K98
namespace K98
open Pa
/-- what the law asks of a claim and turns -/
structure Askw (c : Cl) (turns : List Int) : Prop where
  ne : c.ts ≠ []
  len : c.ts.length ≤ 4
  ts : ∀ t ∈ c.ts, 0 ≤ t.1 ∧ t.1 < 5 ∧ 0 ≤ t.2.1
  tl : turns.length ≤ 12
  tt : ∀ t ∈ turns, 0 ≤ t ∧ t < 5
def nums (c : Cl) (turns : List Int) : List Int := (rowsN c.p turns).map (lawN c turns)
def btN (rows : List (List Bool)) (j : Nat) : Int := (rows.map fun bs => if cntB bs = (j : Int) then (1 : Int) else 0).sum
def btP (T : Nat) (rows : List (List Bool)) : List P := (List.range (T + 1)).map fun j => .int (btN rows j)
def tabN (l : List Int) : IV := numD (l.map fun v => ([0, v], 1))
theorem rowsN_count (p : Int) : ∀ ts : List Int, (rowsN p ts).length ≤ 2 ^ ts.length
  | [] => by simp [rowsN, nonF]
  | t :: ts => by
    have ih := rowsN_count p ts
    rw [rowsN_cons, List.length_append, List.length_map, List.length_map, List.length_cons, Nat.pow_succ]
    have : 1 ≤ 2 ^ ts.length := Nat.pow_pos (by omega)
    split
    · simp; omega
    · omega
theorem rows_small {c : Cl} {turns : List Int} (h : Askw c turns) : (rowsN c.p turns).length ≤ 4096 :=
  Nat.le_trans (rowsN_count c.p turns) (Nat.le_trans (Nat.pow_le_pow_right (by omega) h.tl) (by decide))
theorem tabN_snoc (l : List Int) (v : Int) : tabN (l ++ [v]) = putG (tabN l) v ((getG (tabN l) v).getD 0 + 1) := by
  unfold tabN
  rw [List.map_append, List.map_cons, List.map_nil, numD_snoc]
  rfl
theorem tabN_len (l : List Int) : (tabN l).length ≤ l.length := by
  have := numD_len (l.map fun v => (([0, v], 1) : List Int × Int))
  simpa [tabN] using this
theorem putG_putG {κ α : Type} [DecidableEq κ] (d : List (κ × α)) (k : κ) (a b : α) : putG (putG d k a) k b = putG d k b := by
  induction d with
  | nil => unfold putG; simp [putG]
  | cons x r ih =>
    obtain ⟨y, z⟩ := x
    have hc : ∀ (r : List (κ × α)) (z v : α), putG ((y, z) :: r) k v = if y = k then (y, v) :: r else (y, z) :: putG r k v := fun _ _ _ => rfl
    by_cases h : y = k
    · rw [hc, hc, if_pos h, if_pos h, hc, if_pos h]
    · rw [hc, hc, if_neg h, if_neg h, hc, if_neg h, ih]
def Lc (c : Cl) (turns : List Int) (j e nb : Nat) (a8 a9 a10 a11 a12 a13 : Option P) : Loc :=
  [some (.loc j), some (cP c), some (iP turns), some (.int c.p), some (.loc e), some (.loc nb), some (.loc (nb + 1)), some (.loc (nb + 2)), a8, a9, a10, a11, a12, a13, none, none, none, none]
/-- what stands in the store while the law counts -/
structure Ain (c : Cl) (turns : List Int) (s : S) (e nb i : Nat) (S : S) : Prop where
  g : Grow s S
  e0 : s.length ≤ e
  en : e < nb
  at_e : S[e]? = some (.lst ((rowsN c.p turns).map bP))
  at_n : S[nb]? = some (.lst ((nums c turns).map P.int))
  at_b : S[nb + 1]? = some (.lst (btP turns.length ((rowsN c.p turns).take i)))
  at_t : S[nb + 2]? = some (.dct false ((tabN ((nums c turns).take i)).map jP))
def bA : Sms := (.cons (.asg (.v 3) (.ix (.v 1) (.int 0))) (.cons (.asg (.v 4) (.call 28 (.cons (.v 3) (.cons (.v 2) .nil)))) (.cons (.asg (.v 5) (.lc (.v 14) (.ex (.v 4)) .nil (.call 29 (.cons (.v 1) (.cons (.v 2) (.cons (.v 14) .nil)))) [14])) (.cons (.asg (.v 6) (.lc (.v 8) (.rng1 (.bin .add (.b1 .len (.v 2)) (.int 1))) .nil (.int 0) [8])) (.cons (.asg (.v 7) .dct) .nil)))))
theorem asked_A (n j : Nat) (c : Cl) (turns : List Int) (s : S) (rest : Sms) (Q : Fl → S → Prop) (h : Askw c turns)
    (k : ∀ e nb S, Ain c turns s e nb 0 S → Ok (exsA (envA pg (n + 8)) rest (Lc c turns j e nb none none none none none none) S) Q) :
    Ok (exsA (envA pg (n + 8)) (.cons (.asg (.v 3) (.ix (.v 1) (.int 0))) (.cons (.asg (.v 4) (.call 28 (.cons (.v 3) (.cons (.v 2) .nil)))) (.cons (.asg (.v 5) (.lc (.v 14) (.ex (.v 4)) .nil (.call 29 (.cons (.v 1) (.cons (.v 2) (.cons (.v 14) .nil)))) [14])) (.cons (.asg (.v 6) (.lc (.v 8) (.rng1 (.bin .add (.b1 .len (.v 2)) (.int 1))) .nil (.int 0) [8])) (.cons (.asg (.v 7) .dct) rest))))) (List.map some [P.loc j, cP c, iP turns] ++ List.replicate 15 none) s) Q := by
  have htl := h.tl
  obtain ⟨r, S1, e1, e, rfl, he, g1, at1⟩ := s_law_choices (n + 7) c.p turns s (by omega)
  have hel := (List.getElem?_eq_some_iff.mp at1).1
  have hrows := rows_small h
  have e3 : evA (envA pg (n + 8)) (.lc (.v 14) (.ex (.v 4)) .nil (.call 29 (.cons (.v 1) (.cons (.v 2) (.cons (.v 14) .nil)))) [14]) [some (.loc j), some (cP c), some (iP turns), some (.int c.p), some (.loc e), none, none, none, none, none, none, none, none, none, none, none, none, none] S1 = .ok (.loc S1.length) (S1 ++ [.lst ((nums c turns).map P.int)]) := by
    have hk : Ok (evA (envA pg (n + 8)) (.lc (.v 14) (.ex (.v 4)) .nil (.call 29 (.cons (.v 1) (.cons (.v 2) (.cons (.v 14) .nil)))) [14]) [some (.loc j), some (cP c), some (iP turns), some (.int c.p), some (.loc e), none, none, none, none, none, none, none, none, none, none, none, none, none] S1) fun r s' => r = .loc S1.length ∧ s' = S1 ++ [.lst ((nums c turns).map P.int)] := by
      refine ok_lcm (s1 := S1) (gd := stays (.loc e) S1) (rowsN c.p turns) bP (fun bs => .int (lawN c turns bs)) ?_ rfl ?_ (by unfold SZ; omega) ⟨rfl, ?_⟩
      · simp [at1]
      · intro bs hbs
        have := s_law_counted (n + 7) c turns bs S1 (by omega) (rowsN_len hbs) h.tt h.ts (by have := h.len; omega)
        simp [wipe, this]
      · unfold nums; rw [List.map_map]; rfl
    obtain ⟨r, s', e, rfl, rfl⟩ := hk
    exact e
  obtain ⟨S2, hS2⟩ : ∃ S2, S2 = S1 ++ [O.lst ((nums c turns).map P.int)] := ⟨_, rfl⟩
  rw [← hS2] at e3
  have hl2 : S2.length = S1.length + 1 := by rw [hS2]; simp
  have hz : btP turns.length [] = (List.range (turns.length + 1)).map fun _ => P.int 0 := rfl
  have e4 : evA (envA pg (n + 8)) (.lc (.v 8) (.rng1 (.bin .add (.b1 .len (.v 2)) (.int 1))) .nil (.int 0) [8]) [some (.loc j), some (cP c), some (iP turns), some (.int c.p), some (.loc e), some (.loc S1.length), none, none, none, none, none, none, none, none, none, none, none, none] S2 = .ok (.loc S2.length) (S2 ++ [.lst (btP turns.length [])]) := by
    have hk : Ok (evA (envA pg (n + 8)) (.lc (.v 8) (.rng1 (.bin .add (.b1 .len (.v 2)) (.int 1))) .nil (.int 0) [8]) [some (.loc j), some (cP c), some (iP turns), some (.int c.p), some (.loc e), some (.loc S1.length), none, none, none, none, none, none, none, none, none, none, none, none] S2) fun r s' => r = .loc S2.length ∧ s' = S2 ++ [.lst (btP turns.length [])] := by
      refine ok_lcm (s1 := S2) (gd := fun _ => True) (List.range (turns.length + 1)) (fun i : Nat => P.int i) (fun _ => .int 0) ?_ trivial ?_ ?_ ⟨rfl, by rw [hz]⟩
      · exact ei_rngN (by simp [iP]) (by unfold SZ; omega)
      · intro i hi
        simp [wipe]
      · simp; unfold SZ; omega
    obtain ⟨r, s', e, rfl, rfl⟩ := hk
    exact e
  have hL : List.map some [P.loc j, cP c, iP turns] ++ List.replicate 15 none = [some (.loc j), some (cP c), some (iP turns), none, none, none, none, none, none, none, none, none, none, none, none, none, none, none] := rfl
  rw [hL, xs_cons]
  refine ok_bind (ok_eq (a := Fl.nx [some (.loc j), some (cP c), some (iP turns), some (.int c.p), none, none, none, none, none, none, none, none, none, none, none, none, none, none]) (s := s) (by simp [cP]) ?_)
  dsimp only
  rw [xs_cons]
  refine ok_bind (ok_eq (a := Fl.nx [some (.loc j), some (cP c), some (iP turns), some (.int c.p), some (.loc e), none, none, none, none, none, none, none, none, none, none, none, none, none]) (s := S1) (by simp [e1]) ?_)
  dsimp only
  rw [xs_cons]
  refine ok_bind (ok_eq (a := Fl.nx [some (.loc j), some (cP c), some (iP turns), some (.int c.p), some (.loc e), some (.loc S1.length), none, none, none, none, none, none, none, none, none, none, none, none]) (s := S2) (by rw [x_asg, e3]; simp) ?_)
  dsimp only
  rw [xs_cons]
  refine ok_bind (ok_eq (a := Fl.nx [some (.loc j), some (cP c), some (iP turns), some (.int c.p), some (.loc e), some (.loc S1.length), some (.loc (S1.length + 1)), none, none, none, none, none, none, none, none, none, none, none]) (s := S2 ++ [.lst (btP turns.length [])]) (by rw [x_asg, e4]; simp [hl2]) ?_)
  dsimp only
  rw [xs_cons]
  refine ok_bind (ok_eq (a := Fl.nx (Lc c turns j e S1.length none none none none none none)) (s := S2 ++ [.lst (btP turns.length []), .dct false []]) (by simp [alloc, hl2, Lc]) ?_)
  dsimp only
  refine k e S1.length _ ⟨(g1.trans (by rw [hS2]; exact Grow.add)).trans Grow.add, he, hel, ?_, ?_, ?_, ?_⟩
  · exact Grow.add.at (by rw [hS2]; exact Grow.add.at at1)
  · exact Grow.add.at (by rw [hS2]; exact at_new _ _)
  · rw [← hl2, List.take_zero]; simp
  · rw [List.take_zero, List.getElem?_append_right (by omega)]
    have : S1.length + 2 - S2.length = 1 := by omega
    rw [this]; rfl
end K98
namespace K98
open Pa
theorem btN_snoc (rows : List (List Bool)) (bs : List Bool) (j : Nat) : btN (rows ++ [bs]) j = btN rows j + if cntB bs = (j : Int) then 1 else 0 := by
  unfold btN
  rw [List.map_append, List.sum_append]
  simp
theorem set_same {s : S} {i : Nat} {o : O} (h : s[i]? = some o) : s.set i o = s := List.ext_getElem? fun j => by
  by_cases hj : j = i
  · subst hj; rw [List.getElem?_set_self (List.getElem?_eq_some_iff.mp h).1, h]
  · rw [List.getElem?_set_ne (Ne.symm hj)]
theorem asked_step (n j k : Nat) (c : Cl) (turns : List Int) (s : S) (e nb : Nat) (S : S) (bs : List Bool) (v : Int) (h : Askw c turns) (A : Ain c turns s e nb k S) (hk : (rowsN c.p turns)[k]? = some bs) (hv : (nums c turns)[k]? = some v) :
    Ok (exsA (envA pg (n + 8)) (.cons (.augI (.v 6) (.b1 .len (.lc (.v 17) (.ex (.ix (.v 4) (.v 8))) (.cons (.v 17) .nil) (.v 17) [17])) .add (.int 1)) (.cons (.ife (.cmp .nin (.ix (.v 5) (.v 8)) (.v 7)) (.cons (.asgI (.v 7) (.ix (.v 5) (.v 8)) (.int 0)) .nil) .nil) (.cons (.augI (.v 7) (.ix (.v 5) (.v 8)) .add (.int 1)) .nil))) (Lc c turns j e nb (some (.int k)) none none none none none) S)
      fun fl S' => fl = .nx (Lc c turns j e nb (some (.int k)) none none none none none) ∧ Ain c turns s e nb (k + 1) S' := by
  obtain ⟨g, e0, en, ae, an, ab, at_⟩ := A
  have hrows := rows_small h
  have hkl := (List.getElem?_eq_some_iff.mp hk).1
  have hbl : bs.length = turns.length := rowsN_len (List.mem_of_getElem? hk)
  have htl := h.tl
  obtain ⟨m, hm⟩ : ∃ m : Nat, m = (bs.filter id).length := ⟨_, rfl⟩
  have hcB : cntB bs = (m : Int) := by unfold cntB; rw [hm]
  have hmt : m < turns.length + 1 := by
    have : (bs.filter id).length ≤ bs.length := List.length_filter_le _ _
    omega
  have abl := (List.getElem?_eq_some_iff.mp ab).1
  have atl := (List.getElem?_eq_some_iff.mp at_).1
  obtain ⟨S1, hS1⟩ : ∃ S1, S1 = S ++ [O.lst ((bs.filter id).map P.bl)] := ⟨_, rfl⟩
  have g1 : Grow S S1 := by rw [hS1]; exact Grow.add
  have hlen : evA (envA pg (n + 8)) (.b1 .len (.lc (.v 17) (.ex (.ix (.v 4) (.v 8))) (.cons (.v 17) .nil) (.v 17) [17])) (Lc c turns j e nb (some (.int k)) none none none none none) S = .ok (.int m) S1 := by
    have hkk : Ok (evA (envA pg (n + 8)) (.lc (.v 17) (.ex (.ix (.v 4) (.v 8))) (.cons (.v 17) .nil) (.v 17) [17]) (Lc c turns j e nb (some (.int k)) none none none none none) S) fun r s' => r = .loc S.length ∧ s' = S1 := by
      refine ok_lcf (s1 := S) (gd := fun _ => True) bs P.bl (fun b => if id b = true then some (P.bl b) else none) ?_ trivial ?_ (by unfold SZ; omega) ⟨rfl, ?_⟩
      · have hat : atI ((rowsN c.p turns).map bP) (k : Int) = some (bP bs) := by rw [atI_nat, List.getElem?_map, hk]; rfl
        simp [Lc, ae, hat]
        simp [bP, stays]
      · intro b _
        cases b <;> simp [Lc, wipe]
      · rw [filterMap_if id P.bl bs, hS1]
    obtain ⟨r, s', e, rfl, rfl⟩ := hkk
    rw [e_b1, e, bind_ok, hS1]
    simp [hm]
  have ab1 := g1.at ab
  have at1 := g1.at at_
  have an1 := g1.at an
  have ae1 := g1.at ae
  obtain ⟨S2, hS2⟩ : ∃ S2, S2 = S1.set (nb + 1) (.lst (btP turns.length ((rowsN c.p turns).take (k + 1)))) := ⟨_, rfl⟩
  have erows : (rowsN c.p turns).take (k + 1) = (rowsN c.p turns).take k ++ [bs] := by rw [List.take_succ, hk]; rfl
  have enums : (nums c turns).take (k + 1) = (nums c turns).take k ++ [v] := by rw [List.take_succ, hv]; rfl
  have hS1l := g1.len
  have at2 : S2[nb + 2]? = some (.dct false ((tabN ((nums c turns).take k)).map jP)) := by rw [hS2, List.getElem?_set_ne (by omega)]; exact at1
  have an2 : S2[nb]? = some (.lst ((nums c turns).map P.int)) := by rw [hS2, List.getElem?_set_ne (by omega)]; exact an1
  have ae2 : S2[e]? = some (.lst ((rowsN c.p turns).map bP)) := by rw [hS2, List.getElem?_set_ne (by omega)]; exact ae1
  have ab2 : S2[nb + 1]? = some (.lst (btP turns.length ((rowsN c.p turns).take (k + 1)))) := by rw [hS2]; exact List.getElem?_set_self (by omega)
  have g2 : Grow s S2 := by rw [hS2]; exact (g.trans g1).set (by omega)
  have at2l := (List.getElem?_eq_some_iff.mp at2).1
  rw [xs_cons]
  refine ok_bind (ok_eq (a := Fl.nx (Lc c turns j e nb (some (.int k)) none none none none none)) (s := S2) ?_ ?_)
  · have hat : atI (btP turns.length ((rowsN c.p turns).take k)) (m : Int) = some (.int (btN ((rowsN c.p turns).take k) m)) := by
      rw [atI_nat]; unfold btP; rw [List.getElem?_map, List.getElem?_range hmt]; rfl
    have hix : ixN (btP turns.length ((rowsN c.p turns).take k)).length (m : Int) = some m := by unfold ixN btP; simp; omega
    have hset : (btP turns.length ((rowsN c.p turns).take k)).set m (.int (btN ((rowsN c.p turns).take k) m + 1)) = btP turns.length ((rowsN c.p turns).take (k + 1)) := by
      unfold btP
      refine map_range_set _ _ _ _ _ ?_ ?_
      · rw [erows, btN_snoc, if_pos hcB]
      · intro i hi
        rw [erows, btN_snoc, if_neg (by omega), Int.add_zero]
    have e6 : evA (envA pg (n + 8)) (.v 6) (Lc c turns j e nb (some (.int k)) none none none none none) S = .ok (.loc (nb + 1)) S := by simp [Lc]
    rw [x_augI, e6, bind_ok, hlen, bind_ok, u_ixG, ab1]
    dsimp only
    rw [hat, ofO_some, bind_ok, e_int, bind_ok, o_aadd, bind_ok, u_st, ab1]
    dsimp only
    rw [u_stI, ab1]
    dsimp only
    rw [hix]
    dsimp only
    rw [hset, bind_ok, hS2]
  dsimp only
  generalize hD : tabN ((nums c turns).take k) = D at at2 at1 at_
  have hlenD : D.length + 1 < SZ := by
    have := tabN_len ((nums c turns).take k)
    rw [hD, List.length_take] at this
    have : (nums c turns).length = (rowsN c.p turns).length := by unfold nums; simp
    unfold SZ
    omega
  have hatv : atI ((nums c turns).map P.int) (k : Int) = some (.int v) := by rw [atI_nat, List.getElem?_map, hv]; rfl
  have hko : ∀ E : IV, keyOk false (.int v) (E.map jP) = true := fun E => keyOk_flat (e := P.int) (fun k => rfl) v E
  have hget : ∀ E : IV, dget (E.map jP) (.int v) = (getG E v).map P.int := fun E => dget_g int_inj v E
  have hput : ∀ (E : IV) (w : Int), dput (E.map jP) (.int v) (.int w) = (putG E v w).map jP := fun E w => dput_g int_inj v w E
  have hE : tabN ((nums c turns).take (k + 1)) = putG D v ((getG D v).getD 0 + 1) := by rw [enums, tabN_snoc, hD]
  have fin : ∀ S4 : Pa.S, S4 = S2.set (nb + 2) (.dct false ((putG D v ((getG D v).getD 0 + 1)).map jP)) → Ain c turns s e nb (k + 1) S4 := by
    rintro S4 rfl
    refine ⟨g2.set (by omega), e0, en, ?_, ?_, ?_, ?_⟩
    · rw [List.getElem?_set_ne (by omega)]; exact ae2
    · rw [List.getElem?_set_ne (by omega)]; exact an2
    · rw [List.getElem?_set_ne (by omega)]; exact ab2
    · rw [hE]; exact List.getElem?_set_self at2l
  have e7 : ∀ S, evA (envA pg (n + 8)) (.v 7) (Lc c turns j e nb (some (.int k)) none none none none none) S = .ok (.loc (nb + 2)) S := fun S => by simp [Lc]
  have e58 : ∀ S : Pa.S, S[nb]? = some (.lst ((nums c turns).map P.int)) → evA (envA pg (n + 8)) (.ix (.v 5) (.v 8)) (Lc c turns j e nb (some (.int k)) none none none none none) S = .ok (.int v) S := fun S hS => by simp [Lc, hS, hatv]
  -- the last statement
  have last : ∀ (S3 : Pa.S) (E : IV) (w : Int), S3[nb]? = some (.lst ((nums c turns).map P.int)) → S3[nb + 2]? = some (.dct false (E.map jP)) → getG E v = some w → E.length < SZ →
      exsA (envA pg (n + 8)) (.cons (.augI (.v 7) (.ix (.v 5) (.v 8)) .add (.int 1)) .nil) (Lc c turns j e nb (some (.int k)) none none none none none) S3 = .ok (.nx (Lc c turns j e nb (some (.int k)) none none none none none)) (S3.set (nb + 2) (.dct false ((putG E v (w + 1)).map jP))) := by
    intro S3 E w hn ht hg hl
    have hst : stIx (.loc (nb + 2)) (.int v) (.int (w + 1)) S3 = .ok () (S3.set (nb + 2) (.dct false ((putG E v (w + 1)).map jP))) := by
      unfold stIx
      simp only [ht]
      rw [if_pos ⟨hko E, by simpa using hl⟩, hput]
    rw [xs_cons, x_augI, e7, bind_ok, e58 S3 hn, bind_ok, u_ixG, ht]
    dsimp only
    rw [hko, if_pos rfl, hget, hg, Option.map_some, ofO_some, bind_ok, e_int, bind_ok, o_aadd, bind_ok, hst, bind_ok, bind_ok]
    dsimp only
    rw [xs_nil]
  cases hgv : getG D v with
  | some w =>
    rw [xs_cons]
    refine ok_bind (ok_eq (a := Fl.nx (Lc c turns j e nb (some (.int k)) none none none none none)) (s := S2) ?_ ?_)
    · rw [x_ife, cond_eq, e_cmp, e58 S2 an2, bind_ok, e7, bind_ok, u_nin, at2]
      dsimp only
      rw [hko, if_pos rfl, hget, hgv]
      simp
    · dsimp only
      refine ok_eq (last S2 D w an2 at2 hgv (by omega)) ⟨rfl, fin _ ?_⟩
      rw [hgv]; rfl
  | none =>
    obtain ⟨S3, hS3⟩ : ∃ S3, S3 = S2.set (nb + 2) (.dct false ((putG D v 0).map jP)) := ⟨_, rfl⟩
    rw [xs_cons]
    refine ok_bind (ok_eq (a := Fl.nx (Lc c turns j e nb (some (.int k)) none none none none none)) (s := S3) ?_ ?_)
    · have hst : stIx (.loc (nb + 2)) (.int v) (.int 0) S2 = .ok () S3 := by
        unfold stIx
        simp only [at2]
        rw [if_pos ⟨hko D, by simp; omega⟩, hput, hS3]
      rw [x_ife, cond_eq, e_cmp, e58 S2 an2, bind_ok, e7, bind_ok, u_nin, at2]
      dsimp only
      rw [hko, if_pos rfl, hget, hgv, Option.map_none]
      simp only [bind_ok, t_bl, ofO_some]
      rw [if_pos (by rfl), xs_cons, x_asgI, e_int, bind_ok, e7, bind_ok, e58 S2 an2, bind_ok, hst, bind_ok, bind_ok]
      dsimp only
      rw [xs_nil]
    · dsimp only
      have hpl := putG_len D v 0
      refine ok_eq (last S3 (putG D v 0) 0 ?_ ?_ ?_ (by omega)) ⟨rfl, fin _ ?_⟩
      · rw [hS3, List.getElem?_set_ne (by omega)]; exact an2
      · rw [hS3]; exact List.getElem?_set_self at2l
      · rw [getG_put, if_pos rfl]
      · rw [hS3, List.set_set, putG_putG, hgv]; rfl
theorem asked_B (n j : Nat) (c : Cl) (turns : List Int) (s : S) (e nb : Nat) (S : S) (h : Askw c turns) (A : Ain c turns s e nb 0 S) :
    Ok (exA (envA pg (n + 8)) (.for (.v 8) (.rng1 (.b1 .len (.v 4))) (.cons (.augI (.v 6) (.b1 .len (.lc (.v 17) (.ex (.ix (.v 4) (.v 8))) (.cons (.v 17) .nil) (.v 17) [17])) .add (.int 1)) (.cons (.ife (.cmp .nin (.ix (.v 5) (.v 8)) (.v 7)) (.cons (.asgI (.v 7) (.ix (.v 5) (.v 8)) (.int 0)) .nil) .nil) (.cons (.augI (.v 7) (.ix (.v 5) (.v 8)) .add (.int 1)) .nil)))) (Lc c turns j e nb none none none none none none) S)
      fun fl S' => ∃ a8, fl = .nx (Lc c turns j e nb a8 none none none none none) ∧ Ain c turns s e nb (rowsN c.p turns).length S' := by
  have hrows := rows_small h
  refine ok_for (s1 := S) (w := ((List.range (rowsN c.p turns).length).map (fun i : Nat => P.int i), fun _ => True)) (fun i l S' => ∃ a8, l = Lc c turns j e nb a8 none none none none none ∧ Ain c turns s e nb i S') ?_ ?_ ?_ ?_ ?_
  · refine ei_rngN ?_ (by unfold SZ; omega)
    simp [Lc, A.at_e]
  · exact ⟨none, rfl, A⟩
  · intros; trivial
  · rintro i y l S' hy ⟨a8, rfl, A'⟩
    obtain ⟨k, hk, rfl⟩ := map_at hy
    obtain ⟨hi', hj'⟩ := List.getElem?_eq_some_iff.mp hk
    have hi : i < (rowsN c.p turns).length := by simpa using hi'
    have hki : k = i := by simpa using hj'.symm
    subst hki
    have h1 : (rowsN c.p turns)[k]? = some (rowsN c.p turns)[k] := List.getElem?_eq_getElem hi
    have h2 : (nums c turns)[k]? = some (lawN c turns (rowsN c.p turns)[k]) := by unfold nums; rw [List.getElem?_map, h1]; rfl
    have eb : bindT (.v 8) (P.int (k : Nat)) (Lc c turns j e nb a8 none none none none none) = some (Lc c turns j e nb (some (.int (k : Nat))) none none none none none) := by simp [Lc]
    rw [eb, ofO_some, bind_ok]
    refine ok_imp (asked_step n j k c turns s e nb S' _ _ h A' h1 h2) ?_
    rintro fl S'' ⟨rfl, A''⟩
    exact ⟨_, rfl, A''⟩
  · rintro l S' ⟨a8, rfl, A'⟩
    dsimp only at A'
    rw [List.length_map, List.length_range] at A'
    exact ⟨a8, rfl, A'⟩
end K98
namespace K98
open Pa
open PySem (PyData)
theorem dsum_one : ∀ d : KV, dsum (fun _ => 1) d = (d.map (·.2)).sum
  | [] => rfl
  | (k, v) :: r => by simp only [dsum, List.map_cons, List.sum_cons]; rw [dsum_one r]; omega
theorem sum_one {α : Type} (l : List α) : (l.map fun _ => (1 : Int)).sum = l.length := by
  induction l with
  | nil => rfl
  | cons a l ih => rw [List.map_cons, List.sum_cons, ih]; simp; omega
theorem eq_number (c : Cl) (turns : List Int) : ((allK c turns).map (·.2)).sum = (rowsN c.p turns).length := by
  rw [← dsum_one, all_rows c turns (fun _ => 1) (fun _ => 1) (fun _ _ _ => rfl), sum_one]
theorem eq_tops (c : Cl) (turns : List Int) : byT c turns (allK c turns) = btP turns.length (rowsN c.p turns) := by
  unfold byT btP
  refine List.map_congr_left fun j _ => ?_
  rw [all_rows c turns (isJ hd0 j) (fun bs => if cntB bs = (j : Int) then 1 else 0) (fun bs _ cs => rfl)]
  rfl
theorem neg_count (l : List Int) : ((l.filter fun v => decide (v < 0)).length : Int) = (l.map fun v => if v < 0 then (1 : Int) else 0).sum := by
  induction l with
  | nil => rfl
  | cons a l ih =>
    rw [List.map_cons, List.sum_cons, ← ih]
    by_cases h : a < 0
    · simp [h]; omega
    · simp [h]
theorem eq_bad (c : Cl) (turns : List Int) (h : Askw c turns) : badN c turns = ((nums c turns).filter fun v => decide (v < 0)).length := by
  rw [neg_count]
  unfold badN nums
  rw [all_rows c turns _ (fun bs => if lawN c turns bs < 0 then 1 else 0) (fun bs hb cs => by
    show (if cnt c.ts turns bs (zs c) < 0 then 1 else 0) = _
    rw [cnt_law c turns bs (rowsN_len hb).symm fun t ht => (h.ts t ht).2.2]), List.map_map]
  rfl
theorem gsum_tab (g : Int → Int) (l : List Int) : gsum g (tabN l) = (l.map g).sum := by
  unfold tabN
  rw [gsum_numD]
  induction l with
  | nil => rfl
  | cons a l ih =>
    rw [List.map_cons, List.map_cons, List.sum_cons, ← ih]
    show 1 * g a + _ = _
    omega
theorem gsum_all (g : Int → Int) (c : Cl) (turns : List Int) (h : Askw c turns) : gsum g (numD (allK c turns)) = ((nums c turns).map g).sum := by
  rw [gsum_numD]
  unfold nums
  rw [List.map_map]
  exact all_rows c turns _ _ fun bs hb cs => by
    show g (cnt c.ts turns bs (zs c)) = g (lawN c turns bs)
    rw [cnt_law c turns bs (rowsN_len hb).symm fun t ht => (h.ts t ht).2.2]
theorem tabN_pos (l : List Int) : ∀ x ∈ tabN l, 0 < x.2 := numD_pos fun x hx => by
  obtain ⟨v, _, rfl⟩ := List.mem_map.mp hx
  show (0 : Int) < 1
  omega
theorem eq_counts (c : Cl) (turns : List Int) (h : Askw c turns) {L M : IV} (l1 : L.Perm (numD (allK c turns))) (l2 : L.Pairwise fun a b => a.1 < b.1) (m1 : M.Perm (tabN (nums c turns))) (m2 : M.Pairwise fun a b => a.1 < b.1) : L = M := by
  refine asc_one l2 m2 (fun x hx => ?_) (fun x hx => ?_) fun g => ?_
  · exact numD_pos (fun y hy => (kall_all c turns y hy).2) x (l1.mem_iff.mp hx)
  · exact tabN_pos _ x (m1.mem_iff.mp hx)
  · rw [gsum_perm g l1, gsum_perm g m1, gsum_all g c turns h, gsum_tab]
theorem eq_least (c : Cl) (turns : List Int) (h : Askw c turns) : minI (nums c turns) = some (lea c turns (zs c)) := by
  obtain ⟨⟨bs, hb, e⟩, hle⟩ := lea_min c turns (zs c)
  have hc : ∀ bs ∈ rowsN c.p turns, cnt c.ts turns bs (zs c) = lawN c turns bs := fun bs hb => cnt_law c turns bs (rowsN_len hb).symm fun t ht => (h.ts t ht).2.2
  refine minI_eq ?_ fun y hy => ?_
  · rw [← e, hc bs hb]; exact List.mem_map.mpr ⟨bs, hb, rfl⟩
  · obtain ⟨b, hb', rfl⟩ := List.mem_map.mp hy
    rw [← hc b hb']
    exact hle b hb'
theorem eq_holds (c : Cl) (turns : List Int) (h : Askw c turns) : (lea c turns (zs c) == 0) = ((((nums c turns).filter fun v => decide (v < 0)).length : Int) == 0) := by
  obtain ⟨⟨bs, hb, e⟩, hle⟩ := lea_min c turns (zs c)
  have hc : ∀ bs ∈ rowsN c.p turns, cnt c.ts turns bs (zs c) = lawN c turns bs := fun bs hb => cnt_law c turns bs (rowsN_len hb).symm fun t ht => (h.ts t ht).2.2
  have h0 : lea c turns (zs c) ≤ 0 := by
    have := hle (fals turns.length) (List.mem_cons_self ..)
    rwa [cnt_fals] at this
  by_cases hz : lea c turns (zs c) = 0
  · have : (nums c turns).filter (fun v => decide (v < 0)) = [] := by
      rw [List.filter_eq_nil_iff]
      intro v hv
      obtain ⟨b, hb', rfl⟩ := List.mem_map.mp hv
      have := hle b hb'
      rw [hc b hb'] at this
      simp
      omega
    rw [hz, this]
    rfl
  · have : (nums c turns).filter (fun v => decide (v < 0)) ≠ [] := by
      intro q
      rw [List.filter_eq_nil_iff] at q
      have := q (lawN c turns bs) (List.mem_map.mpr ⟨bs, hb, rfl⟩)
      rw [← hc bs hb, e] at this
      simp at this
      omega
    have hl := List.length_pos_iff.mpr this
    have e1 : (lea c turns (zs c) == 0) = false := by simpa using hz
    rw [e1]
    symm
    simp only [beq_eq_false_iff_ne]
    omega
theorem nodesL_le {α : Type} (f : α → P) (k : Nat) (h : ∀ a, nodes (f a) ≤ k) : ∀ l : List α, nodesL (l.map f) ≤ l.length * k
  | [] => by simp [nodesL]
  | a :: l => by
    have := nodesL_le f k h l
    have h2 := h a
    show nodes (f a) + nodesL (l.map f) ≤ (l.length + 1) * k
    rw [Nat.add_mul]
    omega
theorem nodesL_mem (k : Nat) : ∀ l : List P, (∀ a ∈ l, nodes a ≤ k) → nodesL l ≤ l.length * k
  | [], _ => by simp [nodesL]
  | a :: l, h => by
    have := nodesL_mem k l fun x hx => h x (List.mem_cons_of_mem _ hx)
    have h2 := h a (List.mem_cons_self ..)
    show nodes a + nodesL l ≤ (l.length + 1) * k
    rw [Nat.add_mul]
    omega
theorem nodes_bP (bs : List Bool) : nodes (bP bs) ≤ bs.length + 1 := by
  have := nodesL_le P.bl 1 (fun b => by simp [nodes]) bs
  show 1 + nodesL (bs.map P.bl) ≤ _
  omega
theorem nodes_rows {c : Cl} {turns : List Int} (h : Askw c turns) : nodes (.tup ((rowsN c.p turns).map bP)) < 399990 := by
  have hr := rows_small h
  have ht := h.tl
  have := nodesL_mem 13 ((rowsN c.p turns).map bP) fun a ha => by
    obtain ⟨b, hb, rfl⟩ := List.mem_map.mp ha
    have := nodes_bP b
    rw [rowsN_len hb] at this
    omega
  rw [List.length_map] at this
  show 1 + nodesL ((rowsN c.p turns).map bP) < _
  omega
theorem sort_i (d : List Int) : ∃ L : List Int, sortP (d.map P.int) = some (L.map P.int) ∧ L.Perm d ∧ L.Pairwise (· ≤ ·) := by
  have hs : ∃ ys, sortP (d.map P.int) = some ys := by
    unfold sortP
    rw [if_pos]
    · exact ⟨_, rfl⟩
    · refine ⟨pures_map (fun a => rfl) d, ?_, .inl ?_, ?_⟩
      · rw [List.map_map]
        exact PySem.W.AllAlike.of fun a b => rfl
      · rw [List.map_map]
        exact PySem.W.Sortable.others fun a => by
          refine ⟨?_, ?_⟩
          · intro q; cases q
          · intro xs q; cases q
      · intro x hx
        obtain ⟨a, _, rfl⟩ := List.mem_map.mp hx
        have : (pd (P.int a)).depth = 0 := by simp [pd, PyData.depth]
        omega
  obtain ⟨ys, hy⟩ := hs
  obtain ⟨h1, h2⟩ := sortP_perm hy
  obtain ⟨L, p1, rfl⟩ := perm_map_inv h1 d rfl
  refine ⟨L, hy, p1, ?_⟩
  rw [List.pairwise_map] at h2
  refine h2.imp fun {a b} hab => ?_
  have e : PySem.W.dataLt (pd (P.int b)) (pd (P.int a)) = decide (b < a) := PySem.W.dataLt_int _ _
  rw [e] at hab
  simp at hab
  omega
/-- the pairs that the law makes of its table -/
theorem pairs_of (T : IV) (hn : (T.map (·.1)).Nodup) (hp : ∀ x ∈ T, 0 < x.2) : ∃ (L : List Int) (M : IV), sortP ((T.map (·.1)).map P.int) = some (L.map P.int) ∧ M = L.map (fun v => (v, (getG T v).getD 0)) ∧ (∀ v ∈ L, ∃ w, getG T v = some w) ∧ M.Perm T ∧ M.Pairwise fun a b => a.1 < b.1 := by
  obtain ⟨L, l1, l2, l3⟩ := sort_i (T.map (·.1))
  have hlk : ∀ x ∈ T, getG T x.1 = some x.2 := fun x hx => by
    cases e : getG T x.1 with
    | none => exact absurd hx (getG_none e x.2)
    | some v =>
      have := nodup_inj hn hx (getG_mem e) rfl
      rw [this]
  refine ⟨L, _, l1, rfl, fun v hv => ?_, ?_, ?_⟩
  · obtain ⟨x, hx, rfl⟩ := List.mem_map.mp (l2.mem_iff.mp hv)
    exact ⟨x.2, hlk x hx⟩
  · have h1 := l2.map (fun v => (v, (getG T v).getD 0))
    rw [List.map_map] at h1
    have h2 : T.map ((fun v => (v, (getG T v).getD 0)) ∘ (·.1)) = T := by
      conv => rhs; rw [← List.map_id T]
      refine List.map_congr_left fun x hx => ?_
      show (x.1, (getG T x.1).getD 0) = x
      rw [hlk x hx]
      rfl
    rw [h2] at h1
    exact h1
  · rw [List.pairwise_map]
    have hnd : L.Nodup := l2.nodup_iff.mpr hn
    exact (l3.and hnd).imp fun {a b} hab => by
      have := hab.1
      have h2 : a ≠ b := hab.2
      show a < b
      omega
end K98
namespace K98
open Pa
theorem lc_locals {c : Cl} {turns : List Int} {j e nb : Nat} {a8 a9 a10 a11 a12 a13 : Option P} : Lc c turns j e nb a8 a9 a10 a11 a12 a13 = [some (.loc j), some (cP c), some (iP turns), some (.int c.p), some (.loc e), some (.loc nb), some (.loc (nb + 1)), some (.loc (nb + 2)), a8, a9, a10, a11, a12, a13, none, none, none, none] := rfl
theorem not_same (G : Env) (a b : Ex) (l : Loc) (s : S) (x : P) (n : Nat) (hG : G.cal = callA pg (n + 1)) (ha : evA G a l s = .ok x s) (hb : evA G b l s = .ok x s) (hp : pure? x = true) (hz : nodes x < 399990) : evA G (.not (.call 26 (.cons a (.cons b .nil)))) l s = .ok (.bl false) s := by
  rw [e_not, e_call, es_cons, ha, bind_ok, es_cons, hb, bind_ok, es_nil]
  simp only [bind_ok, hG, s_same n x s hp hz, t_bl, ofO_some]
  rfl
theorem or_false (G : Env) (a b : Ex) (l : Loc) (s : S) (ha : evA G a l s = .ok (.bl false) s) (hb : evA G b l s = .ok (.bl false) s) : evA G (.or a b) l s = .ok (.bl false) s := by
  rw [e_or, ha, bind_ok, t_bl, ofO_some, bind_ok, if_neg (by decide), hb]
theorem if_false (G : Env) (a : Ex) (A : Sms) (l : Loc) (s : S) (ha : evA G a l s = .ok (.bl false) s) : exA G (.ife a A .nil) l s = .ok (.nx l) s := by
  rw [x_ife, cond_eq, ha, bind_ok, t_bl, ofO_some, bind_ok, if_neg (by decide), xs_nil]
theorem pure_rows (rows : List (List Bool)) : pure? (.tup (rows.map bP)) = true := pures_map pure_bP rows
theorem pure_prs (M : IV) : pure? (.tup (M.map prP)) = true := pures_map (fun _ => rfl) M
theorem asked_CD (n j : Nat) (c : Cl) (turns : List Int) (s : S) (e nb : Nat) (S : S) (a8 : Option P) (rest : Sms) (Q : Fl → Pa.S → Prop) (h : Askw c turns) (A : Ain c turns s e nb (rowsN c.p turns).length S)
    (k : ∀ a9 a10 S', Grow S S' → Ok (exsA (envA pg (n + 8)) rest (Lc c turns j e nb a8 a9 a10 none none none) S') Q) :
    Ok (exsA (envA pg (n + 8)) (.cons (.asg (.v 9) (.b1 .len (.lc (.v 15) (.ex (.v 5)) (.cons (.cmp .lt (.v 15) (.int 0)) .nil) (.v 15) [15]))) (.cons (.asg (.v 10) (.b1 .tuple (.lc (.v 15) (.ex (.b1 .sorted (.m0 .keys (.v 7)))) .nil (.tup (.cons (.v 15) (.cons (.ix (.v 7) (.v 15)) .nil))) [15]))) (.cons (.ife (.or (.not (.call 26 (.cons (.call 21 (.cons (.v 1) (.cons (.v 2) .nil))) (.cons (.b1 .tuple (.v 4)) .nil)))) (.not (.call 26 (.cons (.call 6 (.cons (.v 1) (.cons (.v 2) .nil))) (.cons (.b1 .len (.v 4)) .nil))))) (.cons (.ret (.bl false)) .nil) .nil) (.cons (.ife (.or (.not (.call 26 (.cons (.call 7 (.cons (.v 1) (.cons (.v 2) .nil))) (.cons (.b1 .tuple (.v 6)) .nil)))) (.not (.call 26 (.cons (.call 9 (.cons (.v 1) (.cons (.v 2) .nil))) (.cons (.v 9) .nil))))) (.cons (.ret (.bl false)) .nil) .nil) (.cons (.ife (.or (.not (.call 26 (.cons (.call 8 (.cons (.v 1) (.cons (.v 2) .nil))) (.cons (.v 10) .nil)))) (.not (.call 26 (.cons (.call 22 (.cons (.v 1) (.cons (.v 2) .nil))) (.cons (.b1 .min (.v 5)) .nil))))) (.cons (.ret (.bl false)) .nil) .nil) (.cons (.ife (.not (.call 26 (.cons (.call 23 (.cons (.v 1) (.cons (.v 2) .nil))) (.cons (.cmp .eq (.v 9) (.int 0)) .nil)))) (.cons (.ret (.bl false)) .nil) .nil) rest))))))
      (Lc c turns j e nb a8 none none none none none) S) Q := by
  obtain ⟨g, e0, en, ae, an, ab, at_⟩ := A
  have htl := h.tl
  have htl20 : turns.length ≤ 20 := by omega
  have hlen4 := h.len
  have hrows := rows_small h
  have hnl : (nums c turns).length = (rowsN c.p turns).length := by unfold nums; simp
  rw [List.take_of_length_le (Nat.le_refl _)] at ab
  rw [List.take_of_length_le (by rw [hnl]; exact Nat.le_refl _)] at at_
  obtain ⟨bad, hbad⟩ : ∃ bad : Int, bad = (((nums c turns).filter fun v => decide (v < 0)).length : Int) := ⟨_, rfl⟩
  -- 7
  obtain ⟨S1, hS1⟩ : ∃ S1, S1 = S ++ [O.lst (((nums c turns).filter fun v => decide (v < 0)).map P.int)] := ⟨_, rfl⟩
  have g1 : Grow S S1 := by rw [hS1]; exact Grow.add
  have e7 : evA (envA pg (n + 8)) (.b1 .len (.lc (.v 15) (.ex (.v 5)) (.cons (.cmp .lt (.v 15) (.int 0)) .nil) (.v 15) [15])) (Lc c turns j e nb a8 none none none none none) S = .ok (.int bad) S1 := by
    have hkk : Ok (evA (envA pg (n + 8)) (.lc (.v 15) (.ex (.v 5)) (.cons (.cmp .lt (.v 15) (.int 0)) .nil) (.v 15) [15]) (Lc c turns j e nb a8 none none none none none) S) fun r s' => r = .loc S.length ∧ s' = S1 := by
      refine ok_lcf (s1 := S) (gd := stays (.loc nb) S) (nums c turns) P.int (fun v => if decide (v < 0) = true then some (P.int v) else none) ?_ rfl ?_ (by unfold SZ; omega) ⟨rfl, ?_⟩
      · simp [lc_locals, an]
      · intro v _
        by_cases hv : v < 0 <;> simp [lc_locals, wipe, hv]
      · rw [filterMap_if (fun v => decide (v < 0)) P.int, hS1]
    obtain ⟨r, s', e, rfl, rfl⟩ := hkk
    rw [e_b1, e, bind_ok, hS1, hbad]
    simp
  -- 8
  obtain ⟨L, M, p1, p2, p3, p4, p5⟩ := pairs_of (tabN (nums c turns)) (numD_nd _) (tabN_pos _)
  have hTl := tabN_len (nums c turns)
  have hMl : M.length ≤ 4096 := by rw [p4.length_eq]; omega
  have hLl : L.length ≤ 4096 := by have : M.length = L.length := by rw [p2]; simp
                                   omega
  have at1 := g1.at at_
  obtain ⟨S2, hS2⟩ : ∃ S2, S2 = S1 ++ [O.lst (((tabN (nums c turns)).map (·.1)).map P.int), O.lst (L.map P.int)] := ⟨_, rfl⟩
  have g2 : Grow S1 S2 := by rw [hS2]; exact Grow.add
  have hs2 : S2[S1.length + 1]? = some (.lst (L.map P.int)) := by rw [hS2]; simp
  have at2 := g2.at at1
  have esort : evA (envA pg (n + 8)) (.b1 .sorted (.m0 .keys (.v 7))) (Lc c turns j e nb a8 (some (.int bad)) none none none none) S1 = .ok (.loc (S1.length + 1)) S2 := by
    have hkeys : m0P .keys (.loc (nb + 2)) S1 = .ok (.loc S1.length) (S1 ++ [O.lst (((tabN (nums c turns)).map (·.1)).map P.int)]) := by
      rw [u_keys, at1]
      dsimp only
      unfold alloc
      rw [List.map_map, List.map_map]
      rfl
    rw [e_b1, e_m0]
    have : evA (envA pg (n + 8)) (.v 7) (Lc c turns j e nb a8 (some (.int bad)) none none none none) S1 = .ok (.loc (nb + 2)) S1 := by simp [lc_locals]
    rw [this, bind_ok, hkeys, bind_ok, u_sorted, u_lst, at_new]
    dsimp only
    rw [Option.bind_some, p1, hS2]
    simp [alloc]
  obtain ⟨S3, hS3⟩ : ∃ S3, S3 = S2 ++ [O.lst (M.map prP)] := ⟨_, rfl⟩
  have g3 : Grow S2 S3 := by rw [hS3]; exact Grow.add
  have e8 : evA (envA pg (n + 8)) (.b1 .tuple (.lc (.v 15) (.ex (.b1 .sorted (.m0 .keys (.v 7)))) .nil (.tup (.cons (.v 15) (.cons (.ix (.v 7) (.v 15)) .nil))) [15])) (Lc c turns j e nb a8 (some (.int bad)) none none none none) S1 = .ok (.tup (M.map prP)) S3 := by
    have hkk : Ok (evA (envA pg (n + 8)) (.lc (.v 15) (.ex (.b1 .sorted (.m0 .keys (.v 7)))) .nil (.tup (.cons (.v 15) (.cons (.ix (.v 7) (.v 15)) .nil))) [15]) (Lc c turns j e nb a8 (some (.int bad)) none none none none) S1) fun r s' => r = .loc S2.length ∧ s' = S3 := by
      refine ok_lcm (s1 := S2) (gd := stays (.loc (S1.length + 1)) S2) L P.int (fun v => prP (v, (getG (tabN (nums c turns)) v).getD 0)) ?_ rfl ?_ (by unfold SZ; omega) ⟨rfl, ?_⟩
      · rw [ei_ex, esort, bind_ok]
        simp [hs2]
      · intro v hv
        obtain ⟨w, hw⟩ := p3 v hv
        have hko : keyOk false (.int v) ((tabN (nums c turns)).map jP) = true := keyOk_flat (e := P.int) (fun k => rfl) v _
        have hget : dget ((tabN (nums c turns)).map jP) (.int v) = some (.int w) := (dget_g int_inj v _).trans (by rw [hw]; rfl)
        simp [lc_locals, wipe, at2, hko, hget, hw, prP]
      · rw [hS3, p2, List.map_map]; rfl
    obtain ⟨r, s', ee, hr, hs⟩ := hkk
    rw [hr, hs] at ee
    have hn : S3[S2.length]? = some (O.lst (M.map prP)) := by rw [hS3]; exact at_new _ _
    rw [e_b1, ee, bind_ok, b_tup, u_seq, hn]
    rfl
  have ae3 := g3.at (g2.at (g1.at ae))
  have an3 := g3.at (g2.at (g1.at an))
  have ab3 := g3.at (g2.at (g1.at ab))
  rw [xs_cons]
  refine ok_bind (ok_eq (a := Fl.nx (Lc c turns j e nb a8 (some (.int bad)) none none none none)) (s := S1) (by rw [x_asg, e7]; simp [lc_locals]) ?_)
  dsimp only
  rw [xs_cons]
  refine ok_bind (ok_eq (a := Fl.nx (Lc c turns j e nb a8 (some (.int bad)) (some (.tup (M.map prP))) none none none)) (s := S3) (by rw [x_asg, e8]; simp [lc_locals]) ?_)
  dsimp only
  have hl : ∀ q : Loc, q = Lc c turns j e nb a8 (some (.int bad)) (some (.tup (M.map prP))) none none none → q = q := fun _ _ => rfl
  generalize hLL : Lc c turns j e nb a8 (some (.int bad)) (some (.tup (M.map prP))) none none none = LL
  have v1 : ∀ st, evA (envA pg (n + 8)) (.v 1) LL st = .ok (cP c) st := fun st => by rw [← hLL]; simp [lc_locals]
  have v2 : ∀ st, evA (envA pg (n + 8)) (.v 2) LL st = .ok (iP turns) st := fun st => by rw [← hLL]; simp [lc_locals]
  have v4 : ∀ st, evA (envA pg (n + 8)) (.v 4) LL st = .ok (.loc e) st := fun st => by rw [← hLL]; simp [lc_locals]
  have v5 : ∀ st, evA (envA pg (n + 8)) (.v 5) LL st = .ok (.loc nb) st := fun st => by rw [← hLL]; simp [lc_locals]
  have v6 : ∀ st, evA (envA pg (n + 8)) (.v 6) LL st = .ok (.loc (nb + 1)) st := fun st => by rw [← hLL]; simp [lc_locals]
  have v9 : ∀ st, evA (envA pg (n + 8)) (.v 9) LL st = .ok (.int bad) st := fun st => by rw [← hLL]; simp [lc_locals]
  have v10 : ∀ st, evA (envA pg (n + 8)) (.v 10) LL st = .ok (.tup (M.map prP)) st := fun st => by rw [← hLL]; simp [lc_locals]
  have cal2 : ∀ (f : Nat) (x : P), callA pg (n + 8) f [cP c, iP turns] S3 = .ok x S3 → evA (envA pg (n + 8)) (.call f (.cons (.v 1) (.cons (.v 2) .nil))) LL S3 = .ok x S3 := fun f x hx => by
    rw [e_call, es_cons, v1, bind_ok, es_cons, v2, bind_ok, es_nil]
    simp only [bind_ok, envA_cal, hx]
  have hG : (envA pg (n + 8)).cal = callA pg (n + 7 + 1) := rfl
  have t4 : evA (envA pg (n + 8)) (.b1 .tuple (.v 4)) LL S3 = .ok (.tup ((rowsN c.p turns).map bP)) S3 := by rw [e_b1, v4, bind_ok, b_tup, u_seq, ae3]; rfl
  have l4 : evA (envA pg (n + 8)) (.b1 .len (.v 4)) LL S3 = .ok (.int (rowsN c.p turns).length) S3 := by rw [e_b1, v4, bind_ok]; simp [ae3]
  have t6 : evA (envA pg (n + 8)) (.b1 .tuple (.v 6)) LL S3 = .ok (.tup (btP turns.length (rowsN c.p turns))) S3 := by rw [e_b1, v6, bind_ok, b_tup, u_seq, ab3]; rfl
  have m5 : evA (envA pg (n + 8)) (.b1 .min (.v 5)) LL S3 = .ok (.int (lea c turns (zs c))) S3 := by
    rw [e_b1, v5, bind_ok, u_min, u_lst, an3]
    dsimp only
    rw [Option.bind_some, intsOf_map, Option.bind_some, eq_least c turns h]
    rfl
  have q9 : evA (envA pg (n + 8)) (.cmp .eq (.v 9) (.int 0)) LL S3 = .ok (.bl (bad == 0)) S3 := by rw [e_cmp, v9, bind_ok, e_int, bind_ok, o_eqI]
  have c21 := cal2 21 (.tup ((rowsN c.p turns).map bP)) (by have := s_all_choices (n + 5) c turns S3 htl20; rw [rowsF_eq] at this; exact this)
  have c6 := cal2 6 (.int (rowsN c.p turns).length) (by have := s_choice_number (n + 3) c turns S3 h.ne (by omega) htl20; rw [eq_number] at this; exact this)
  have c7 := cal2 7 (.tup (btP turns.length (rowsN c.p turns))) (by have := s_choices_by_tops (n + 3) c turns S3 h.ne (by omega) htl20; rw [eq_tops] at this; exact this)
  have c9 := cal2 9 (.int bad) (by have := s_bad_number (n + 2) c turns S3 h.ne (by omega) htl20; rw [eq_bad c turns h, ← hbad] at this; exact this)
  have c8 := cal2 8 (.tup (M.map prP)) (by
    obtain ⟨L', k1, k2, k3⟩ := s_number_counts (n + 3) c turns S3 h.ne (by omega) htl20
    rw [eq_counts c turns h k2 k3 p4 p5] at k1
    exact k1)
  have c22 := cal2 22 (.int (lea c turns (zs c))) (s_least_counted n c turns S3 h.ne (by omega) htl20)
  have c23 := cal2 23 (.bl (bad == 0)) (by have := s_holds_for n c turns S3 h.ne (by omega) htl20; rw [eq_holds c turns h, ← hbad] at this; exact this)
  have sm : ∀ i : Int, nodes (.int i) < 399990 := fun i => by simp [nodes]
  have nbt : nodes (.tup (btP turns.length (rowsN c.p turns))) < 399990 := by
    have := nodesL_mem 1 (btP turns.length (rowsN c.p turns)) fun a ha => by
      obtain ⟨b, hb, rfl⟩ := List.mem_map.mp ha
      simp [nodes]
    have hl : (btP turns.length (rowsN c.p turns)).length = turns.length + 1 := by unfold btP; simp
    rw [hl] at this
    show 1 + nodesL _ < _
    omega
  have nM : nodes (.tup (M.map prP)) < 399990 := by
    have := nodesL_mem 3 (M.map prP) fun a ha => by
      obtain ⟨b, hb, rfl⟩ := List.mem_map.mp ha
      simp [prP, nodes, nodesL]
    rw [List.length_map] at this
    show 1 + nodesL _ < _
    omega
  have pbt : pure? (.tup (btP turns.length (rowsN c.p turns))) = true := pures_map (fun _ => rfl) _
  rw [xs_cons, if_false _ _ _ _ _ (or_false _ _ _ _ _ (not_same _ _ _ _ _ _ _ hG c21 t4 (pure_rows _) (nodes_rows h)) (not_same _ _ _ _ _ _ _ hG c6 l4 rfl (sm _))), bind_ok]
  dsimp only
  rw [xs_cons, if_false _ _ _ _ _ (or_false _ _ _ _ _ (not_same _ _ _ _ _ _ _ hG c7 t6 pbt nbt) (not_same _ _ _ _ _ _ _ hG c9 (v9 S3) rfl (sm _))), bind_ok]
  dsimp only
  rw [xs_cons, if_false _ _ _ _ _ (or_false _ _ _ _ _ (not_same _ _ _ _ _ _ _ hG c8 (v10 S3) (pure_prs M) nM) (not_same _ _ _ _ _ _ _ hG c22 m5 rfl (sm _))), bind_ok]
  dsimp only
  rw [xs_cons, if_false _ _ _ _ _ (not_same _ _ _ _ _ _ _ hG c23 q9 rfl (by simp [nodes])), bind_ok]
  dsimp only
  rw [← hLL]
  exact k _ _ S3 ((g1.trans g2).trans g3)
end K98
namespace K98
open Pa
theorem not_same2 (G : Env) (a b : Ex) (l : Loc) (s s1 s2 : S) (x : P) (n : Nat) (hG : G.cal = callA pg (n + 1)) (ha : evA G a l s = .ok x s1) (hb : evA G b l s1 = .ok x s2) (hp : pure? x = true) (hz : nodes x < 399990) : evA G (.not (.call 26 (.cons a (.cons b .nil)))) l s = .ok (.bl false) s2 := by
  rw [e_not, e_call, es_cons, ha, bind_ok, es_cons, hb, bind_ok, es_nil]
  simp only [bind_ok, hG, s_same n x s2 hp hz, t_bl, ofO_some]
  rfl
theorem if_false2 (G : Env) (a : Ex) (A : Sms) (l : Loc) (s s' : S) (ha : evA G a l s = .ok (.bl false) s') : exA G (.ife a A .nil) l s = .ok (.nx l) s' := by
  rw [x_ife, cond_eq, ha, bind_ok, t_bl, ofO_some, bind_ok, if_neg (by decide), xs_nil]
theorem tops_range : ∀ (bs : List Bool) (k : Nat), tops k bs = (List.range bs.length).filterMap fun i => if bs[i]? = some true then some (i + k) else none
  | [], k => rfl
  | b :: bs, k => by
    rw [tops_cons, tops_range bs (k + 1), List.length_cons, List.range_succ_eq_map, List.filterMap_cons, List.filterMap_map]
    have e : ((fun i => if (b :: bs)[i]? = some true then some (i + k) else none) ∘ Nat.succ) = fun i => if bs[i]? = some true then some (i + (k + 1)) else none := by
      funext i
      simp only [Function.comp, List.getElem?_cons_succ]
      congr 2
      omega
    rw [e]
    cases b <;> simp
theorem last_cut (xs : List Nat) : ((cut (xs.map fun k : Nat => P.int k) (some ((xs.length : Int) - 1)) none) ++ [P.non])[0]? = some (optP xs.getLast?) := by
  rcases List.eq_nil_or_concat xs with rfl | ⟨r, z, rfl⟩
  · rfl
  · rw [List.concat_eq_append]
    have e : cut ((r ++ [z]).map fun k : Nat => P.int k) (some (((r ++ [z]).length : Int) - 1)) none = [.int z] := by
      unfold cut sIx
      dsimp only
      simp only [List.length_append, List.length_cons, List.length_nil, List.length_map]
      rw [if_neg (by omega)]
      have e1 : (((r.length + (0 + 1) : Nat) : Int) - 1).toNat = r.length := by omega
      rw [e1, Nat.min_eq_left (by omega), List.map_append, List.drop_append_of_le_length (by simp), List.drop_of_length_le (by simp)]
      simp
    rw [e]
    simp [optP]
theorem askd_grow {s s' : S} {p : P} (g : Grow s s') (h : Askd s p) : Askd s' p := by
  cases p with
  | loc k => obtain ⟨xs, hx⟩ := h; exact ⟨xs, g.at hx⟩
  | non => trivial
  | bl b => trivial
  | int b => trivial
  | str b => trivial
  | rol b => exact h.elim
  | tup xs => exact h
theorem asked_E (n j k : Nat) (c : Cl) (turns : List Int) (e nb i : Nat) (S : S) (a9 a10 a12 a13 : Option P) (bs : List Bool) (h : Askw c turns) (hJ : Jar j S) (ae : S[e]? = some (.lst ((rowsN c.p turns).map bP))) (an : S[nb]? = some (.lst ((nums c turns).map P.int))) (hje : e ≠ j) (hjn : nb ≠ j) (hk : (rowsN c.p turns)[k]? = some bs) :
    Ok (exsA (envA pg (n + 8)) (.cons (.ife (.not (.call 26 (.cons (.call 18 (.cons (.v 1) (.cons (.v 2) (.cons (.ix (.v 4) (.v 8)) .nil)))) (.cons (.ix (.v 5) (.v 8)) .nil)))) (.cons (.ret (.bl false)) .nil) .nil) (.cons (.asg (.v 12) (.lc (.v 16) (.rng1 (.b1 .len (.v 2))) (.cons (.ix (.ix (.v 4) (.v 8)) (.v 16)) .nil) (.v 16) [16])) (.cons (.ife (.not (.call 26 (.cons (.call 20 (.cons (.ix (.v 4) (.v 8)) .nil)) (.cons (.ix (.bin .add (.slL (.v 12) (.bin .sub (.b1 .len (.v 12)) (.int 1))) (.lst (.cons .non .nil))) (.int 0)) .nil)))) (.cons (.ret (.bl false)) .nil) .nil) (.cons (.asg (.v 13) (.ix (.lst (.cons (.ix (.v 4) (.v 8)) (.cons (.call 31 (.cons (.v 0) (.cons (.v 2) (.cons (.ix (.v 4) (.v 8)) .nil)))) .nil))) (.b1 .int (.cmp .gt (.v 11) (.int 0))))) (.cons (.ife (.not (.call 26 (.cons (.call 19 (.cons (.v 1) (.cons (.v 2) (.cons (.v 13) .nil)))) (.cons (.call 30 (.cons (.v 3) (.cons (.v 2) (.cons (.v 13) .nil)))) .nil)))) (.cons (.ret (.bl false)) .nil) .nil) .nil)))))
      (Lc c turns j e nb (some (.int k)) a9 a10 (some (.int i)) a12 a13) S)
      fun fl S' => ∃ a12 a13, fl = .nx (Lc c turns j e nb (some (.int k)) a9 a10 (some (.int i)) a12 a13) ∧ Jg j S S' := by
  have hrows := rows_small h
  have hbl : bs.length = turns.length := rowsN_len (List.mem_of_getElem? hk)
  have htl := h.tl
  have hlen4 := h.len
  have hG : (envA pg (n + 8)).cal = callA pg (n + 7 + 1) := rfl
  have hatr : atI ((rowsN c.p turns).map bP) (k : Int) = some (bP bs) := by rw [atI_nat, List.getElem?_map, hk]; rfl
  have hatn : atI ((nums c turns).map P.int) (k : Int) = some (.int (lawN c turns bs)) := by rw [atI_nat]; unfold nums; rw [List.getElem?_map, List.getElem?_map, hk]; rfl
  have v48 : ∀ (a12 a13 : Option P) (st : Pa.S), st[e]? = some (.lst ((rowsN c.p turns).map bP)) → evA (envA pg (n + 8)) (.ix (.v 4) (.v 8)) (Lc c turns j e nb (some (.int k)) a9 a10 (some (.int i)) a12 a13) st = .ok (bP bs) st := fun a12 a13 st hst => by simp [lc_locals, hst, hatr]
  have w0 : ∀ (a12 a13 : Option P) (st : Pa.S), evA (envA pg (n + 8)) (.v 0) (Lc c turns j e nb (some (.int k)) a9 a10 (some (.int i)) a12 a13) st = .ok (.loc j) st := fun a12 a13 st => by simp [lc_locals]
  have w1 : ∀ (a12 a13 : Option P) (st : Pa.S), evA (envA pg (n + 8)) (.v 1) (Lc c turns j e nb (some (.int k)) a9 a10 (some (.int i)) a12 a13) st = .ok (cP c) st := fun a12 a13 st => by simp [lc_locals]
  have w2 : ∀ (a12 a13 : Option P) (st : Pa.S), evA (envA pg (n + 8)) (.v 2) (Lc c turns j e nb (some (.int k)) a9 a10 (some (.int i)) a12 a13) st = .ok (iP turns) st := fun a12 a13 st => by simp [lc_locals]
  -- 1
  have hcn := s_counted_number (n + 6) c turns bs S h.ne (by omega) hbl.symm
  have hcl : cnt c.ts turns bs (List.replicate c.ts.length 0) = lawN c turns bs := cnt_law c turns bs hbl.symm fun t ht => (h.ts t ht).2.2
  rw [hcl] at hcn
  have e1 : evA (envA pg (n + 8)) (.call 18 (.cons (.v 1) (.cons (.v 2) (.cons (.ix (.v 4) (.v 8)) .nil)))) (Lc c turns j e nb (some (.int k)) a9 a10 (some (.int i)) a12 a13) S = .ok (.int (lawN c turns bs)) S := by
    rw [e_call, es_cons, w1, bind_ok, es_cons, w2, bind_ok, es_cons, v48 _ _ S ae, bind_ok, es_nil]
    simp [hcn]
  have e2 : evA (envA pg (n + 8)) (.ix (.v 5) (.v 8)) (Lc c turns j e nb (some (.int k)) a9 a10 (some (.int i)) a12 a13) S = .ok (.int (lawN c turns bs)) S := by
    simp [lc_locals, an, hatn]
  rw [xs_cons, if_false2 _ _ _ _ _ _ (not_same2 _ _ _ _ _ _ _ _ _ hG e1 e2 rfl (by simp [nodes])), bind_ok]
  dsimp only
  -- 2
  obtain ⟨S1, hS1⟩ : ∃ S1, S1 = S ++ [O.lst ((tops 0 bs).map fun k : Nat => P.int k)] := ⟨_, rfl⟩
  have g1 : Grow S S1 := by rw [hS1]; exact Grow.add
  have n1 : S1[S.length]? = some (.lst ((tops 0 bs).map fun k : Nat => P.int k)) := by rw [hS1]; exact at_new _ _
  have e3 : evA (envA pg (n + 8)) (.lc (.v 16) (.rng1 (.b1 .len (.v 2))) (.cons (.ix (.ix (.v 4) (.v 8)) (.v 16)) .nil) (.v 16) [16]) (Lc c turns j e nb (some (.int k)) a9 a10 (some (.int i)) a12 a13) S = .ok (.loc S.length) S1 := by
    have hkk : Ok (evA (envA pg (n + 8)) (.lc (.v 16) (.rng1 (.b1 .len (.v 2))) (.cons (.ix (.ix (.v 4) (.v 8)) (.v 16)) .nil) (.v 16) [16]) (Lc c turns j e nb (some (.int k)) a9 a10 (some (.int i)) a12 a13) S) fun r s' => r = .loc S.length ∧ s' = S1 := by
      refine ok_lcf (s1 := S) (gd := fun _ => True) (List.range turns.length) (fun i : Nat => P.int i) (fun i => (if bs[i]? = some true then some (i + 0) else none).map fun k : Nat => P.int k) ?_ trivial ?_ (by simp; unfold SZ; omega) ⟨rfl, ?_⟩
      · exact ei_rngN (by simp [lc_locals, iP]) (by unfold SZ; omega)
      · intro q hq
        have hq' : q < turns.length := by simpa using hq
        have hqb : q < bs.length := by omega
        have hat : atI (bs.map P.bl) (q : Int) = some (.bl bs[q]) := by rw [atI_nat, List.getElem?_map, List.getElem?_eq_getElem hqb]; rfl
        have hlw : bs[q]? = some bs[q] := List.getElem?_eq_getElem hqb
        cases hb : bs[q] <;> simp [lc_locals, wipe, ae, hatr, bP, hat, hlw, hb]
      · rw [filterMap_comp, hS1, tops_range bs 0, hbl]
    obtain ⟨r, s', ee, hr, hs⟩ := hkk
    rw [hr, hs] at ee
    exact ee
  rw [xs_cons]
  refine ok_bind (ok_eq (a := Fl.nx (Lc c turns j e nb (some (.int k)) a9 a10 (some (.int i)) (some (.loc S.length)) a13)) (s := S1) (by rw [x_asg, e3]; simp [lc_locals]) ?_)
  dsimp only
  -- 3
  have ae1 := g1.at ae
  have hlt := s_last_top (n + 7) bs S1 (by unfold SZ; omega)
  have e4 : evA (envA pg (n + 8)) (.call 20 (.cons (.ix (.v 4) (.v 8)) .nil)) (Lc c turns j e nb (some (.int k)) a9 a10 (some (.int i)) (some (.loc S.length)) a13) S1 = .ok (optP (lastTop bs)) S1 := by
    rw [e_call, es_cons, v48 _ _ S1 ae1]
    simp [hlt]
  obtain ⟨cs, hcs⟩ : ∃ cs, cs = cut ((tops 0 bs).map fun k : Nat => P.int k) (some (((tops 0 bs).length : Int) - 1)) none := ⟨_, rfl⟩
  have hlc := last_cut (tops 0 bs)
  rw [← hcs] at hlc
  have hcsl : cs.length ≤ bs.length := by
    rw [hcs]
    unfold cut
    rw [List.length_take, List.length_drop, List.length_map, tops_range bs 0]
    have : ((List.range bs.length).filterMap fun i => if bs[i]? = some true then some (i + 0) else none).length ≤ (List.range bs.length).length := List.length_filterMap_le _ _
    rw [List.length_range] at this
    omega
  obtain ⟨S2, hS2⟩ : ∃ S2, S2 = S1 ++ [O.lst cs, O.lst [.non], O.lst (cs ++ [.non])] := ⟨_, rfl⟩
  have g2 : Grow S1 S2 := by rw [hS2]; exact Grow.add
  have e5 : evA (envA pg (n + 8)) (.ix (.bin .add (.slL (.v 12) (.bin .sub (.b1 .len (.v 12)) (.int 1))) (.lst (.cons .non .nil))) (.int 0)) (Lc c turns j e nb (some (.int k)) a9 a10 (some (.int i)) (some (.loc S.length)) a13) S1 = .ok (optP (lastTop bs)) S2 := by
    have hv12 : ∀ st, evA (envA pg (n + 8)) (.v 12) (Lc c turns j e nb (some (.int k)) a9 a10 (some (.int i)) (some (.loc S.length)) a13) st = .ok (.loc S.length) st := fun st => by simp [lc_locals]
    have hsl : slP (.loc S.length) (some (((tops 0 bs).length : Int) - 1)) none S1 = .ok (.loc S1.length) (S1 ++ [O.lst cs]) := by
      unfold slP
      simp only [n1, ← hcs, alloc]
    have hlen : b1P .len (.loc S.length) S1 = .ok (.int (tops 0 bs).length) S1 := by simp [n1]
    have h1 : (S1 ++ [O.lst cs, O.lst [P.non]])[S1.length]? = some (.lst cs) := by simp
    have h2 : (S1 ++ [O.lst cs, O.lst [P.non]])[S1.length + 1]? = some (.lst [.non]) := by simp
    have h3 : S2[S1.length + 2]? = some (.lst (cs ++ [.non])) := by
      rw [hS2, List.getElem?_append_right (by omega)]
      have : S1.length + 2 - S1.length = 2 := by omega
      rw [this]; rfl
    have hcat : binP .add (.loc S1.length) (.loc (S1.length + 1)) (S1 ++ [O.lst cs, O.lst [P.non]]) = .ok (.loc (S1.length + 2)) S2 := by
      rw [u_cat, h1, h2]
      dsimp only
      rw [if_pos (by simp; unfold SZ; omega), hS2]
      simp [alloc]
    rw [e_ix, e_bin, e_slL, hv12, bind_ok, e_bin, e_b1, hv12, bind_ok, hlen, bind_ok, e_int, bind_ok, o_sub, bind_ok]
    dsimp only
    rw [hsl, bind_ok, e_lst, es_cons, e_non, bind_ok, es_nil, bind_ok, bind_ok]
    simp only [alloc, bind_ok, List.length_append, List.length_cons, List.length_nil, List.append_assoc, List.cons_append, List.nil_append]
    rw [show S1.length + (0 + 1) = S1.length + 1 from rfl, hcat, bind_ok, e_int, bind_ok, u_ixI, h3]
    dsimp only
    rw [atI_0, hlc]
    rfl
  have po : pure? (optP (lastTop bs)) = true := by cases lastTop bs <;> rfl
  have no : nodes (optP (lastTop bs)) < 399990 := by cases lastTop bs <;> simp [optP, nodes]
  rw [xs_cons, if_false2 _ _ _ _ _ _ (not_same2 _ _ _ _ _ _ _ _ _ hG e4 e5 po no), bind_ok]
  dsimp only
  -- 4
  have ae2 := g2.at ae1
  have hJ2 := (hJ.grow g1).grow g2
  obtain ⟨p, S3, ec, jg, hp⟩ := s_law_bent (n + 6) j turns bs S2 hJ2 (by omega)
  have ae3 := jg.at hje ae2
  obtain ⟨S4, hS4⟩ : ∃ S4, S4 = S3 ++ [O.lst [bP bs, p]] := ⟨_, rfl⟩
  have g4 : Grow S3 S4 := by rw [hS4]; exact Grow.add
  have n4 : S4[S3.length]? = some (.lst [bP bs, p]) := by rw [hS4]; exact at_new _ _
  have hx : ∃ x, Askd S4 x ∧ ∀ a12 a13, evA (envA pg (n + 8)) (.ix (.lst (.cons (.ix (.v 4) (.v 8)) (.cons (.call 31 (.cons (.v 0) (.cons (.v 2) (.cons (.ix (.v 4) (.v 8)) .nil)))) .nil))) (.b1 .int (.cmp .gt (.v 11) (.int 0)))) (Lc c turns j e nb (some (.int k)) a9 a10 (some (.int i)) a12 a13) S2 = .ok x S4 := by
    have h31 : ∀ a12 a13, evA (envA pg (n + 8)) (.call 31 (.cons (.v 0) (.cons (.v 2) (.cons (.ix (.v 4) (.v 8)) .nil)))) (Lc c turns j e nb (some (.int k)) a9 a10 (some (.int i)) a12 a13) S2 = .ok p S3 := fun a12 a13 => by
      rw [e_call, es_cons, w0, bind_ok, es_cons, w2, bind_ok, es_cons, v48 _ _ S2 ae2, bind_ok, es_nil]
      simp [ec]
    have hl : ∀ a12 a13, evA (envA pg (n + 8)) (.lst (.cons (.ix (.v 4) (.v 8)) (.cons (.call 31 (.cons (.v 0) (.cons (.v 2) (.cons (.ix (.v 4) (.v 8)) .nil)))) .nil))) (Lc c turns j e nb (some (.int k)) a9 a10 (some (.int i)) a12 a13) S2 = .ok (.loc S3.length) S4 := fun a12 a13 => by
      rw [e_lst, es_cons, v48 _ _ S2 ae2, bind_ok, es_cons, h31, bind_ok, es_nil]
      simp only [bind_ok, alloc, hS4]
    by_cases hi : i = 0
    · refine ⟨bP bs, askd_bP S4 (by unfold SZ; omega), fun a12 a13 => ?_⟩
      rw [e_ix, hl, bind_ok]
      simp [lc_locals, hi, n4]
    · refine ⟨p, askd_grow g4 hp, fun a12 a13 => ?_⟩
      have hi' : 0 < i := by omega
      rw [e_ix, hl, bind_ok]
      simp [lc_locals, hi', n4]
  obtain ⟨x, hax, ex⟩ := hx
  rw [xs_cons]
  refine ok_bind (ok_eq (a := Fl.nx (Lc c turns j e nb (some (.int k)) a9 a10 (some (.int i)) (some (.loc S.length)) (some x))) (s := S4) (by rw [x_asg, ex]; simp [lc_locals]) ?_)
  dsimp only
  have f1 := s_is_choice (n + 6) c turns x S4 (by unfold SZ; omega) hax
  have f2 := s_law_is_choice (n + 7) c.p turns x S4 (by omega) hax
  have e6 : evA (envA pg (n + 8)) (.call 19 (.cons (.v 1) (.cons (.v 2) (.cons (.v 13) .nil)))) (Lc c turns j e nb (some (.int k)) a9 a10 (some (.int i)) (some (.loc S.length)) (some x)) S4 = .ok (.bl (isCh c.p turns x)) S4 := by
    simp [lc_locals, f1]
  have e7 : evA (envA pg (n + 8)) (.call 30 (.cons (.v 3) (.cons (.v 2) (.cons (.v 13) .nil)))) (Lc c turns j e nb (some (.int k)) a9 a10 (some (.int i)) (some (.loc S.length)) (some x)) S4 = .ok (.bl (isCh c.p turns x)) S4 := by
    simp [lc_locals, f2]
  rw [xs_cons, if_false2 _ _ _ _ _ _ (not_same2 _ _ _ _ _ _ _ _ _ hG e6 e7 rfl (by simp [nodes])), bind_ok]
  dsimp only
  rw [xs_nil]
  refine ok_eq rfl ⟨_, _, rfl, ?_⟩
  exact ((Jg.of_grow hJ (g1.trans g2)).trans jg).trans (Jg.of_grow jg.jar g4)
theorem s_law_asked (n j : Nat) (c : Cl) (turns : List Int) (s : S) (h : Askw c turns) (hJ : Jar j s) : Ok (callA pg (n + 9) 32 [.loc j, cP c, iP turns] s) fun r s' => Jm j s s' ∧ r = .bl true := by
  have hj := hJ.lt
  have hrows := rows_small h
  rw [calA (b := d32) rfl, runA_ok ⟨rfl, by decide⟩]
  simp only [d32, b32]
  refine ok_gcj hj ?_
  refine ok_bind ?_
  refine asked_A n j c turns s _ _ h ?_
  intro e nb S A
  rw [xs_cons]
  refine ok_bind (ok_imp (asked_B n j c turns s e nb S h A) ?_)
  rintro fl S1 ⟨a8, rfl, A1⟩
  dsimp only
  refine asked_CD n j c turns s e nb S1 a8 _ _ h A1 ?_
  intro a9 a10 S2 g2
  have hje : e ≠ j := by have := A1.e0; omega
  have hjn : nb ≠ j := by have := A1.e0; have := A1.en; omega
  have J2 : Jg j s S2 := Jg.of_grow hJ (A1.g.trans g2)
  rw [xs_cons]
  refine ok_bind ?_
  refine ok_for (s1 := S2) (w := ((List.range 6).map (fun i : Nat => P.int i), fun _ => True)) (fun i l S' => ∃ a8 a11 a12 a13, l = Lc c turns j e nb a8 a9 a10 a11 a12 a13 ∧ Jg j s S' ∧ S'[e]? = some (.lst ((rowsN c.p turns).map bP)) ∧ S'[nb]? = some (.lst ((nums c turns).map P.int))) ?_ ?_ ?_ ?_ ?_
  · exact ei_rngN (by simp) (by decide)
  · exact ⟨a8, none, none, none, rfl, J2, g2.at A1.at_e, g2.at A1.at_n⟩
  · intros; trivial
  · rintro i y l S' hy ⟨a8, a11, a12, a13, rfl, q1, q2, q3⟩
    obtain ⟨i', hi', rfl⟩ := map_at hy
    have eb : bindT (.v 11) (P.int (i' : Nat)) (Lc c turns j e nb a8 a9 a10 a11 a12 a13) = some (Lc c turns j e nb a8 a9 a10 (some (.int (i' : Nat))) a12 a13) := by simp [Lc]
    rw [eb, ofO_some, bind_ok]
    have hpos : 0 < (rowsN c.p turns).length := by simp [rowsN]
    obtain ⟨r, S3, e3, m3, u, u0, u1, rfl⟩ := s_drw (n + 7) j (rowsN c.p turns).length S' q1.jar (by omega)
    obtain ⟨u, rfl⟩ := Int.eq_ofNat_of_zero_le u0
    have hu : u < (rowsN c.p turns).length := by omega
    rw [xs_cons]
    refine ok_bind (ok_eq (a := Fl.nx (Lc c turns j e nb (some (.int u)) a9 a10 (some (.int (i' : Nat))) a12 a13)) (s := S3) ?_ ?_)
    · have hl4 : b1P .len (.loc e) S' = .ok (.int (rowsN c.p turns).length) S' := by simp [q2]
      simp only [x_asg, e_call, es_cons, es_nil, e_v, e_b1, lc_locals, List.getElem?_cons_succ, List.getElem?_cons_zero, bind_ok, hl4, envA_cal, e3, bt_v]
      simp
    · dsimp only
      have q2' := m3.at hje q2
      have q3' := m3.at hjn q3
      refine ok_imp (asked_E n j u c turns e nb i' S3 a9 a10 a12 a13 _ h m3.jar q2' q3' hje hjn (List.getElem?_eq_getElem hu)) ?_
      rintro fl S4 ⟨a12', a13', rfl, jg⟩
      exact ⟨_, _, _, _, rfl, (q1.trans m3.toJg).trans jg, jg.at hje q2', jg.at hjn q3'⟩
  · rintro l S' ⟨a8, a11, a12, a13, rfl, q1, q2, q3⟩
    dsimp only
    rw [xs_cons, x_ret, e_bl, bind_ok, bind_ok]
    exact ok_eq rfl (ok_eq rfl ⟨rfl, q1, rfl⟩)
end K98
namespace K98
open Pa
theorem ok_gce {s : S} {r : R P} {v : P} (h : Ok r fun p _ => p = v) : Ok (gc s r) fun p _ => p = v := by
  obtain ⟨p, s1, e, rfl⟩ := h
  rw [e]
  unfold gc
  dsimp only
  split
  · exact ⟨_, _, rfl, rfl⟩
  · exact ⟨_, _, rfl, rfl⟩
theorem draw_lc (n j : Nat) (l : Loc) (S S1 : Pa.S) (a b : Ex) (N : Nat) (many : Int) (ha : evA (envA pg (n + 9)) a l S = .ok (.int N) S1) (hN : N ≤ 1000) (hJ : Jar j S1) (hl : 7 < l.length) (h1 : ∀ x, (l.set 7 x)[1]? = some (some (.loc j))) (hb : ∀ x st, evA (envA pg (n + 9)) b (l.set 7 x) st = .ok (.int many) st) (hm : 0 < many) :
    Ok (evA (envA pg (n + 9)) (.b1 .tuple (.lc (.v 7) (.rng1 a) .nil (.call 25 (.cons (.v 1) (.cons b .nil))) [7])) l S) fun r s' => ∃ vs : List Int, r = iP vs ∧ Jg j S1 s' ∧ vs.length = N ∧ ∀ v ∈ vs, 0 ≤ v ∧ v < many := by
  rw [e_b1, e_lc, ei_rngN ha (by unfold SZ; omega), bind_ok]
  have hrun := lcL_run (g := fun _ => True) (f := fun x s => (ofO (bindT (.v 7) x (wipe l [7])) s).bind fun l2 s => (evCA (envA pg (n + 9)) .nil l2 s).bind fun k s => if k = true then (evA (envA pg (n + 9)) (.call 25 (.cons (.v 1) (.cons b .nil))) l2 s).bind fun p s => .ok (some p) s else .ok none s) (xs := (List.range N).map fun i : Nat => P.int i) (acc := []) (s := S1)
    (fun i acc s' => ∃ vs : List Int, acc = vs.map P.int ∧ vs.length = i ∧ (∀ v ∈ vs, 0 ≤ v ∧ v < many) ∧ Jg j S1 s') ⟨[], rfl, rfl, fun v hv => (by cases hv), Jg.refl hJ⟩ (fun _ _ _ _ _ => trivial) (by
      rintro i x acc s' hx ⟨vs, rfl, hv1, hv2, jg⟩
      obtain ⟨r, S2, e2, m2, u, u0, u1, rfl⟩ := s_drw (n + 8) j many s' jg.jar hm
      have hi : i < N := by simpa using (List.getElem?_eq_some_iff.mp hx).1
      refine ⟨some (.int u), S2, ?_, ?_, ?_⟩
      · have hw : wipe l [7] = l.set 7 none := rfl
        have hs : (l.set 7 none).set 7 (some x) = l.set 7 (some x) := List.set_set ..
        rw [hw, bt_v, if_pos (by simpa using hl), ofO_some, bind_ok, hs, ec_nil, bind_ok, if_pos rfl, e_call, es_cons, e_v, h1]
        dsimp only
        rw [bind_ok, es_cons, hb, bind_ok, es_nil]
        simp only [bind_ok, envA_cal, e2]
      · rw [List.length_map, hv1]; unfold SZ; omega
      · refine ⟨vs ++ [u], by simp, by simp [hv1], fun v hv => ?_, jg.trans m2.toJg⟩
        rcases List.mem_append.mp hv with z | z
        · exact hv2 v z
        · rw [List.mem_singleton] at z; subst z; exact ⟨u0, u1⟩)
  obtain ⟨acc, s', e, vs, rfl, hv1, hv2, jg⟩ := hrun
  dsimp only
  rw [e, bind_ok]
  unfold alloc
  rw [bind_ok, b_tup, u_seq, at_new]
  refine ⟨_, _, rfl, vs, rfl, jg.add _, ?_, hv2⟩
  rw [hv1, List.length_map, List.length_range]
theorem sum_perm {α : Type} (f : α → Int) {a b : List α} (h : a.Perm b) : (a.map f).sum = (b.map f).sum := by
  induction h with
  | nil => rfl
  | cons x _ ih => simp [ih]
  | swap x y l => simp; omega
  | trans _ _ h1 h2 => rw [h1, h2]
theorem lawN_perm {p : Int} {ts ts' : List Term} (h : ts.Perm ts') (turns : List Int) (bs : List Bool) : lawN ⟨p, ts⟩ turns bs = lawN ⟨p, ts'⟩ turns bs := sum_perm _ h
theorem nums_perm {p : Int} {ts ts' : List Term} (h : ts.Perm ts') (turns : List Int) : nums ⟨p, ts⟩ turns = nums ⟨p, ts'⟩ turns := by
  unfold nums
  exact List.map_congr_left fun bs _ => lawN_perm h turns bs
def envyT (one : Int) : List Term := [(one, 0, 1), (1 - one, 0, -1)]
theorem bad_good : ∀ one : Int, one = 0 ∨ one = 1 → ((nums ⟨one, envyT one⟩ [one, 1 - one]).filter fun v => decide (v < 0)).length = 0 ∧ 1 ≤ ((nums ⟨one, envyT one⟩ [1 - one, one]).filter fun v => decide (v < 0)).length := by
  rintro one (rfl | rfl)
  · exact ⟨by decide, by decide⟩
  · exact ⟨by decide, by decide⟩
/-- not (law_asked): never true -/
theorem asked_if (n j : Nat) (c : Cl) (turns : List Int) (ec et : Ex) (l : Loc) (S S1 : Pa.S) (h : Askw c turns) (h1 : l[1]? = some (some (.loc j))) (hc : evA (envA pg (n + 9)) ec l S = .ok (cP c) S1) (ht : evA (envA pg (n + 9)) et l S1 = .ok (iP turns) S1) (hJ : Jar j S1) :
    Ok (exA (envA pg (n + 9)) (.ife (.not (.call 32 (.cons (.v 1) (.cons ec (.cons et .nil))))) (.cons (.ret (.bl false)) .nil) .nil) l S) fun fl s' => fl = .nx l ∧ Jm j S1 s' := by
  obtain ⟨r, S2, e2, m2, rfl⟩ := s_law_asked n j c turns S1 h hJ
  refine ok_eq (a := Fl.nx l) (s := S2) ?_ ⟨rfl, m2⟩
  rw [x_ife, cond_eq, e_not, e_call, es_cons, e_v, h1]
  dsimp only
  rw [bind_ok, es_cons, hc, bind_ok, es_cons, ht, bind_ok, es_nil]
  simp [e2]
theorem fit_askw {persons : Int} {c : Cl} {turns : List Int} (h : Fit persons c) (hp : persons ≤ 5) (hl : turns.length ≤ 12) (ht : ∀ v ∈ turns, 0 ≤ v ∧ v < persons) : Askw c turns :=
  ⟨h.ne, h.len, fun t htm => by have := h.ts t htm; omega, hl, fun t htm => by have := ht t htm; omega⟩
theorem law_true (n : Nat) (ns : List Int) (s : S) (hn : ns.length ≤ 63) : Ok (callA pg (n + 10) 33 [.rol (ns.map P.int)] s) fun r _ => r = .bl true := by
  obtain ⟨y, xs, e0, hx⟩ := s_jar (n + 8) ns s hn
  obtain ⟨S0, hS0⟩ : ∃ S0, S0 = s ++ [jarO y xs] := ⟨_, rfl⟩
  rw [← hS0] at e0
  obtain ⟨j, hj⟩ : ∃ j, j = s.length := ⟨_, rfl⟩
  rw [← hj] at e0
  have J0 : Jar j S0 := ⟨0, y, xs, by omega, by rw [hS0, hj]; exact at_new _ _⟩
  clear hS0 hj hx
  rw [calA (b := d33) rfl, runA_ok ⟨rfl, by decide⟩]
  simp only [d33, b33]
  refine ok_gce ?_
  have hl0 : List.map some [P.rol (ns.map P.int)] ++ List.replicate (8 - [P.rol (ns.map P.int)].length) none = [some (.rol (ns.map P.int)), none, none, none, none, none, none, none] := rfl
  rw [hl0, xs_cons]
  have q1 : exA (envA pg (n + 9)) (.asg (.v 1) (.call 24 (.cons (.v 0) .nil))) [some (.rol (ns.map P.int)), none, none, none, none, none, none, none] s = .ok (.nx [some (.rol (ns.map P.int)), some (.loc j), none, none, none, none, none, none]) S0 := by simp [e0]
  rw [q1, bind_ok]
  dsimp only
  rw [xs_cons]
  refine ok_bind (ok_bind ?_)
  refine ok_for (s1 := S0) (w := ((List.range 5).map (fun i : Nat => P.int i), fun _ => True)) (fun i l S => ∃ a2 a5 a6, l = [some (.rol (ns.map P.int)), some (.loc j), a2, none, none, a5, a6, none] ∧ Jar j S) ?_ ?_ ?_ ?_ ?_
  · exact ei_rngN (by simp) (by decide)
  · exact ⟨none, none, none, rfl, J0⟩
  · intros; trivial
  · rintro i z l S hz ⟨a2, a5, a6, rfl, hJ⟩
    obtain ⟨i', hi', rfl⟩ := map_at hz
    have eb : bindT (.v 2) (P.int (i' : Nat)) [some (.rol (ns.map P.int)), some (.loc j), a2, none, none, a5, a6, none] = some [some (.rol (ns.map P.int)), some (.loc j), some (.int (i' : Nat)), none, none, a5, a6, none] := by simp
    rw [eb, ofO_some, bind_ok]
    obtain ⟨r1, S1, e1, m1, u, u0, u1, rfl⟩ := s_drw (n + 8) j 4 S hJ (by omega)
    rw [xs_cons]
    refine ok_bind (ok_eq (a := Fl.nx [some (.rol (ns.map P.int)), some (.loc j), some (.int (i' : Nat)), none, none, a5, some (.int (2 + u)), none]) (s := S1) (by simp [e1]) ?_)
    dsimp only
    obtain ⟨r2, S2, e2, m2, w, w0, w1, rfl⟩ := s_drw (n + 8) j 9 S1 m1.jar (by omega)
    obtain ⟨N, hN⟩ := Int.eq_ofNat_of_zero_le w0
    rw [xs_cons, x_asg]
    refine ok_bind (ok_bind ?_)
    refine ok_imp (draw_lc n j _ S1 S2 (.call 25 (.cons (.v 1) (.cons (.int 9) .nil))) (.v 6) N (2 + u) (by simp [e2, hN]) (by omega) m2.jar (by simp) (fun x => by simp) (fun x st => by simp) (by omega)) ?_
    rintro r3 S3 ⟨vs, rfl, jg, hv1, hv2⟩
    have eb2 : bindT (.v 5) (iP vs) [some (.rol (ns.map P.int)), some (.loc j), some (.int (i' : Nat)), none, none, a5, some (.int (2 + u)), none] = some [some (.rol (ns.map P.int)), some (.loc j), some (.int (i' : Nat)), none, none, some (iP vs), some (.int (2 + u)), none] := by simp
    rw [eb2, ofO_some, bind_ok]
    refine ok_eq rfl ?_
    dsimp only
    obtain ⟨r4, S4, e4, m4, c, rfl, hF⟩ := s_law_claim (n + 7) j (2 + u) S3 jg.jar (by omega)
    rw [xs_cons]
    refine ok_bind (ok_imp (asked_if n j c vs (.call 27 (.cons (.v 1) (.cons (.v 6) .nil))) (.v 5) _ S3 S4 (fit_askw hF (by omega) (by omega) hv2) rfl ?_ ?_ m4.jar) ?_)
    · simp [e4]
    · simp
    · rintro fl S5 ⟨rfl, m5⟩
      dsimp only
      rw [xs_nil]
      exact ok_eq rfl ⟨_, _, _, rfl, m5.jar⟩
  · rintro l S ⟨a2, a5, a6, rfl, hJ⟩
    dsimp only
    obtain ⟨r1, S1, e1, m1, one, u0, u1, rfl⟩ := s_drw (n + 8) j 2 S hJ (by omega)
    have h01 : one = 0 ∨ one = 1 := by omega
    rw [xs_cons]
    refine ok_bind (ok_eq (a := Fl.nx [some (.rol (ns.map P.int)), some (.loc j), a2, some (.int one), none, a5, a6, none]) (s := S1) (by simp [e1]) ?_)
    dsimp only
    obtain ⟨L, l1, l2⟩ := sort_terms (envyT one)
    obtain ⟨S2, hS2⟩ : ∃ S2, S2 = S1 ++ [O.lst ((envyT one).map tP), O.lst (L.map tP)] := ⟨_, rfl⟩
    have g2 : Grow S1 S2 := by rw [hS2]; exact Grow.add
    have hsd : b1P .sorted (.loc S1.length) (S1 ++ [O.lst ((envyT one).map tP)]) = .ok (.loc (S1.length + 1)) S2 := by
      rw [u_sorted, u_lst, at_new]
      dsimp only
      rw [Option.bind_some, l1, hS2]
      simp [alloc]
    have hn2 : S2[S1.length + 1]? = some (.lst (L.map tP)) := by rw [hS2]; simp
    have het : (envyT one).map tP = [.tup [.int one, .int 0, .int 1], .tup [.int (1 - one), .int 0, .int (-1)]] := rfl
    rw [het] at hsd
    rw [xs_cons]
    refine ok_bind (ok_eq (a := Fl.nx [some (.rol (ns.map P.int)), some (.loc j), a2, some (.int one), some (cP ⟨one, L⟩), a5, a6, none]) (s := S2) (by simp [alloc, hsd, hn2, cP]) ?_)
    dsimp only
    have J2 : Jar j S2 := m1.jar.grow g2
    clear hS2 hsd hn2
    have hAsk : ∀ turns : List Int, turns.length ≤ 12 → (∀ t ∈ turns, t = one ∨ t = 1 - one) → Askw ⟨one, L⟩ turns := fun turns a b => by
      refine ⟨?_, ?_, ?_, a, fun t ht => ?_⟩
      · intro q
        have := l2.length_eq
        dsimp only at q
        rw [q] at this
        simp [envyT] at this
      · have := l2.length_eq
        simp [envyT] at this
        dsimp only
        omega
      · intro t ht
        have : t ∈ envyT one := l2.mem_iff.mp ht
        simp only [envyT, List.mem_cons, List.not_mem_nil, _root_.or_false] at this
        rcases this with rfl | rfl
        · dsimp only; omega
        · dsimp only; omega
      · have := b t ht; omega
    rw [xs_cons]
    refine ok_bind ?_
    refine ok_for (s1 := S2 ++ [.lst ([[one, 1 - one, one, 1 - one], [1 - one, one], [1 - one]].map iP)]) (w := (([[one, 1 - one, one, 1 - one], [1 - one, one], [1 - one]] : List (List Int)).map iP, stays (.loc S2.length) (S2 ++ [.lst ([[one, 1 - one, one, 1 - one], [1 - one, one], [1 - one]].map iP)]))) (fun i l S => ∃ a5, l = [some (.rol (ns.map P.int)), some (.loc j), a2, some (.int one), some (cP ⟨one, L⟩), a5, a6, none] ∧ Jar j S ∧ S[S2.length]? = some (.lst ([[one, 1 - one, one, 1 - one], [1 - one, one], [1 - one]].map iP))) ?_ ?_ ?_ ?_ ?_
    · simp [alloc, iP]
    · exact ⟨a5, rfl, J2.grow Grow.add, at_new _ _⟩
    · rintro i l S _ ⟨a5, _, _, hS⟩
      show _ = _
      rw [hS, at_new]
    · rintro i z l S hz ⟨a5, rfl, hJ', hS⟩
      obtain ⟨ts, hts, rfl⟩ := map_at hz
      have htm := List.mem_of_getElem? hts
      have eb : bindT (.v 5) (iP ts) [some (.rol (ns.map P.int)), some (.loc j), a2, some (.int one), some (cP ⟨one, L⟩), a5, a6, none] = some [some (.rol (ns.map P.int)), some (.loc j), a2, some (.int one), some (cP ⟨one, L⟩), some (iP ts), a6, none] := by simp
      rw [eb, ofO_some, bind_ok, xs_cons]
      have hA : Askw ⟨one, L⟩ ts := by
        simp only [List.mem_cons, List.not_mem_nil, _root_.or_false] at htm
        rcases htm with rfl | rfl | rfl
        · exact hAsk _ (by simp) (by simp)
        · exact hAsk _ (by simp) (by simp)
        · exact hAsk _ (by simp) (by simp)
      refine ok_bind (ok_imp (asked_if n j ⟨one, L⟩ ts (.v 4) (.v 5) _ S S hA rfl (by simp) (by simp) hJ') ?_)
      rintro fl S5 ⟨rfl, m5⟩
      dsimp only
      rw [xs_nil]
      have hne : S2.length ≠ j := by have := J2.lt; omega
      exact ok_eq rfl ⟨_, rfl, m5.jar, m5.at hne hS⟩
    · rintro l S ⟨a5, rfl, hJ', _⟩
      dsimp only
      have hA1 := hAsk [one, 1 - one] (by simp) (by simp)
      have hA2 := hAsk [1 - one, one] (by simp) (by simp)
      obtain ⟨b1, b2⟩ := bad_good one h01
      have k1 := s_bad_number (n + 3) ⟨one, L⟩ [one, 1 - one] S hA1.ne (by have := hA1.len; omega) (by simp)
      have k2 := s_bad_number (n + 3) ⟨one, L⟩ [1 - one, one] S hA2.ne (by have := hA2.len; omega) (by simp)
      rw [eq_bad _ _ hA1, nums_perm l2, b1] at k1
      rw [eq_bad _ _ hA2, nums_perm l2] at k2
      generalize hB : ((nums ⟨one, envyT one⟩ [1 - one, one]).filter fun v => decide (v < 0)).length = B at b2 k2
      have hB1 : ¬ (B : Int) < 1 := by omega
      rw [xs_cons]
      refine ok_bind (ok_eq (a := Fl.nx [some (.rol (ns.map P.int)), some (.loc j), a2, some (.int one), some (cP ⟨one, L⟩), a5, a6, none]) (s := S) ?_ ?_)
      · simp only [iP, List.map_cons, List.map_nil] at k1 k2
        simp [k1, k2, hB1]
      · dsimp only
        obtain ⟨r6, S6, e6, m6, w, w0, w1, rfl⟩ := s_drw (n + 8) j 7 S hJ' (by omega)
        by_cases hw : w = 5
        · subst hw
          obtain ⟨r7, S7, e7, m7, q, q0, q1, rfl⟩ := s_drw (n + 8) j 3 S6 m6.jar (by omega)
          obtain ⟨N, hN⟩ : ∃ N : Nat, 10 + q = N := ⟨(10 + q).toNat, by omega⟩
          rw [xs_cons, x_ife, cond_eq]
          have ec : evA (envA pg (n + 9)) (.cmp .eq (.call 25 (.cons (.v 1) (.cons (.int 7) .nil))) (.int 5)) [some (.rol (ns.map P.int)), some (.loc j), a2, some (.int one), some (cP ⟨one, L⟩), a5, a6, none] S = .ok (.bl true) S6 := by simp [e6]
          rw [ec, bind_ok, t_bl, ofO_some, bind_ok, if_pos (by rfl), xs_cons, x_asg]
          refine ok_bind (ok_bind (ok_bind ?_))
          refine ok_imp (draw_lc n j _ S6 S7 (.bin .add (.int 10) (.call 25 (.cons (.v 1) (.cons (.int 3) .nil)))) (.int 3) N 3 (by simp [e7, hN]) (by omega) m7.jar (by simp) (fun x => by simp) (fun x st => by simp) (by omega)) ?_
          rintro r8 S8 ⟨vs, rfl, jg, hv1, hv2⟩
          have eb2 : bindT (.v 5) (iP vs) [some (.rol (ns.map P.int)), some (.loc j), a2, some (.int one), some (cP ⟨one, L⟩), a5, a6, none] = some [some (.rol (ns.map P.int)), some (.loc j), a2, some (.int one), some (cP ⟨one, L⟩), some (iP vs), a6, none] := by simp
          rw [eb2, ofO_some, bind_ok]
          refine ok_eq rfl ?_
          dsimp only
          obtain ⟨r9, S9, e9, m9, c, rfl, hF⟩ := s_law_claim (n + 7) j 3 S8 jg.jar (by omega)
          obtain ⟨ra, Sa, ea, ma, rfl⟩ := s_law_asked n j c vs S9 (fit_askw hF (by omega) (by omega) hv2) m9.jar
          rw [xs_cons, x_ret]
          have ef : evA (envA pg (n + 9)) (.call 32 (.cons (.v 1) (.cons (.call 27 (.cons (.v 1) (.cons (.int 3) .nil))) (.cons (.v 5) .nil)))) [some (.rol (ns.map P.int)), some (.loc j), a2, some (.int one), some (cP ⟨one, L⟩), some (iP vs), a6, none] S8 = .ok (.bl true) Sa := by
            simp [e9, ea]
          rw [ef, bind_ok, bind_ok]
          exact ok_eq rfl (ok_eq rfl (ok_eq rfl rfl))
        · have hw' : (w == 5) = false := by simpa using hw
          rw [xs_cons, x_ife, cond_eq]
          have ec : evA (envA pg (n + 9)) (.cmp .eq (.call 25 (.cons (.v 1) (.cons (.int 7) .nil))) (.int 5)) [some (.rol (ns.map P.int)), some (.loc j), a2, some (.int one), some (cP ⟨one, L⟩), a5, a6, none] S = .ok (.bl (w == 5)) S6 := by simp [e6]
          rw [ec, bind_ok, t_bl, ofO_some, bind_ok, hw', if_neg (by decide), xs_nil, bind_ok]
          dsimp only
          rw [xs_cons, x_ret, e_bl, bind_ok, bind_ok]
          exact ok_eq rfl (ok_eq rfl rfl)
theorem law_plain (ns : List Int) (hn : ns.length ≤ 63) : ∃ s', Pa.callN pg 10 33 [.rol (ns.map Pa.P.int)] [] = .ok (.bl true) s' := by
  obtain ⟨r, s', e, rfl⟩ := law_true 0 ns [] hn
  rw [callA_eq] at e
  exact ⟨s', e⟩
end K98
namespace K98
open PySem (Str Stmt Addr Value Heap mainGlobals)
open L2 (defArgs defBody defScope)
theorem c0 : Pa.chkD tx t0 d0 = true := by decide +kernel
theorem bd0 : Pa.Bnd t0 := fun _ _ _ _ _ _ us hl => match us, hl with | [_], _ => rfl
theorem c1 : Pa.chkD tx t1 d1 = true := by decide +kernel
theorem bd1 : Pa.Bnd t1 := fun _ _ _ _ _ _ us hl => match us, hl with | [_, _, _], _ => rfl
theorem c2 : Pa.chkD tx t2 d2 = true := by decide +kernel
theorem bd2 : Pa.Bnd t2 := fun _ _ _ _ _ _ us hl => match us, hl with | [_, _, _], _ => rfl
theorem c3 : Pa.chkD tx t3 d3 = true := by decide +kernel
theorem bd3 : Pa.Bnd t3 := fun _ _ _ _ _ _ us hl => match us, hl with | [_, _], _ => rfl
theorem c4 : Pa.chkD tx t4 d4 = true := by decide +kernel
theorem bd4 : Pa.Bnd t4 := fun _ _ _ _ _ _ us hl => match us, hl with | [_, _, _, _], _ => rfl
theorem c5 : Pa.chkD tx t5 d5 = true := by decide +kernel
theorem bd5 : Pa.Bnd t5 := fun _ _ _ _ _ _ us hl => match us, hl with | [_, _], _ => rfl
theorem c6 : Pa.chkD tx t6 d6 = true := by decide +kernel
theorem bd6 : Pa.Bnd t6 := fun _ _ _ _ _ _ us hl => match us, hl with | [_, _], _ => rfl
theorem c7 : Pa.chkD tx t7 d7 = true := by decide +kernel
theorem bd7 : Pa.Bnd t7 := fun _ _ _ _ _ _ us hl => match us, hl with | [_, _], _ => rfl
theorem c8 : Pa.chkD tx t8 d8 = true := by decide +kernel
theorem bd8 : Pa.Bnd t8 := fun _ _ _ _ _ _ us hl => match us, hl with | [_, _], _ => rfl
theorem c9 : Pa.chkD tx t9 d9 = true := by decide +kernel
theorem bd9 : Pa.Bnd t9 := fun _ _ _ _ _ _ us hl => match us, hl with | [_, _], _ => rfl
theorem c10 : Pa.chkD tx t10 d10 = true := by decide +kernel
theorem bd10 : Pa.Bnd t10 := fun _ _ _ _ _ _ us hl => match us, hl with | [_, _], _ => rfl
theorem c11 : Pa.chkD tx t11 d11 = true := by decide +kernel
theorem bd11 : Pa.Bnd t11 := fun _ _ _ _ _ _ us hl => match us, hl with | [_, _], _ => rfl
theorem c12 : Pa.chkD tx t12 d12 = true := by decide +kernel
theorem bd12 : Pa.Bnd t12 := fun _ _ _ _ _ _ us hl => match us, hl with | [_, _, _, _], _ => rfl
theorem c13 : Pa.chkD tx t13 d13 = true := by decide +kernel
theorem bd13 : Pa.Bnd t13 := fun _ _ _ _ _ _ us hl => match us, hl with | [_, _, _, _], _ => rfl
theorem c14 : Pa.chkD tx t14 d14 = true := by decide +kernel
theorem bd14 : Pa.Bnd t14 := fun _ _ _ _ _ _ us hl => match us, hl with | [_], _ => rfl
theorem c15 : Pa.chkD tx t15 d15 = true := by decide +kernel
theorem bd15 : Pa.Bnd t15 := fun _ _ _ _ _ _ us hl => match us, hl with | [_, _, _, _], _ => rfl
theorem c16 : Pa.chkD tx t16 d16 = true := by decide +kernel
theorem bd16 : Pa.Bnd t16 := fun _ _ _ _ _ _ us hl => match us, hl with | [_, _], _ => rfl
theorem c17 : Pa.chkD tx t17 d17 = true := by decide +kernel
theorem bd17 : Pa.Bnd t17 := fun _ _ _ _ _ _ us hl => match us, hl with | [_], _ => rfl
theorem c18 : Pa.chkD tx t18 d18 = true := by decide +kernel
theorem bd18 : Pa.Bnd t18 := fun _ _ _ _ _ _ us hl => match us, hl with | [_, _, _], _ => rfl
theorem c19 : Pa.chkD tx t19 d19 = true := by decide +kernel
theorem bd19 : Pa.Bnd t19 := fun _ _ _ _ _ _ us hl => match us, hl with | [_, _, _], _ => rfl
theorem c20 : Pa.chkD tx t20 d20 = true := by decide +kernel
theorem bd20 : Pa.Bnd t20 := fun _ _ _ _ _ _ us hl => match us, hl with | [_], _ => rfl
theorem c21 : Pa.chkD tx t21 d21 = true := by decide +kernel
theorem bd21 : Pa.Bnd t21 := fun _ _ _ _ _ _ us hl => match us, hl with | [_, _], _ => rfl
theorem c22 : Pa.chkD tx t22 d22 = true := by decide +kernel
theorem bd22 : Pa.Bnd t22 := fun _ _ _ _ _ _ us hl => match us, hl with | [_, _], _ => rfl
theorem c23 : Pa.chkD tx t23 d23 = true := by decide +kernel
theorem bd23 : Pa.Bnd t23 := fun _ _ _ _ _ _ us hl => match us, hl with | [_, _], _ => rfl
theorem c24 : Pa.chkD tx t24 d24 = true := by decide +kernel
theorem bd24 : Pa.Bnd t24 := fun _ _ _ _ _ _ us hl => match us, hl with | [_], _ => rfl
theorem c25 : Pa.chkD tx t25 d25 = true := by decide +kernel
theorem bd25 : Pa.Bnd t25 := fun _ _ _ _ _ _ us hl => match us, hl with | [_, _], _ => rfl
theorem c26 : Pa.chkD tx t26 d26 = true := by decide +kernel
theorem bd26 : Pa.Bnd t26 := fun _ _ _ _ _ _ us hl => match us, hl with | [_, _], _ => rfl
theorem c27 : Pa.chkD tx t27 d27 = true := by decide +kernel
theorem bd27 : Pa.Bnd t27 := fun _ _ _ _ _ _ us hl => match us, hl with | [_, _], _ => rfl
theorem c28 : Pa.chkD tx t28 d28 = true := by decide +kernel
theorem bd28 : Pa.Bnd t28 := fun _ _ _ _ _ _ us hl => match us, hl with | [_, _], _ => rfl
theorem c29 : Pa.chkD tx t29 d29 = true := by decide +kernel
theorem bd29 : Pa.Bnd t29 := fun _ _ _ _ _ _ us hl => match us, hl with | [_, _, _], _ => rfl
theorem c30 : Pa.chkD tx t30 d30 = true := by decide +kernel
theorem bd30 : Pa.Bnd t30 := fun _ _ _ _ _ _ us hl => match us, hl with | [_, _, _], _ => rfl
theorem c31 : Pa.chkD tx t31 d31 = true := by decide +kernel
theorem bd31 : Pa.Bnd t31 := fun _ _ _ _ _ _ us hl => match us, hl with | [_, _, _], _ => rfl
theorem c32 : Pa.chkD tx t32 d32 = true := by decide +kernel
theorem bd32 : Pa.Bnd t32 := fun _ _ _ _ _ _ us hl => match us, hl with | [_, _, _], _ => rfl
theorem c33 : Pa.chkD tx t33 d33 = true := by decide +kernel
theorem bd33 : Pa.Bnd t33 := fun _ _ _ _ _ _ us hl => match us, hl with | [_], _ => rfl
theorem c34 : Pa.chkD tx t34 d34 = true := by decide +kernel
theorem bd34 : Pa.Bnd t34 := fun _ _ _ _ _ _ us hl => match us, hl with | [_, _], _ => rfl
theorem c35 : Pa.chkD tx t35 d35 = true := by decide +kernel
theorem bd35 : Pa.Bnd t35 := fun _ _ _ _ _ _ us hl => match us, hl with | [_, _, _, _], _ => rfl
theorem c36 : Pa.chkD tx t36 d36 = true := by decide +kernel
theorem bd36 : Pa.Bnd t36 := fun _ _ _ _ _ _ us hl => match us, hl with | [_, _], _ => rfl
theorem c37 : Pa.chkD tx t37 d37 = true := by decide +kernel
theorem bd37 : Pa.Bnd t37 := fun _ _ _ _ _ _ us hl => match us, hl with | [_], _ => rfl
theorem ks_ok : Pa.ksOk tx.ks = true := by decide +kernel
set_option maxHeartbeats 4000000 in
theorem all_mk {K : PySem.W.Frag} {h : Heap} {mg : Str → Option Value} {fa : Addr} {f0 : Addr} {od0 an0 : Option Addr} {sl0 : Array (Option Value)} {oc0 kV0 dc0 pm0 cd0 ct0 : Value} {f1 : Addr} {od1 an1 : Option Addr} {sl1 : Array (Option Value)} {oc1 kV1 dc1 pm1 cd1 ct1 : Value} {f2 : Addr} {od2 an2 : Option Addr} {sl2 : Array (Option Value)} {oc2 kV2 dc2 pm2 cd2 ct2 : Value} {f3 : Addr} {od3 an3 : Option Addr} {sl3 : Array (Option Value)} {oc3 kV3 dc3 pm3 cd3 ct3 : Value} {f4 : Addr} {od4 an4 : Option Addr} {sl4 : Array (Option Value)} {oc4 kV4 dc4 pm4 cd4 ct4 : Value} {f5 : Addr} {od5 an5 : Option Addr} {sl5 : Array (Option Value)} {oc5 kV5 dc5 pm5 cd5 ct5 : Value} {f6 : Addr} {od6 an6 : Option Addr} {sl6 : Array (Option Value)} {oc6 kV6 dc6 pm6 cd6 ct6 : Value} {f7 : Addr} {od7 an7 : Option Addr} {sl7 : Array (Option Value)} {oc7 kV7 dc7 pm7 cd7 ct7 : Value} {f8 : Addr} {od8 an8 : Option Addr} {sl8 : Array (Option Value)} {oc8 kV8 dc8 pm8 cd8 ct8 : Value} {f9 : Addr} {od9 an9 : Option Addr} {sl9 : Array (Option Value)} {oc9 kV9 dc9 pm9 cd9 ct9 : Value} {f10 : Addr} {od10 an10 : Option Addr} {sl10 : Array (Option Value)} {oc10 kV10 dc10 pm10 cd10 ct10 : Value} {f11 : Addr} {od11 an11 : Option Addr} {sl11 : Array (Option Value)} {oc11 kV11 dc11 pm11 cd11 ct11 : Value} {f12 : Addr} {od12 an12 : Option Addr} {sl12 : Array (Option Value)} {oc12 kV12 dc12 pm12 cd12 ct12 : Value} {f13 : Addr} {od13 an13 : Option Addr} {sl13 : Array (Option Value)} {oc13 kV13 dc13 pm13 cd13 ct13 : Value} {f14 : Addr} {od14 an14 : Option Addr} {sl14 : Array (Option Value)} {oc14 kV14 dc14 pm14 cd14 ct14 : Value} {f15 : Addr} {od15 an15 : Option Addr} {sl15 : Array (Option Value)} {oc15 kV15 dc15 pm15 cd15 ct15 : Value} {f16 : Addr} {od16 an16 : Option Addr} {sl16 : Array (Option Value)} {oc16 kV16 dc16 pm16 cd16 ct16 : Value} {f17 : Addr} {od17 an17 : Option Addr} {sl17 : Array (Option Value)} {oc17 kV17 dc17 pm17 cd17 ct17 : Value} {f18 : Addr} {od18 an18 : Option Addr} {sl18 : Array (Option Value)} {oc18 kV18 dc18 pm18 cd18 ct18 : Value} {f19 : Addr} {od19 an19 : Option Addr} {sl19 : Array (Option Value)} {oc19 kV19 dc19 pm19 cd19 ct19 : Value} {f20 : Addr} {od20 an20 : Option Addr} {sl20 : Array (Option Value)} {oc20 kV20 dc20 pm20 cd20 ct20 : Value} {f21 : Addr} {od21 an21 : Option Addr} {sl21 : Array (Option Value)} {oc21 kV21 dc21 pm21 cd21 ct21 : Value} {f22 : Addr} {od22 an22 : Option Addr} {sl22 : Array (Option Value)} {oc22 kV22 dc22 pm22 cd22 ct22 : Value} {f23 : Addr} {od23 an23 : Option Addr} {sl23 : Array (Option Value)} {oc23 kV23 dc23 pm23 cd23 ct23 : Value} {f24 : Addr} {od24 an24 : Option Addr} {sl24 : Array (Option Value)} {oc24 kV24 dc24 pm24 cd24 ct24 : Value} {f25 : Addr} {od25 an25 : Option Addr} {sl25 : Array (Option Value)} {oc25 kV25 dc25 pm25 cd25 ct25 : Value} {f26 : Addr} {od26 an26 : Option Addr} {sl26 : Array (Option Value)} {oc26 kV26 dc26 pm26 cd26 ct26 : Value} {f27 : Addr} {od27 an27 : Option Addr} {sl27 : Array (Option Value)} {oc27 kV27 dc27 pm27 cd27 ct27 : Value} {f28 : Addr} {od28 an28 : Option Addr} {sl28 : Array (Option Value)} {oc28 kV28 dc28 pm28 cd28 ct28 : Value} {f29 : Addr} {od29 an29 : Option Addr} {sl29 : Array (Option Value)} {oc29 kV29 dc29 pm29 cd29 ct29 : Value} {f30 : Addr} {od30 an30 : Option Addr} {sl30 : Array (Option Value)} {oc30 kV30 dc30 pm30 cd30 ct30 : Value} {f31 : Addr} {od31 an31 : Option Addr} {sl31 : Array (Option Value)} {oc31 kV31 dc31 pm31 cd31 ct31 : Value} {f32 : Addr} {od32 an32 : Option Addr} {sl32 : Array (Option Value)} {oc32 kV32 dc32 pm32 cd32 ct32 : Value} {f33 : Addr} {od33 an33 : Option Addr} {sl33 : Array (Option Value)} {oc33 kV33 dc33 pm33 cd33 ct33 : Value} {f34 : Addr} {od34 an34 : Option Addr} {sl34 : Array (Option Value)} {oc34 kV34 dc34 pm34 cd34 ct34 : Value} {f35 : Addr} {od35 an35 : Option Addr} {sl35 : Array (Option Value)} {oc35 kV35 dc35 pm35 cd35 ct35 : Value} {f36 : Addr} {od36 an36 : Option Addr} {sl36 : Array (Option Value)} {oc36 kV36 dc36 pm36 cd36 ct36 : Value} {f37 : Addr} {od37 an37 : Option Addr} {sl37 : Array (Option Value)} {oc37 kV37 dc37 pm37 cd37 ct37 : Value} {C0 : Addr} (X : K.In h) (G : h.Ns mainGlobals mg) (hfa : mg "law" = some (.ref fa))
    (a0 : PySem.W.nsIn K mainGlobals "counts_of" = some (some (.ref f0)))
    (a1 : PySem.W.nsIn K mainGlobals "top_taken" = some (some (.ref f1)))
    (a2 : PySem.W.nsIn K mainGlobals "turn_moves" = some (some (.ref f2)))
    (a3 : PySem.W.nsIn K mainGlobals "next_place" = some (some (.ref f3)))
    (a4 : PySem.W.nsIn K mainGlobals "go_ons" = some (some (.ref f4)))
    (a5 : PySem.W.nsIn K mainGlobals "counted_rows" = some (some (.ref f5)))
    (a6 : PySem.W.nsIn K mainGlobals "choice_number" = some (some (.ref f6)))
    (a7 : PySem.W.nsIn K mainGlobals "choices_by_tops" = some (some (.ref f7)))
    (a8 : PySem.W.nsIn K mainGlobals "number_counts" = some (some (.ref f8)))
    (a9 : PySem.W.nsIn K mainGlobals "bad_number" = some (some (.ref f9)))
    (a10 : PySem.W.nsIn K mainGlobals "state_key" = some (some (.ref f10)))
    (a11 : PySem.W.nsIn K mainGlobals "reached_states" = some (some (.ref f11)))
    (a12 : PySem.W.nsIn K mainGlobals "lowered" = some (some (.ref f12)))
    (a13 : PySem.W.nsIn K mainGlobals "lower_all" = some (some (.ref f13)))
    (a14 : PySem.W.nsIn K mainGlobals "states_by_counts" = some (some (.ref f14)))
    (a15 : PySem.W.nsIn K mainGlobals "is_settled_by" = some (some (.ref f15)))
    (a16 : PySem.W.nsIn K mainGlobals "least_table" = some (some (.ref f16)))
    (a17 : PySem.W.nsIn K mainGlobals "turns_track" = some (some (.ref f17)))
    (a18 : PySem.W.nsIn K mainGlobals "counted_number" = some (some (.ref f18)))
    (a19 : PySem.W.nsIn K mainGlobals "is_choice" = some (some (.ref f19)))
    (a20 : PySem.W.nsIn K mainGlobals "last_top" = some (some (.ref f20)))
    (a21 : PySem.W.nsIn K mainGlobals "all_choices" = some (some (.ref f21)))
    (a22 : PySem.W.nsIn K mainGlobals "least_counted" = some (some (.ref f22)))
    (a23 : PySem.W.nsIn K mainGlobals "holds_for" = some (some (.ref f23)))
    (a24 : PySem.W.nsIn K mainGlobals "_law_jar" = some (some (.ref f24)))
    (a25 : PySem.W.nsIn K mainGlobals "_law_draw" = some (some (.ref f25)))
    (a26 : PySem.W.nsIn K mainGlobals "_law_same" = some (some (.ref f26)))
    (a27 : PySem.W.nsIn K mainGlobals "_law_claim" = some (some (.ref f27)))
    (a28 : PySem.W.nsIn K mainGlobals "_law_choices" = some (some (.ref f28)))
    (a29 : PySem.W.nsIn K mainGlobals "_law_counted" = some (some (.ref f29)))
    (a30 : PySem.W.nsIn K mainGlobals "_law_is_choice" = some (some (.ref f30)))
    (a31 : PySem.W.nsIn K mainGlobals "_law_bent" = some (some (.ref f31)))
    (a32 : PySem.W.nsIn K mainGlobals "_law_asked" = some (some (.ref f32)))
    (a33 : PySem.W.nsIn K mainGlobals "law" = some (some (.ref f33)))
    (aC0 : PySem.W.nsIn K mainGlobals "Counting" = some (some (.ref C0)))
    (mk0 : PySem.W.makesIn K C0 = true)
    (in0 : PySem.W.findIn K (.ref C0) "__init__" = some (some (.ref f34)))
    (if0 : PySem.W.isFn K (.ref f34) = true)
    (kc0 : PySem.W.keepIn K (.ref C0) = true)
    (pg0 : PySem.W.plainGet K C0 Str.empty = true)
    (hd0 : PySem.W.hasDictIn K C0 = true)
    (po0 : PySem.W.plainOver K C0 = true)
    (sa0 : PySem.W.findIn K (.ref C0) "__setattr__" = some (some (.builtin "object.__setattr__")))
    (mt0 : PySem.W.findIn K (.ref C0) "add" = some (some (.ref f35)))
    (mf0 : PySem.W.isFn K (.ref f35) = true)
    (mt1 : PySem.W.findIn K (.ref C0) "go" = some (some (.ref f36)))
    (mf1 : PySem.W.isFn K (.ref f36) = true)
    (mt2 : PySem.W.findIn K (.ref C0) "rows" = some (some (.ref f37)))
    (mf2 : PySem.W.isFn K (.ref f37) = true)
    (na0 : PySem.W.findIn K (.ref C0) "claim" = some none)
    (na1 : PySem.W.findIn K (.ref C0) "going" = some none)
    (na2 : PySem.W.findIn K (.ref C0) "over" = some none)
    (l0 : K.lookup f0 = some ⟨oc0, od0, .func (PySem.W.fnOf "counts_of" "counts_of" (defArgs (top 1)) (defBody (top 1)) (defScope (top 1)) .none kV0 dc0 pm0 an0 cd0 ct0), sl0⟩)
    (cd0' : PySem.W.codeIn K cd0 "counts_of" = true)
    (k0 : PySem.W.keepIn K (.ref f0) = true)
    (l1 : K.lookup f1 = some ⟨oc1, od1, .func (PySem.W.fnOf "top_taken" "top_taken" (defArgs (top 2)) (defBody (top 2)) (defScope (top 2)) .none kV1 dc1 pm1 an1 cd1 ct1), sl1⟩)
    (cd1' : PySem.W.codeIn K cd1 "top_taken" = true)
    (k1 : PySem.W.keepIn K (.ref f1) = true)
    (l2 : K.lookup f2 = some ⟨oc2, od2, .func (PySem.W.fnOf "turn_moves" "turn_moves" (defArgs (top 3)) (defBody (top 3)) (defScope (top 3)) .none kV2 dc2 pm2 an2 cd2 ct2), sl2⟩)
    (cd2' : PySem.W.codeIn K cd2 "turn_moves" = true)
    (k2 : PySem.W.keepIn K (.ref f2) = true)
    (l3 : K.lookup f3 = some ⟨oc3, od3, .func (PySem.W.fnOf "next_place" "next_place" (defArgs (top 4)) (defBody (top 4)) (defScope (top 4)) .none kV3 dc3 pm3 an3 cd3 ct3), sl3⟩)
    (cd3' : PySem.W.codeIn K cd3 "next_place" = true)
    (k3 : PySem.W.keepIn K (.ref f3) = true)
    (l4 : K.lookup f4 = some ⟨oc4, od4, .func (PySem.W.fnOf "go_ons" "go_ons" (defArgs (top 5)) (defBody (top 5)) (defScope (top 5)) .none kV4 dc4 pm4 an4 cd4 ct4), sl4⟩)
    (cd4' : PySem.W.codeIn K cd4 "go_ons" = true)
    (k4 : PySem.W.keepIn K (.ref f4) = true)
    (l5 : K.lookup f5 = some ⟨oc5, od5, .func (PySem.W.fnOf "counted_rows" "counted_rows" (defArgs (top 8)) (defBody (top 8)) (defScope (top 8)) .none kV5 dc5 pm5 an5 cd5 ct5), sl5⟩)
    (cd5' : PySem.W.codeIn K cd5 "counted_rows" = true)
    (k5 : PySem.W.keepIn K (.ref f5) = true)
    (l6 : K.lookup f6 = some ⟨oc6, od6, .func (PySem.W.fnOf "choice_number" "choice_number" (defArgs (top 9)) (defBody (top 9)) (defScope (top 9)) .none kV6 dc6 pm6 an6 cd6 ct6), sl6⟩)
    (cd6' : PySem.W.codeIn K cd6 "choice_number" = true)
    (k6 : PySem.W.keepIn K (.ref f6) = true)
    (l7 : K.lookup f7 = some ⟨oc7, od7, .func (PySem.W.fnOf "choices_by_tops" "choices_by_tops" (defArgs (top 10)) (defBody (top 10)) (defScope (top 10)) .none kV7 dc7 pm7 an7 cd7 ct7), sl7⟩)
    (cd7' : PySem.W.codeIn K cd7 "choices_by_tops" = true)
    (k7 : PySem.W.keepIn K (.ref f7) = true)
    (l8 : K.lookup f8 = some ⟨oc8, od8, .func (PySem.W.fnOf "number_counts" "number_counts" (defArgs (top 11)) (defBody (top 11)) (defScope (top 11)) .none kV8 dc8 pm8 an8 cd8 ct8), sl8⟩)
    (cd8' : PySem.W.codeIn K cd8 "number_counts" = true)
    (k8 : PySem.W.keepIn K (.ref f8) = true)
    (l9 : K.lookup f9 = some ⟨oc9, od9, .func (PySem.W.fnOf "bad_number" "bad_number" (defArgs (top 12)) (defBody (top 12)) (defScope (top 12)) .none kV9 dc9 pm9 an9 cd9 ct9), sl9⟩)
    (cd9' : PySem.W.codeIn K cd9 "bad_number" = true)
    (k9 : PySem.W.keepIn K (.ref f9) = true)
    (l10 : K.lookup f10 = some ⟨oc10, od10, .func (PySem.W.fnOf "state_key" "state_key" (defArgs (top 14)) (defBody (top 14)) (defScope (top 14)) .none kV10 dc10 pm10 an10 cd10 ct10), sl10⟩)
    (cd10' : PySem.W.codeIn K cd10 "state_key" = true)
    (k10 : PySem.W.keepIn K (.ref f10) = true)
    (l11 : K.lookup f11 = some ⟨oc11, od11, .func (PySem.W.fnOf "reached_states" "reached_states" (defArgs (top 15)) (defBody (top 15)) (defScope (top 15)) .none kV11 dc11 pm11 an11 cd11 ct11), sl11⟩)
    (cd11' : PySem.W.codeIn K cd11 "reached_states" = true)
    (k11 : PySem.W.keepIn K (.ref f11) = true)
    (l12 : K.lookup f12 = some ⟨oc12, od12, .func (PySem.W.fnOf "lowered" "lowered" (defArgs (top 16)) (defBody (top 16)) (defScope (top 16)) .none kV12 dc12 pm12 an12 cd12 ct12), sl12⟩)
    (cd12' : PySem.W.codeIn K cd12 "lowered" = true)
    (k12 : PySem.W.keepIn K (.ref f12) = true)
    (l13 : K.lookup f13 = some ⟨oc13, od13, .func (PySem.W.fnOf "lower_all" "lower_all" (defArgs (top 17)) (defBody (top 17)) (defScope (top 17)) .none kV13 dc13 pm13 an13 cd13 ct13), sl13⟩)
    (cd13' : PySem.W.codeIn K cd13 "lower_all" = true)
    (k13 : PySem.W.keepIn K (.ref f13) = true)
    (l14 : K.lookup f14 = some ⟨oc14, od14, .func (PySem.W.fnOf "states_by_counts" "states_by_counts" (defArgs (top 18)) (defBody (top 18)) (defScope (top 18)) .none kV14 dc14 pm14 an14 cd14 ct14), sl14⟩)
    (cd14' : PySem.W.codeIn K cd14 "states_by_counts" = true)
    (k14 : PySem.W.keepIn K (.ref f14) = true)
    (l15 : K.lookup f15 = some ⟨oc15, od15, .func (PySem.W.fnOf "is_settled_by" "is_settled_by" (defArgs (top 19)) (defBody (top 19)) (defScope (top 19)) .none kV15 dc15 pm15 an15 cd15 ct15), sl15⟩)
    (cd15' : PySem.W.codeIn K cd15 "is_settled_by" = true)
    (k15 : PySem.W.keepIn K (.ref f15) = true)
    (l16 : K.lookup f16 = some ⟨oc16, od16, .func (PySem.W.fnOf "least_table" "least_table" (defArgs (top 20)) (defBody (top 20)) (defScope (top 20)) .none kV16 dc16 pm16 an16 cd16 ct16), sl16⟩)
    (cd16' : PySem.W.codeIn K cd16 "least_table" = true)
    (k16 : PySem.W.keepIn K (.ref f16) = true)
    (l17 : K.lookup f17 = some ⟨oc17, od17, .func (PySem.W.fnOf "turns_track" "turns_track" (defArgs (top 22)) (defBody (top 22)) (defScope (top 22)) .none kV17 dc17 pm17 an17 cd17 ct17), sl17⟩)
    (cd17' : PySem.W.codeIn K cd17 "turns_track" = true)
    (k17 : PySem.W.keepIn K (.ref f17) = true)
    (l18 : K.lookup f18 = some ⟨oc18, od18, .func (PySem.W.fnOf "counted_number" "counted_number" (defArgs (top 24)) (defBody (top 24)) (defScope (top 24)) .none kV18 dc18 pm18 an18 cd18 ct18), sl18⟩)
    (cd18' : PySem.W.codeIn K cd18 "counted_number" = true)
    (k18 : PySem.W.keepIn K (.ref f18) = true)
    (l19 : K.lookup f19 = some ⟨oc19, od19, .func (PySem.W.fnOf "is_choice" "is_choice" (defArgs (top 25)) (defBody (top 25)) (defScope (top 25)) .none kV19 dc19 pm19 an19 cd19 ct19), sl19⟩)
    (cd19' : PySem.W.codeIn K cd19 "is_choice" = true)
    (k19 : PySem.W.keepIn K (.ref f19) = true)
    (l20 : K.lookup f20 = some ⟨oc20, od20, .func (PySem.W.fnOf "last_top" "last_top" (defArgs (top 26)) (defBody (top 26)) (defScope (top 26)) .none kV20 dc20 pm20 an20 cd20 ct20), sl20⟩)
    (cd20' : PySem.W.codeIn K cd20 "last_top" = true)
    (k20 : PySem.W.keepIn K (.ref f20) = true)
    (l21 : K.lookup f21 = some ⟨oc21, od21, .func (PySem.W.fnOf "all_choices" "all_choices" (defArgs (top 27)) (defBody (top 27)) (defScope (top 27)) .none kV21 dc21 pm21 an21 cd21 ct21), sl21⟩)
    (cd21' : PySem.W.codeIn K cd21 "all_choices" = true)
    (k21 : PySem.W.keepIn K (.ref f21) = true)
    (l22 : K.lookup f22 = some ⟨oc22, od22, .func (PySem.W.fnOf "least_counted" "least_counted" (defArgs (top 28)) (defBody (top 28)) (defScope (top 28)) .none kV22 dc22 pm22 an22 cd22 ct22), sl22⟩)
    (cd22' : PySem.W.codeIn K cd22 "least_counted" = true)
    (k22 : PySem.W.keepIn K (.ref f22) = true)
    (l23 : K.lookup f23 = some ⟨oc23, od23, .func (PySem.W.fnOf "holds_for" "holds_for" (defArgs (top 30)) (defBody (top 30)) (defScope (top 30)) .none kV23 dc23 pm23 an23 cd23 ct23), sl23⟩)
    (cd23' : PySem.W.codeIn K cd23 "holds_for" = true)
    (k23 : PySem.W.keepIn K (.ref f23) = true)
    (l24 : K.lookup f24 = some ⟨oc24, od24, .func (PySem.W.fnOf "_law_jar" "_law_jar" (defArgs (top 32)) (defBody (top 32)) (defScope (top 32)) .none kV24 dc24 pm24 an24 cd24 ct24), sl24⟩)
    (cd24' : PySem.W.codeIn K cd24 "_law_jar" = true)
    (k24 : PySem.W.keepIn K (.ref f24) = true)
    (l25 : K.lookup f25 = some ⟨oc25, od25, .func (PySem.W.fnOf "_law_draw" "_law_draw" (defArgs (top 33)) (defBody (top 33)) (defScope (top 33)) .none kV25 dc25 pm25 an25 cd25 ct25), sl25⟩)
    (cd25' : PySem.W.codeIn K cd25 "_law_draw" = true)
    (k25 : PySem.W.keepIn K (.ref f25) = true)
    (l26 : K.lookup f26 = some ⟨oc26, od26, .func (PySem.W.fnOf "_law_same" "_law_same" (defArgs (top 34)) (defBody (top 34)) (defScope (top 34)) .none kV26 dc26 pm26 an26 cd26 ct26), sl26⟩)
    (cd26' : PySem.W.codeIn K cd26 "_law_same" = true)
    (k26 : PySem.W.keepIn K (.ref f26) = true)
    (l27 : K.lookup f27 = some ⟨oc27, od27, .func (PySem.W.fnOf "_law_claim" "_law_claim" (defArgs (top 35)) (defBody (top 35)) (defScope (top 35)) .none kV27 dc27 pm27 an27 cd27 ct27), sl27⟩)
    (cd27' : PySem.W.codeIn K cd27 "_law_claim" = true)
    (k27 : PySem.W.keepIn K (.ref f27) = true)
    (l28 : K.lookup f28 = some ⟨oc28, od28, .func (PySem.W.fnOf "_law_choices" "_law_choices" (defArgs (top 36)) (defBody (top 36)) (defScope (top 36)) .none kV28 dc28 pm28 an28 cd28 ct28), sl28⟩)
    (cd28' : PySem.W.codeIn K cd28 "_law_choices" = true)
    (k28 : PySem.W.keepIn K (.ref f28) = true)
    (l29 : K.lookup f29 = some ⟨oc29, od29, .func (PySem.W.fnOf "_law_counted" "_law_counted" (defArgs (top 37)) (defBody (top 37)) (defScope (top 37)) .none kV29 dc29 pm29 an29 cd29 ct29), sl29⟩)
    (cd29' : PySem.W.codeIn K cd29 "_law_counted" = true)
    (k29 : PySem.W.keepIn K (.ref f29) = true)
    (l30 : K.lookup f30 = some ⟨oc30, od30, .func (PySem.W.fnOf "_law_is_choice" "_law_is_choice" (defArgs (top 38)) (defBody (top 38)) (defScope (top 38)) .none kV30 dc30 pm30 an30 cd30 ct30), sl30⟩)
    (cd30' : PySem.W.codeIn K cd30 "_law_is_choice" = true)
    (k30 : PySem.W.keepIn K (.ref f30) = true)
    (l31 : K.lookup f31 = some ⟨oc31, od31, .func (PySem.W.fnOf "_law_bent" "_law_bent" (defArgs (top 39)) (defBody (top 39)) (defScope (top 39)) .none kV31 dc31 pm31 an31 cd31 ct31), sl31⟩)
    (cd31' : PySem.W.codeIn K cd31 "_law_bent" = true)
    (k31 : PySem.W.keepIn K (.ref f31) = true)
    (l32 : K.lookup f32 = some ⟨oc32, od32, .func (PySem.W.fnOf "_law_asked" "_law_asked" (defArgs (top 40)) (defBody (top 40)) (defScope (top 40)) .none kV32 dc32 pm32 an32 cd32 ct32), sl32⟩)
    (cd32' : PySem.W.codeIn K cd32 "_law_asked" = true)
    (k32 : PySem.W.keepIn K (.ref f32) = true)
    (l33 : K.lookup f33 = some ⟨oc33, od33, .func (PySem.W.fnOf "law" "law" (defArgs (top 41)) (defBody (top 41)) (defScope (top 41)) .none kV33 dc33 pm33 an33 cd33 ct33), sl33⟩)
    (cd33' : PySem.W.codeIn K cd33 "law" = true)
    (k33 : PySem.W.keepIn K (.ref f33) = true)
    (l34 : K.lookup f34 = some ⟨oc34, od34, .func (PySem.W.fnOf "__init__" "Counting.__init__" (defArgs (L2.inClass (top 7) 0)) (defBody (L2.inClass (top 7) 0)) (defScope (L2.inClass (top 7) 0)) .none kV34 dc34 pm34 an34 cd34 ct34), sl34⟩)
    (cd34' : PySem.W.codeIn K cd34 "Counting.__init__" = true)
    (k34 : PySem.W.keepIn K (.ref f34) = true)
    (l35 : K.lookup f35 = some ⟨oc35, od35, .func (PySem.W.fnOf "add" "Counting.add" (defArgs (L2.inClass (top 7) 1)) (defBody (L2.inClass (top 7) 1)) (defScope (L2.inClass (top 7) 1)) .none kV35 dc35 pm35 an35 cd35 ct35), sl35⟩)
    (cd35' : PySem.W.codeIn K cd35 "Counting.add" = true)
    (k35 : PySem.W.keepIn K (.ref f35) = true)
    (l36 : K.lookup f36 = some ⟨oc36, od36, .func (PySem.W.fnOf "go" "Counting.go" (defArgs (L2.inClass (top 7) 2)) (defBody (L2.inClass (top 7) 2)) (defScope (L2.inClass (top 7) 2)) .none kV36 dc36 pm36 an36 cd36 ct36), sl36⟩)
    (cd36' : PySem.W.codeIn K cd36 "Counting.go" = true)
    (k36 : PySem.W.keepIn K (.ref f36) = true)
    (l37 : K.lookup f37 = some ⟨oc37, od37, .func (PySem.W.fnOf "rows" "Counting.rows" (defArgs (L2.inClass (top 7) 3)) (defBody (L2.inClass (top 7) 3)) (defScope (L2.inClass (top 7) 3)) .none kV37 dc37 pm37 an37 cd37 ct37), sl37⟩)
    (cd37' : PySem.W.codeIn K cd37 "Counting.rows" = true)
    (k37 : PySem.W.keepIn K (.ref f37) = true)
    (z0 : PySem.W.nsIn K mainGlobals "range" = some none)
    (z1 : PySem.W.nsIn K mainGlobals "enumerate" = some none)
    (z2 : PySem.W.nsIn K mainGlobals "zip" = some none)
    (z3 : PySem.W.nsIn K mainGlobals "reversed" = some none)
    (z4 : PySem.W.nsIn K mainGlobals "isinstance" = some none)
    (z5 : PySem.W.nsIn K mainGlobals "len" = some none)
    (z6 : PySem.W.nsIn K mainGlobals "tuple" = some none)
    (z7 : PySem.W.nsIn K mainGlobals "list" = some none)
    (z8 : PySem.W.nsIn K mainGlobals "sum" = some none)
    (z9 : PySem.W.nsIn K mainGlobals "sorted" = some none)
    (z10 : PySem.W.nsIn K mainGlobals "min" = some none)
    (z11 : PySem.W.nsIn K mainGlobals "max" = some none)
    (z12 : PySem.W.nsIn K mainGlobals "abs" = some none)
    (z13 : PySem.W.nsIn K mainGlobals "int" = some none)
    (z14 : PySem.W.nsIn K mainGlobals "dict" = some none)
    (z15 : PySem.W.nsIn K mainGlobals "str" = some none)
    (z16 : PySem.W.nsIn K mainGlobals "set" = some none)
    (z17 : PySem.W.nsIn K mainGlobals "bool" = some none)
    : ∃ (T : Pa.Tx) (ds : List Pa.DfT) (N : Pa.Nm) (f : Nat → Addr) (fd : Nat → PySem.FuncData) (dL : Pa.DfT), Pa.Facts T pg ds N K mg f fd ∧ f 33 = fa ∧ ds[33]? = some dL ∧ dL.N.take dL.np = [("script" : Str)] ∧ ∀ (s : PySem.Shared) (u : Value), PySem.BindsTo s (fd 33) ⟨[u], []⟩ [("script", u)] := by
  have e := hfa.symm.trans (PySem.W.mg_of X G a33)
  cases e
  have hcn : ∀ c i, pg.inits[c]? = some i → ∃ b, pg.defs[i]? = some b ∧ b.ps = tx.car c + 1 := by
    intro c i h
    rcases c with _ | c
    · cases h; exact ⟨_, rfl, rfl⟩
    · simp [pg] at h
  obtain ⟨fd, FF, hb⟩ := Pa.facts_of (T := tx) (pg := pg) (ds := ds) X G ks_ok (fs := [f0, f1, f2, f3, f4, f5, f6, f7, f8, f9, f10, f11, f12, f13, f14, f15, f16, f17, f18, f19, f20, f21, f22, f23, f24, f25, f26, f27, f28, f29, f30, f31, f32, fa, f34, f35, f36, f37]) (Cs := [C0]) (mtl := mtl) (fokl := fokl) rfl rfl rfl
    ⟨⟨⟨_, _, _, _, _, _, _, _, _, l0, cd0'⟩, k0⟩, ⟨⟨_, _, _, _, _, _, _, _, _, l1, cd1'⟩, k1⟩, ⟨⟨_, _, _, _, _, _, _, _, _, l2, cd2'⟩, k2⟩, ⟨⟨_, _, _, _, _, _, _, _, _, l3, cd3'⟩, k3⟩, ⟨⟨_, _, _, _, _, _, _, _, _, l4, cd4'⟩, k4⟩, ⟨⟨_, _, _, _, _, _, _, _, _, l5, cd5'⟩, k5⟩, ⟨⟨_, _, _, _, _, _, _, _, _, l6, cd6'⟩, k6⟩, ⟨⟨_, _, _, _, _, _, _, _, _, l7, cd7'⟩, k7⟩, ⟨⟨_, _, _, _, _, _, _, _, _, l8, cd8'⟩, k8⟩, ⟨⟨_, _, _, _, _, _, _, _, _, l9, cd9'⟩, k9⟩, ⟨⟨_, _, _, _, _, _, _, _, _, l10, cd10'⟩, k10⟩, ⟨⟨_, _, _, _, _, _, _, _, _, l11, cd11'⟩, k11⟩, ⟨⟨_, _, _, _, _, _, _, _, _, l12, cd12'⟩, k12⟩, ⟨⟨_, _, _, _, _, _, _, _, _, l13, cd13'⟩, k13⟩, ⟨⟨_, _, _, _, _, _, _, _, _, l14, cd14'⟩, k14⟩, ⟨⟨_, _, _, _, _, _, _, _, _, l15, cd15'⟩, k15⟩, ⟨⟨_, _, _, _, _, _, _, _, _, l16, cd16'⟩, k16⟩, ⟨⟨_, _, _, _, _, _, _, _, _, l17, cd17'⟩, k17⟩, ⟨⟨_, _, _, _, _, _, _, _, _, l18, cd18'⟩, k18⟩, ⟨⟨_, _, _, _, _, _, _, _, _, l19, cd19'⟩, k19⟩, ⟨⟨_, _, _, _, _, _, _, _, _, l20, cd20'⟩, k20⟩, ⟨⟨_, _, _, _, _, _, _, _, _, l21, cd21'⟩, k21⟩, ⟨⟨_, _, _, _, _, _, _, _, _, l22, cd22'⟩, k22⟩, ⟨⟨_, _, _, _, _, _, _, _, _, l23, cd23'⟩, k23⟩, ⟨⟨_, _, _, _, _, _, _, _, _, l24, cd24'⟩, k24⟩, ⟨⟨_, _, _, _, _, _, _, _, _, l25, cd25'⟩, k25⟩, ⟨⟨_, _, _, _, _, _, _, _, _, l26, cd26'⟩, k26⟩, ⟨⟨_, _, _, _, _, _, _, _, _, l27, cd27'⟩, k27⟩, ⟨⟨_, _, _, _, _, _, _, _, _, l28, cd28'⟩, k28⟩, ⟨⟨_, _, _, _, _, _, _, _, _, l29, cd29'⟩, k29⟩, ⟨⟨_, _, _, _, _, _, _, _, _, l30, cd30'⟩, k30⟩, ⟨⟨_, _, _, _, _, _, _, _, _, l31, cd31'⟩, k31⟩, ⟨⟨_, _, _, _, _, _, _, _, _, l32, cd32'⟩, k32⟩, ⟨⟨_, _, _, _, _, _, _, _, _, l33, cd33'⟩, k33⟩, ⟨⟨_, _, _, _, _, _, _, _, _, l34, cd34'⟩, k34⟩, ⟨⟨_, _, _, _, _, _, _, _, _, l35, cd35'⟩, k35⟩, ⟨⟨_, _, _, _, _, _, _, _, _, l36, cd36'⟩, k36⟩, ⟨⟨_, _, _, _, _, _, _, _, _, l37, cd37'⟩, k37⟩, trivial⟩
    ⟨⟨c0, bd0⟩, ⟨c1, bd1⟩, ⟨c2, bd2⟩, ⟨c3, bd3⟩, ⟨c4, bd4⟩, ⟨c5, bd5⟩, ⟨c6, bd6⟩, ⟨c7, bd7⟩, ⟨c8, bd8⟩, ⟨c9, bd9⟩, ⟨c10, bd10⟩, ⟨c11, bd11⟩, ⟨c12, bd12⟩, ⟨c13, bd13⟩, ⟨c14, bd14⟩, ⟨c15, bd15⟩, ⟨c16, bd16⟩, ⟨c17, bd17⟩, ⟨c18, bd18⟩, ⟨c19, bd19⟩, ⟨c20, bd20⟩, ⟨c21, bd21⟩, ⟨c22, bd22⟩, ⟨c23, bd23⟩, ⟨c24, bd24⟩, ⟨c25, bd25⟩, ⟨c26, bd26⟩, ⟨c27, bd27⟩, ⟨c28, bd28⟩, ⟨c29, bd29⟩, ⟨c30, bd30⟩, ⟨c31, bd31⟩, ⟨c32, bd32⟩, ⟨c33, bd33⟩, ⟨c34, bd34⟩, ⟨c35, bd35⟩, ⟨c36, bd36⟩, ⟨c37, bd37⟩, trivial⟩
    ⟨a0, a1, a2, a3, a4, a5, a6, a7, a8, a9, a10, a11, a12, a13, a14, a15, a16, a17, a18, a19, a20, a21, a22, a23, a24, a25, a26, a27, a28, a29, a30, a31, a32, a33, trivial⟩
    ⟨aC0, trivial⟩
    ⟨⟨⟨mk0, in0, if0, kc0⟩, ⟨pg0, hd0, po0, sa0⟩⟩, trivial⟩
    hcn
    ⟨⟨⟨_, rfl, rfl⟩, ⟨mt0, mf0, k35⟩⟩, ⟨⟨_, rfl, rfl⟩, ⟨mt1, mf1, k36⟩⟩, ⟨⟨_, rfl, rfl⟩, ⟨mt2, mf2, k37⟩⟩, trivial⟩
    ⟨⟨⟨pg0, hd0, po0, sa0⟩, na0⟩, ⟨⟨pg0, hd0, po0, sa0⟩, na1⟩, ⟨⟨pg0, hd0, po0, sa0⟩, na2⟩, trivial⟩
    ⟨z0, z1, z2, z3, z4, z5, z6, z7, z8, z9, z10, z11, z12, z13, z14, z15, z16, z17, trivial⟩
  exact ⟨tx, ds, _, _, fd, t33, FF, rfl, rfl, rfl, fun s u => hb 33 t33 rfl s [u] rfl⟩
end K98
open PySem PySem.W PyProof.Rows
set_option maxRecDepth 100000 in
set_option maxHeartbeats 0 in
theorem PySem.Challenge.cw_whopickswhen_k98_whole_counts_holds : PySem.Challenge.rw_whopickswhen_k98_whole_counts.Holds := by
  w_on; o_law; k_head; (case hw => w_witness2)
  k_fill
  refine Pa.walk (l := PySem.Challenge.rw_whopickswhen_k98_whole_counts) (pg := K98.pg) (n := 10) (L := 33) (b := K98.d33) rfl (by decide) rfl ⟨rfl, by decide, by decide⟩ (fun w h Y => PySem.W.kIn_of Y) rfl rfl ?F K98.law_plain
  case F =>
    intro w mg fa h KX G hmg
    refine' K98.all_mk KX G hmg ?a0 ?a1 ?a2 ?a3 ?a4 ?a5 ?a6 ?a7 ?a8 ?a9 ?a10 ?a11 ?a12 ?a13 ?a14 ?a15 ?a16 ?a17 ?a18 ?a19 ?a20 ?a21 ?a22 ?a23 ?a24 ?a25 ?a26 ?a27 ?a28 ?a29 ?a30 ?a31 ?a32 ?a33 ?aC0 ?mk0 ?in0 ?if0 ?kc0 ?pg0 ?hd0 ?po0 ?sa0 ?mt0 ?mf0 ?mt1 ?mf1 ?mt2 ?mf2 ?na0 ?na1 ?na2 ?l0 ?cd0' ?k0 ?l1 ?cd1' ?k1 ?l2 ?cd2' ?k2 ?l3 ?cd3' ?k3 ?l4 ?cd4' ?k4 ?l5 ?cd5' ?k5 ?l6 ?cd6' ?k6 ?l7 ?cd7' ?k7 ?l8 ?cd8' ?k8 ?l9 ?cd9' ?k9 ?l10 ?cd10' ?k10 ?l11 ?cd11' ?k11 ?l12 ?cd12' ?k12 ?l13 ?cd13' ?k13 ?l14 ?cd14' ?k14 ?l15 ?cd15' ?k15 ?l16 ?cd16' ?k16 ?l17 ?cd17' ?k17 ?l18 ?cd18' ?k18 ?l19 ?cd19' ?k19 ?l20 ?cd20' ?k20 ?l21 ?cd21' ?k21 ?l22 ?cd22' ?k22 ?l23 ?cd23' ?k23 ?l24 ?cd24' ?k24 ?l25 ?cd25' ?k25 ?l26 ?cd26' ?k26 ?l27 ?cd27' ?k27 ?l28 ?cd28' ?k28 ?l29 ?cd29' ?k29 ?l30 ?cd30' ?k30 ?l31 ?cd31' ?k31 ?l32 ?cd32' ?k32 ?l33 ?cd33' ?k33 ?l34 ?cd34' ?k34 ?l35 ?cd35' ?k35 ?l36 ?cd36' ?k36 ?l37 ?cd37' ?k37 ?z0 ?z1 ?z2 ?z3 ?z4 ?z5 ?z6 ?z7 ?z8 ?z9 ?z10 ?z11 ?z12 ?z13 ?z14 ?z15 ?z16 ?z17
    (case a0 => k_is)
    (case a1 => k_is)
    (case a2 => k_is)
    (case a3 => k_is)
    (case a4 => k_is)
    (case a5 => k_is)
    (case a6 => k_is)
    (case a7 => k_is)
    (case a8 => k_is)
    (case a9 => k_is)
    (case a10 => k_is)
    (case a11 => k_is)
    (case a12 => k_is)
    (case a13 => k_is)
    (case a14 => k_is)
    (case a15 => k_is)
    (case a16 => k_is)
    (case a17 => k_is)
    (case a18 => k_is)
    (case a19 => k_is)
    (case a20 => k_is)
    (case a21 => k_is)
    (case a22 => k_is)
    (case a23 => k_is)
    (case a24 => k_is)
    (case a25 => k_is)
    (case a26 => k_is)
    (case a27 => k_is)
    (case a28 => k_is)
    (case a29 => k_is)
    (case a30 => k_is)
    (case a31 => k_is)
    (case a32 => k_is)
    (case a33 => k_is)
    (case aC0 => k_is)
    (case mk0 => k_is)
    (case in0 => k_is)
    (case if0 => k_is)
    (case kc0 => k_is)
    (case pg0 => k_is)
    (case hd0 => k_is)
    (case po0 => k_is)
    (case sa0 => k_is)
    (case mt0 => k_is)
    (case mf0 => k_is)
    (case mt1 => k_is)
    (case mf1 => k_is)
    (case mt2 => k_is)
    (case mf2 => k_is)
    (case na0 => k_is)
    (case na1 => k_is)
    (case na2 => k_is)
    (case l0 => k_is)
    (case cd0' => k_is)
    (case k0 => k_is)
    (case l1 => k_is)
    (case cd1' => k_is)
    (case k1 => k_is)
    (case l2 => k_is)
    (case cd2' => k_is)
    (case k2 => k_is)
    (case l3 => k_is)
    (case cd3' => k_is)
    (case k3 => k_is)
    (case l4 => k_is)
    (case cd4' => k_is)
    (case k4 => k_is)
    (case l5 => k_is)
    (case cd5' => k_is)
    (case k5 => k_is)
    (case l6 => k_is)
    (case cd6' => k_is)
    (case k6 => k_is)
    (case l7 => k_is)
    (case cd7' => k_is)
    (case k7 => k_is)
    (case l8 => k_is)
    (case cd8' => k_is)
    (case k8 => k_is)
    (case l9 => k_is)
    (case cd9' => k_is)
    (case k9 => k_is)
    (case l10 => k_is)
    (case cd10' => k_is)
    (case k10 => k_is)
    (case l11 => k_is)
    (case cd11' => k_is)
    (case k11 => k_is)
    (case l12 => k_is)
    (case cd12' => k_is)
    (case k12 => k_is)
    (case l13 => k_is)
    (case cd13' => k_is)
    (case k13 => k_is)
    (case l14 => k_is)
    (case cd14' => k_is)
    (case k14 => k_is)
    (case l15 => k_is)
    (case cd15' => k_is)
    (case k15 => k_is)
    (case l16 => k_is)
    (case cd16' => k_is)
    (case k16 => k_is)
    (case l17 => k_is)
    (case cd17' => k_is)
    (case k17 => k_is)
    (case l18 => k_is)
    (case cd18' => k_is)
    (case k18 => k_is)
    (case l19 => k_is)
    (case cd19' => k_is)
    (case k19 => k_is)
    (case l20 => k_is)
    (case cd20' => k_is)
    (case k20 => k_is)
    (case l21 => k_is)
    (case cd21' => k_is)
    (case k21 => k_is)
    (case l22 => k_is)
    (case cd22' => k_is)
    (case k22 => k_is)
    (case l23 => k_is)
    (case cd23' => k_is)
    (case k23 => k_is)
    (case l24 => k_is)
    (case cd24' => k_is)
    (case k24 => k_is)
    (case l25 => k_is)
    (case cd25' => k_is)
    (case k25 => k_is)
    (case l26 => k_is)
    (case cd26' => k_is)
    (case k26 => k_is)
    (case l27 => k_is)
    (case cd27' => k_is)
    (case k27 => k_is)
    (case l28 => k_is)
    (case cd28' => k_is)
    (case k28 => k_is)
    (case l29 => k_is)
    (case cd29' => k_is)
    (case k29 => k_is)
    (case l30 => k_is)
    (case cd30' => k_is)
    (case k30 => k_is)
    (case l31 => k_is)
    (case cd31' => k_is)
    (case k31 => k_is)
    (case l32 => k_is)
    (case cd32' => k_is)
    (case k32 => k_is)
    (case l33 => k_is)
    (case cd33' => k_is)
    (case k33 => k_is)
    (case l34 => k_is)
    (case cd34' => k_is)
    (case k34 => k_is)
    (case l35 => k_is)
    (case cd35' => k_is)
    (case k35 => k_is)
    (case l36 => k_is)
    (case cd36' => k_is)
    (case k36 => k_is)
    (case l37 => k_is)
    (case cd37' => k_is)
    (case k37 => k_is)
    (case z0 => k_is)
    (case z1 => k_is)
    (case z2 => k_is)
    (case z3 => k_is)
    (case z4 => k_is)
    (case z5 => k_is)
    (case z6 => k_is)
    (case z7 => k_is)
    (case z8 => k_is)
    (case z9 => k_is)
    (case z10 => k_is)
    (case z11 => k_is)
    (case z12 => k_is)
    (case z13 => k_is)
    (case z14 => k_is)
    (case z15 => k_is)
    (case z16 => k_is)
    (case z17 => k_is)
